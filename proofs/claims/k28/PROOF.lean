import PyProof.Rows.All
import PySem.Challenge.RW_takeback_k28_whole_a_ring_kept_mended
import Wide.All
import OpenK.AllK
import Wide.FinOn
import HandS.ForMost
import HandS.Walk
import KE.KDictKeyed
import KE.KDictDisplayH
import KE.KeyNested
import HandS.Dict
import HandS.Wide
import HandS.Style
import HandS.IsInst
import HandS.Exc
import HandS.WordsExc
import HandS.Conv
import HandS.SortInts
import HandS.SetFor
import HandS.Deep
import HandS.Small
import HandS.TupAny
import HandS.Zip
import KE.KUnpack
import KE.DataFind
import HandS.TupLen
import HandS.DictComp
import HandS.WordsDict
import HandS.SetBool
import HandS.More
import KE.SortData
import HandS.ExcInit
import HandS.ExcField
import HandS.ExcOwn
import HandS.ExcIs
import KE.KExcIs
import KE.KIsAll
import HandS.ClsMeth
import HandS.Words
import HandS.TryOnly
import KE.KDictPairs
import HandS.Iter
import HandS.NoneIn
import KE.KEqDict
import HandS.OwnEq
import HandS.MakeKwOnly
import PyProof.InstNe
set_option Elab.async false
set_option linter.all false
set_option maxRecDepth 100000
set_option maxHeartbeats 4000000
set_option autoImplicit false
set_option exponentiation.threshold 20000
namespace Nv
open PySem PySem.Spec PyProof.Rows L2

/-! data, cells, results -/
inductive D where
  | non
  | bl (b : Bool)
  | int (i : Int)
  | str (x : Str)
  | lst (xs : List D)
  | tup (xs : List D)
  | cell (i : Nat)
  | edct
  | fn (a : Addr)
  | exc (c : Str) (f : Str) (vs : List D)
inductive Cell where
  | lst (xs : List D)
  | dk (kvs : List (Key × D))
  | dt (kvs : List (List Key × D))
  | fz (xs : List D)
  | dn (kvs : List (NestedKey × D))
  | obj (c : Str) (fs : List (Str × D))
  | lk (kvs : List (Key × D))
def Cell.isFz : Cell → Bool
  | .fz _ => true
  | .lk _ => true
  | _ => false
structure Exn where
  cls : Str
  fld : Option (Str × D)
abbrev Sl := List (Option D)
abbrev Store := List Cell
inductive R (α : Type) where
  | ok (a : α)
  | ex (x : Exn) (C : Store)
  | no
def R.bind {α β : Type} : R α → (α → R β) → R β
  | .ok a, f => f a
  | .ex x C, _ => .ex x C
  | .no, _ => .no
theorem R.bind_ok {α β : Type} (a : α) (f : α → R β) : (R.ok a).bind f = f a := rfl
abbrev RE := R (D × Store)
abbrev ME := Sl → Store → RE

/-! keys that nest, without texts -/
mutual
def keyN : D → Option NestedKey
  | .non => some .none
  | .bl b => some (.num (if b then 1 else 0))
  | .int i => some (.num i)
  | .tup ds => (keysN ds).map .tup
  | .str _ => none
  | .lst _ => none
  | .cell _ => none
  | .edct => none
  | .fn _ => none
  | .exc _ _ _ => none
def keysN : List D → Option (List NestedKey)
  | [] => some []
  | d :: ds => (keyN d).bind fun k => (keysN ds).map (k :: ·)
end
mutual
def hash0 : NestedKey → Int
  | .none => reduceHash 0xFCA86420
  | .num i => hashInt i
  | .text _ => 0
  | .tup ks => reduceHash (Builtin.Tuple.tupleHashOf (hashes0 ks))
def hashes0 : List NestedKey → List Int
  | [] => []
  | k :: ks => hash0 k :: hashes0 ks
end
mutual
def noTx : NestedKey → Bool
  | .none => true
  | .num _ => true
  | .text _ => false
  | .tup ks => noTxs ks
def noTxs : List NestedKey → Bool
  | [] => true
  | k :: ks => noTx k && noTxs ks
end
mutual
theorem hash0_eq (w : World) : ∀ k : NestedKey, noTx k = true → k.hash w = hash0 k
  | .none, _ => rfl
  | .num _, _ => rfl
  | .text _, h => nomatch h
  | .tup ks, h => by
    show reduceHash (Builtin.Tuple.tupleHashOf (NestedKey.hashes w ks)) = reduceHash (Builtin.Tuple.tupleHashOf (hashes0 ks))
    rw [hashes0_eq w ks h]
theorem hashes0_eq (w : World) : ∀ ks : List NestedKey, noTxs ks = true → NestedKey.hashes w ks = hashes0 ks
  | [], _ => rfl
  | k :: ks, h => by
    have h : (noTx k && noTxs ks) = true := h
    rw [Bool.and_eq_true] at h
    show NestedKey.hash w k :: NestedKey.hashes w ks = hash0 k :: hashes0 ks
    rw [hash0_eq w k h.1, hashes0_eq w ks h.2]
end
mutual
theorem keyN_tx : ∀ (d : D) {k : NestedKey}, keyN d = some k → noTx k = true
  | .non, _, e => by cases e; rfl
  | .bl _, _, e => by cases e; rfl
  | .int _, _, e => by cases e; rfl
  | .tup ds, k, e => by
    have e : (keysN ds).map NestedKey.tup = some k := e
    cases h : keysN ds with
    | none => rw [h] at e; cases e
    | some ks =>
      rw [h] at e
      cases e
      exact keysN_tx ds h
  | .str _, _, e => nomatch e
  | .lst _, _, e => nomatch e
  | .cell _, _, e => nomatch e
  | .edct, _, e => nomatch e
  | .fn _, _, e => nomatch e
  | .exc _ _ _, _, e => nomatch e
theorem keysN_tx : ∀ (ds : List D) {ks : List NestedKey}, keysN ds = some ks → noTxs ks = true
  | [], _, e => by cases e; rfl
  | d :: ds, ks, e => by
    have e : (keyN d).bind (fun k => (keysN ds).map (k :: ·)) = some ks := e
    cases h : keyN d with
    | none => rw [h] at e; cases e
    | some k =>
      rw [h, Option.bind_some] at e
      cases g : keysN ds with
      | none => rw [g] at e; cases e
      | some ks' =>
        rw [g] at e
        cases e
        show (noTx k && noTxs ks') = true
        rw [keyN_tx d h, keysN_tx ds g]
        rfl
end
def entN (y : NestedKey × Addr × Value) : DictEntry := ⟨hash0 y.1, .ref y.2.1, y.2.2⟩
def NDφ (a : Addr) (xs : List (NestedKey × Addr × V)) (h : Heap) : Prop :=
  (a == sysModules) = false ∧ (∀ x ∈ xs, noTx x.1 = true) ∧ xs.length ≤ sizeLine ∧ ∃ ys : List (NestedKey × Addr × Value), Paired (fun x y => x.1 = y.1 ∧ x.2.1 = y.2.1 ∧ RelV x.2.2 y.2.2) xs ys ∧
    ∃ o es ep, h.get? a = some o ∧ o.ExactDict ∧ o.data = .dict es ep ∧ es.toList = ys.map entN ∧ (ys.map (·.1)).Nodup
abbrev ND (a : Addr) (xs : List (NestedKey × Addr × V)) : HO := .ext (NDφ a xs)
/-- an exception's object, its class, its dict -/
def excφ (a C : Addr) (d : Option Addr) (h : Heap) : Prop := ∃ oe : Obj, h.get? a = some oe ∧ oe.cls = .ref C ∧ oe.dict = d ∧ ∃ vs, oe.data = .fields vs
def ExAt (F : Hp) (a C : Addr) (f : Str) (us : List V) : Prop := ∃ d : Option Addr, F a = some (.ext (excφ a C d)) ∧ ((us = [] ∧ d = none) ∨ ∃ (u : V) (dd : Addr), us = [u] ∧ d = some dd ∧ F dd = some (.xd [(f, u)]))
theorem ExAt.mono {F F' : Hp} {a C : Addr} {f : Str} {us : List V} (e : Same F F') (h : ExAt F a C f us) : ExAt F' a C f us := by
  obtain ⟨d, h1, h2⟩ := h
  refine ⟨d, e _ _ h1, ?_⟩
  rcases h2 with h2 | ⟨u, dd, h3, h4, h5⟩
  · exact .inl h2
  · exact .inr ⟨u, dd, h3, h4, e _ _ h5⟩
/-! what represents what -/
mutual
def Rep (K : PySem.W.Frag) (F : Hp) (r : List Addr) : D → V → Prop
  | .non, v => v = .non
  | .bl b, v => v = .bl b
  | .int i, v => v = .int i
  | .str x, v => v = .str x
  | .lst ds, v => ∃ a vs, v = .ref a ∧ SqL K F a vs ∧ Reps K F r ds vs
  | .tup ds, v => ∃ a vs, v = .ref a ∧ SqT K F a vs ∧ Reps K F r ds vs
  | .cell i, v => ∃ a, v = .ref a ∧ r[i]? = some a
  | .edct, v => ∃ a, v = .ref a ∧ F a = some (.dK [])
  | .fn a, v => v = .ref a
  | .exc c f ds, v => ∃ (a C : Addr) (us : List V), v = .ref a ∧ PySem.W.nsIn K mainGlobals c = some (some (.ref C)) ∧ ExAt F a C f us ∧ Reps K F r ds us
def Reps (K : PySem.W.Frag) (F : Hp) (r : List Addr) : List D → List V → Prop
  | [], vs => vs = []
  | d :: ds, vs => ∃ v w, vs = v :: w ∧ Rep K F r d v ∧ Reps K F r ds w
end
def Ex (r r' : List Addr) : Prop := ∀ (i : Nat) (a : Addr), r[i]? = some a → r'[i]? = some a
theorem Ex.refl (r : List Addr) : Ex r r := fun _ _ h => h
theorem Ex.trans {r r1 r2 : List Addr} (h : Ex r r1) (k : Ex r1 r2) : Ex r r2 := fun i a e => k i a (h i a e)
theorem Ex.app (r t : List Addr) : Ex r (r ++ t) := fun i a e => by
  rw [List.getElem?_append_left (List.getElem?_eq_some_iff.mp e).1]
  exact e
theorem Same.tup {K : PySem.W.Frag} {H H' : Hp} {a : Addr} {xs : List V} (e : Same H H') (h : SqT K H a xs) : SqT K H' a xs := by
  rcases h with (h | ⟨o, h⟩) | h
  · exact .inl (.inl (e _ _ h))
  · exact .inl (.inr ⟨o, e _ _ h⟩)
  · exact .inr h
section
variable {K : PySem.W.Frag} {B F F' H H' : Hp} {r r' : List Addr} {C : Store}
mutual
theorem Rep.mono (hF : Same F F') (hr : Ex r r') : ∀ {d : D} {v : V}, Rep K F r d v → Rep K F' r' d v
  | .non, _, h => h
  | .bl _, _, h => h
  | .int _, _, h => h
  | .str _, _, h => h
  | .lst ds, _, h => by
    obtain ⟨a, vs, e, s, q⟩ := h
    exact ⟨a, vs, e, hF.seq s, Reps.mono hF hr q⟩
  | .tup ds, _, h => by
    obtain ⟨a, vs, e, s, q⟩ := h
    exact ⟨a, vs, e, Same.tup hF s, Reps.mono hF hr q⟩
  | .cell i, _, h => by
    obtain ⟨a, e, q⟩ := h
    exact ⟨a, e, hr _ _ q⟩
  | .edct, _, h => by
    obtain ⟨a, e, q⟩ := h
    exact ⟨a, e, hF _ _ q⟩
  | .fn _, _, h => h
  | .exc c f ds, _, h => by
    obtain ⟨a, C, us, e, h1, h2, q⟩ := h
    exact ⟨a, C, us, e, h1, h2.mono hF, Reps.mono hF hr q⟩
theorem Reps.mono (hF : Same F F') (hr : Ex r r') : ∀ {ds : List D} {vs : List V}, Reps K F r ds vs → Reps K F' r' ds vs
  | [], _, h => h
  | d :: ds, _, h => by
    obtain ⟨v, w, e, h1, h2⟩ := h
    exact ⟨v, w, e, Rep.mono hF hr h1, Reps.mono hF hr h2⟩
end
theorem Reps.length : ∀ {ds : List D} {vs : List V}, Reps K F r ds vs → ds.length = vs.length
  | [], _, h => by cases (show _ = [] from h); rfl
  | d :: ds, _, h => by
    obtain ⟨v, w, rfl, _, h2⟩ := h
    simp [Reps.length h2]
theorem Reps.get : ∀ {ds : List D} {vs : List V} {i : Nat} {d : D}, Reps K F r ds vs → ds[i]? = some d → ∃ v, vs[i]? = some v ∧ Rep K F r d v
  | [], _, _, _, _, e => by simp at e
  | d :: ds, _, 0, _, h, e => by
    obtain ⟨v, w, rfl, h1, _⟩ := h
    simp at e
    subst e
    exact ⟨v, rfl, h1⟩
  | d :: ds, _, i + 1, _, h, e => by
    obtain ⟨v, w, rfl, _, h2⟩ := h
    simp at e
    obtain ⟨v', q1, q2⟩ := Reps.get h2 e
    exact ⟨v', by simpa using q1, q2⟩
theorem Reps.nil : Reps K F r [] [] := rfl
theorem Reps.cons {d : D} {v : V} {ds : List D} {vs : List V} (h : Rep K F r d v) (t : Reps K F r ds vs) : Reps K F r (d :: ds) (v :: vs) := ⟨v, vs, rfl, h, t⟩
theorem Reps.append : ∀ {ds es : List D} {vs ws : List V}, Reps K F r ds vs → Reps K F r es ws → Reps K F r (ds ++ es) (vs ++ ws)
  | [], _, _, _, h, k => by cases (show _ = [] from h); exact k
  | d :: ds, _, _, _, h, k => by
    obtain ⟨v, w, rfl, h1, h2⟩ := h
    exact .cons h1 (Reps.append h2 k)
theorem Reps.one {d : D} {v : V} (h : Rep K F r d v) : Reps K F r [d] [v] := .cons h .nil
theorem Reps.set {d : D} {v : V} (h : Rep K F r d v) : ∀ {ds : List D} {vs : List V} (i : Nat), Reps K F r ds vs → Reps K F r (ds.set i d) (vs.set i v)
  | [], _, _, k => by cases (show _ = [] from k); exact .nil
  | _ :: _, _, 0, k => by
    obtain ⟨v, w, rfl, h1, h2⟩ := k
    exact .cons h h2
  | _ :: _, _, i + 1, k => by
    obtain ⟨v, w, rfl, h1, h2⟩ := k
    exact .cons h1 (Reps.set h i h2)
theorem Reps.take : ∀ {ds : List D} {vs : List V} (n : Nat), Reps K F r ds vs → Reps K F r (ds.take n) (vs.take n)
  | _, _, 0, _ => .nil
  | [], _, n + 1, h => by cases (show _ = [] from h); exact .nil
  | _ :: _, _, n + 1, h => by
    obtain ⟨v, w, rfl, h1, h2⟩ := h
    exact .cons h1 (Reps.take n h2)
theorem Reps.drop : ∀ {ds : List D} {vs : List V} (n : Nat), Reps K F r ds vs → Reps K F r (ds.drop n) (vs.drop n)
  | _, _, 0, h => h
  | [], _, n + 1, h => by cases (show _ = [] from h); exact .nil
  | _ :: _, _, n + 1, h => by
    obtain ⟨v, w, rfl, h1, h2⟩ := h
    exact Reps.drop n h2
theorem Reps.dropLast {ds : List D} {vs : List V} (h : Reps K F r ds vs) : Reps K F r ds.dropLast vs.dropLast := by
  rw [List.dropLast_eq_take, List.dropLast_eq_take, h.length]
  exact h.take _
theorem Reps.eraseIdx : ∀ {ds : List D} {vs : List V} (i : Nat), Reps K F r ds vs → Reps K F r (ds.eraseIdx i) (vs.eraseIdx i)
  | [], _, i, h => by cases (show _ = [] from h); exact .nil
  | _ :: _, _, 0, h => by
    obtain ⟨v, w, rfl, h1, h2⟩ := h
    exact h2
  | _ :: _, _, i + 1, h => by
    obtain ⟨v, w, rfl, h1, h2⟩ := h
    exact .cons h1 (Reps.eraseIdx i h2)
theorem Reps.rep {ds : List D} {vs : List V} (h : Reps K F r ds vs) : ∀ k : Nat, Reps K F r (List.replicate k ds).flatten (List.replicate k vs).flatten
  | 0 => .nil
  | k + 1 => by
    simp only [List.replicate_succ, List.flatten_cons]
    exact h.append (h.rep k)
theorem Reps.ints : ∀ {ns : List Int} {vs : List V}, Reps K F r (ns.map D.int) vs → vs = ns.map V.int
  | [], _, h => h
  | n :: ns, _, h => by
    obtain ⟨v, w, rfl, h1, h2⟩ := h
    rw [Reps.ints h2, show v = V.int n from h1]
    rfl
theorem Reps.ofInts : ∀ (ns : List Int), Reps K F r (ns.map D.int) (ns.map V.int)
  | [] => rfl
  | n :: ns => .cons rfl (Reps.ofInts ns)

/-! the state -/
def CellOk (K : PySem.W.Frag) (F : Hp) (r : List Addr) (H : Hp) (a : Addr) : Cell → Prop
  | .lst ds => F a = none ∧ ∃ vs, H a = some (.lst vs) ∧ Reps K F r ds vs
  | .dk kvs => F a = none ∧ ∃ vs, H a = some (.dK vs) ∧ kvs.map (·.1) = vs.map (·.1) ∧ Reps K F r (kvs.map (·.2)) (vs.map (·.2))
  | .dt kvs => F a = none ∧ ∃ vs, H a = some (.dT vs) ∧ kvs.map (·.1) = vs.map (·.1) ∧ Reps K F r (kvs.map (·.2)) (vs.map (·.2))
  | .fz ds => ∃ vs, F a = some (.lst vs) ∧ Reps K F r ds vs
  | .dn kvs => F a = none ∧ ∃ xs, H a = some (ND a xs) ∧ kvs.map (·.1) = xs.map (·.1) ∧ Reps K F r (kvs.map (·.2)) (xs.map (·.2.2)) ∧ ∀ x ∈ xs, ∃ d, keyN d = some x.1 ∧ x.1.depth ≤ 8 ∧ Rep K F r d (.ref x.2.1)
  | .obj c fs => F a = none ∧ ∃ (C dx : Addr) (gs : List (Str × V)), PySem.W.nsIn K mainGlobals c = some (some (.ref C)) ∧ H a = some (.ins C dx gs) ∧ fs.map (·.1) = gs.map (·.1) ∧ Reps K F r (fs.map (·.2)) (gs.map (·.2))
  | .lk kvs => ∃ o vs, F a = some (.frz o (.dK vs)) ∧ kvs.map (·.1) = vs.map (·.1) ∧ Reps K F r (kvs.map (·.2)) (vs.map (·.2))
structure Rel (K : PySem.W.Frag) (B F : Hp) (r : List Addr) (H : Hp) (C : Store) : Prop where
  froz : Same F H
  base : Same B H
  apart : ∀ (a : Addr) (o : HO), B a = some o → F a = none
  offB : ∀ (i : Nat) (a : Addr), r[i]? = some a → B a = none
  len : r.length = C.length
  cells : ∀ (i : Nat) (c : Cell) (a : Addr), C[i]? = some c → r[i]? = some a → CellOk K F r H a c
  inj : ∀ (i j : Nat) (a : Addr), r[i]? = some a → r[j]? = some a → i = j
def Sls (K : PySem.W.Frag) (F : Hp) (r : List Addr) (sl : Sl) (s : L2.St) : Prop :=
  s.length = sl.length ∧ ∀ (i : Nat) (d : D), sl[i]? = some (some d) → ∃ v, s[i]? = some (some v) ∧ Rep K F r d v
theorem Sls.mono {sl : Sl} {s : L2.St} (h : Sls K F r sl s) (hF : Same F F') (hr : Ex r r') : Sls K F' r' sl s :=
  ⟨h.1, fun i d e => let ⟨v, q1, q2⟩ := h.2 i d e; ⟨v, q1, q2.mono hF hr⟩⟩
theorem CellOk.mono {a : Addr} {c : Cell} (hr : Ex r r') (hF : Same F F') (hn : F' a = none ∨ c.isFz = true) (hH : ∀ o, H a = some o → H' a = some o) (h : CellOk K F r H a c) : CellOk K F' r' H' a c := by
  cases c with
  | lst ds =>
    obtain ⟨h1, vs, h2, h3⟩ := h
    exact ⟨hn.resolve_right (by intro z; cases z), vs, hH _ h2, h3.mono hF hr⟩
  | dk kvs =>
    obtain ⟨h1, vs, h2, h3, h4⟩ := h
    exact ⟨hn.resolve_right (by intro z; cases z), vs, hH _ h2, h3, h4.mono hF hr⟩
  | dt kvs =>
    obtain ⟨h1, vs, h2, h3, h4⟩ := h
    exact ⟨hn.resolve_right (by intro z; cases z), vs, hH _ h2, h3, h4.mono hF hr⟩
  | fz ds =>
    obtain ⟨vs, h1, h2⟩ := h
    exact ⟨vs, hF _ _ h1, h2.mono hF hr⟩
  | dn kvs =>
    obtain ⟨h1, xs, h2, h3, h4, h5⟩ := h
    exact ⟨hn.resolve_right (by intro z; cases z), xs, hH _ h2, h3, h4.mono hF hr, fun x hx => let ⟨d, k1, k2, k3⟩ := h5 x hx; ⟨d, k1, k2, k3.mono hF hr⟩⟩
  | obj c fs =>
    obtain ⟨h1, C, dx, gs, h2, h3, h4, h5⟩ := h
    exact ⟨hn.resolve_right (by intro z; cases z), C, dx, gs, h2, hH _ h3, h4, h5.mono hF hr⟩
  | lk kvs =>
    obtain ⟨o, vs, h1, h2, h3⟩ := h
    exact ⟨o, vs, hF _ _ h1, h2, h3.mono hF hr⟩
theorem CellOk.there {a : Addr} {c : Cell} (hF : Same F H) (h : CellOk K F r H a c) : ∃ o, H a = some o := by
  cases c with
  | lst ds => obtain ⟨h1, vs, h2, h3⟩ := h; exact ⟨_, h2⟩
  | dk kvs => obtain ⟨h1, vs, h2, h3⟩ := h; exact ⟨_, h2⟩
  | dt kvs => obtain ⟨h1, vs, h2, h3⟩ := h; exact ⟨_, h2⟩
  | fz ds => obtain ⟨vs, h1, h2⟩ := h; exact ⟨_, hF _ _ h1⟩
  | dn kvs => obtain ⟨h1, xs, h2, h3⟩ := h; exact ⟨_, h2⟩
  | obj c fs => obtain ⟨h1, C, dx, gs, h2, h3, h4⟩ := h; exact ⟨_, h3⟩
  | lk kvs => obtain ⟨o, vs, h1, h2, h3⟩ := h; exact ⟨_, hF _ _ h1⟩
theorem CellOk.notF {a : Addr} {c : Cell} (h : CellOk K F r H a c) : F a = none ∨ c.isFz = true := by
  cases c with
  | lst ds => exact .inl h.1
  | dk kvs => exact .inl h.1
  | dt kvs => exact .inl h.1
  | fz ds => exact .inr rfl
  | dn kvs => exact .inl h.1
  | obj c fs => exact .inl h.1
  | lk kvs => exact .inr rfl
theorem Rel.cellAt (h : Rel K B F r H C) {i : Nat} {a : Addr} (e : r[i]? = some a) : ∃ c, C[i]? = some c ∧ CellOk K F r H a c := by
  have hi : i < C.length := by
    rw [← h.len]
    exact (List.getElem?_eq_some_iff.mp e).1
  exact ⟨C[i], List.getElem?_eq_getElem hi, h.cells i _ a (List.getElem?_eq_getElem hi) e⟩
theorem Rel.addrAt (h : Rel K B F r H C) {i : Nat} {c : Cell} (e : C[i]? = some c) : ∃ a, r[i]? = some a ∧ CellOk K F r H a c := by
  have hi : i < r.length := by
    rw [h.len]
    exact (List.getElem?_eq_some_iff.mp e).1
  exact ⟨r[i], List.getElem?_eq_getElem hi, h.cells i c _ e (List.getElem?_eq_getElem hi)⟩
theorem Rel.notin (h : Rel K B F r H C) {p : Addr} (hp : H p = none) {i : Nat} {a : Addr} (e : r[i]? = some a) : a ≠ p := by
  obtain ⟨c, _, q⟩ := h.cellAt e
  obtain ⟨o, ho⟩ := q.there h.froz
  exact ne_of_none ho hp
theorem Rel.freeF (h : Rel K B F r H C) {p : Addr} (hp : H p = none) : F p = none := Same.free h.froz hp
theorem same_new {H : Hp} {p : Addr} {o : HO} (h : H p = none) : Same H (upd H p o) := fun b x e => by
  rw [upd_ne (ne_of_none e h)]
  exact e
/-- a new frozen object -/
theorem Rel.freeze (h : Rel K B F r H C) {p : Addr} {o : HO} (hp : H p = none) : Rel K B (upd F p o) r (upd H p o) C where
  froz := fun b x e => by
    by_cases hb : b = p
    · subst hb
      rw [upd_same] at e ⊢
      exact e
    · rw [upd_ne hb] at e ⊢
      exact h.froz b x e
  base := h.base.trans (same_new hp)
  apart := fun a x e => by
    rw [upd_ne (ne_of_none (h.base a x e) hp)]
    exact h.apart a x e
  offB := h.offB
  len := h.len
  cells := fun i c a e1 e2 => by
    have hne := h.notin hp e2
    have q := h.cells i c a e1 e2
    refine q.mono (.refl r) (same_new (h.freeF hp)) ?_ fun o ho => by rw [upd_ne hne]; exact ho
    rw [upd_ne hne]
    exact q.notF
  inj := h.inj
/-- an object of nobody's is new, not tracked by us -/
theorem Rel.junk (h : Rel K B F r H C) {p : Addr} {o : HO} (hp : H p = none) : Rel K B F r (upd H p o) C where
  froz := fun b x e => by
    rw [upd_ne (ne_of_none (h.froz b x e) hp)]
    exact h.froz b x e
  base := h.base.trans (same_new hp)
  apart := h.apart
  offB := h.offB
  len := h.len
  cells := fun i c a e1 e2 => by
    have hne := h.notin hp e2
    have q := h.cells i c a e1 e2
    exact q.mono (.refl r) (.refl F) q.notF fun o ho => by rw [upd_ne hne]; exact ho
  inj := h.inj
/-- a new cell -/
theorem Rel.alloc (h : Rel K B F r H C) {p : Addr} {o : HO} {c : Cell} (hp : H p = none) (hc : CellOk K F (r ++ [p]) (upd H p o) p c) : Rel K B F (r ++ [p]) (upd H p o) (C ++ [c]) where
  froz := (h.junk hp).froz
  base := (h.junk hp).base
  apart := h.apart
  offB := fun i a e => by
    by_cases hi : i < r.length
    · rw [List.getElem?_append_left hi] at e
      exact h.offB i a e
    · rw [List.getElem?_append_right (by omega)] at e
      have e : p = a := by
        cases hj : i - r.length with
        | zero => rw [hj] at e; simpa using e
        | succ n => rw [hj] at e; simp at e
      subst e
      exact Same.free h.base hp
  len := by simp [h.len]
  cells := fun i c' a e1 e2 => by
    by_cases hi : i < r.length
    · rw [List.getElem?_append_left hi] at e2
      rw [List.getElem?_append_left (by rw [← h.len]; exact hi)] at e1
      exact ((h.junk (o := o) hp).cells i c' a e1 e2).mono (Ex.app r [p]) (.refl F) ((h.junk (o := o) hp).cells i c' a e1 e2).notF fun _ q => q
    · have hl : i < (r ++ [p]).length := (List.getElem?_eq_some_iff.mp e2).1
      have hi2 : i = r.length := by simp at hl; omega
      subst hi2
      rw [List.getElem?_append_right (Nat.le_refl _)] at e2
      rw [h.len, List.getElem?_append_right (Nat.le_refl _)] at e1
      simp at e1 e2
      subst e1 e2
      exact hc
  inj := fun i j a e1 e2 => by
    have hl1 : i < (r ++ [p]).length := (List.getElem?_eq_some_iff.mp e1).1
    have hl2 : j < (r ++ [p]).length := (List.getElem?_eq_some_iff.mp e2).1
    simp at hl1 hl2
    by_cases hi : i < r.length
    · rw [List.getElem?_append_left hi] at e1
      by_cases hj : j < r.length
      · rw [List.getElem?_append_left hj] at e2
        exact h.inj i j a e1 e2
      · have : j = r.length := by omega
        subst this
        rw [List.getElem?_append_right (Nat.le_refl _)] at e2
        simp at e2
        exact absurd e2.symm (h.notin hp e1)
    · have : i = r.length := by omega
      subst this
      rw [List.getElem?_append_right (Nat.le_refl _)] at e1
      simp at e1
      by_cases hj : j < r.length
      · rw [List.getElem?_append_left hj] at e2
        exact absurd e1.symm (h.notin hp e2)
      · omega
/-- a cell written -/
theorem Rel.write (h : Rel K B F r H C) {i : Nat} {a : Addr} {o : HO} {c : Cell} (e : r[i]? = some a) (hn : F a = none) (hc : CellOk K F r (upd H a o) a c) : Rel K B F r (upd H a o) (C.set i c) where
  froz := fun b x q => by
    rw [upd_ne (ne_of_none q hn)]
    exact h.froz b x q
  base := fun b x q => by
    rw [upd_ne (ne_of_none q (h.offB i a e))]
    exact h.base b x q
  apart := h.apart
  offB := h.offB
  len := by simp [h.len]
  cells := fun j c' b e1 e2 => by
    by_cases hj : j = i
    · subst hj
      rw [e] at e2
      cases e2
      rw [List.getElem?_set_self (by rw [← h.len]; exact (List.getElem?_eq_some_iff.mp e).1)] at e1
      cases e1
      exact hc
    · rw [List.getElem?_set_ne (Ne.symm hj)] at e1
      have hba : b ≠ a := fun z => hj (h.inj j i b e2 (z ▸ e))
      have q := h.cells j c' b e1 e2
      exact q.mono (.refl r) (.refl F) q.notF fun o ho => by rw [upd_ne hba]; exact ho
  inj := h.inj
/-- a cell frozen for good -/
theorem Rel.kill (h : Rel K B F r H C) {i : Nat} {a : Addr} {vs : List V} {ds : List D} (e : r[i]? = some a) (hn : F a = none) (ho : H a = some (.lst vs)) (hd : Reps K F r ds vs) : Rel K B (upd F a (.lst vs)) r H (C.set i (.fz ds)) ∧ Same F (upd F a (.lst vs)) := by
  refine ⟨⟨fun b x q => ?_, h.base, fun b x q => ?_, h.offB, by simp [h.len], fun j c' b e1 e2 => ?_, h.inj⟩, same_new hn⟩
  · by_cases hb : b = a
    · subst hb
      rw [upd_same] at q
      rw [← q]
      exact ho
    · rw [upd_ne hb] at q
      exact h.froz b x q
  · rw [upd_ne (ne_of_none q (h.offB i a e))]
    exact h.apart b x q
  · by_cases hj : j = i
    · subst hj
      rw [e] at e2
      cases e2
      rw [List.getElem?_set_self (by rw [← h.len]; exact (List.getElem?_eq_some_iff.mp e).1)] at e1
      cases e1
      exact ⟨vs, upd_same, hd.mono (same_new hn) (.refl r)⟩
    · rw [List.getElem?_set_ne (Ne.symm hj)] at e1
      have hba : b ≠ a := fun z => hj (h.inj j i b e2 (z ▸ e))
      have q := h.cells j c' b e1 e2
      refine q.mono (.refl r) (same_new hn) ?_ fun _ z => z
      rw [upd_ne hba]
      exact q.notF
/-- the first cells alone -/
theorem Rel.cut (h : Rel K B F r H C) (n : Nat) (hn : n ≤ C.length) (hc : ∀ (i : Nat) (c : Cell) (a : Addr), i < n → C[i]? = some c → r[i]? = some a → CellOk K F (r.take n) H a c) : Rel K B F (r.take n) H (C.take n) where
  froz := h.froz
  base := h.base
  apart := h.apart
  offB := fun i a e => by
    have hi : i < (r.take n).length := (List.getElem?_eq_some_iff.mp e).1
    have hi : i < n := by simp at hi; omega
    rw [List.getElem?_take_of_lt hi] at e
    exact h.offB i a e
  len := by simp [h.len]
  cells := fun i c a e1 e2 => by
    have hi : i < (C.take n).length := (List.getElem?_eq_some_iff.mp e1).1
    have hi : i < n := by simp at hi; omega
    rw [List.getElem?_take_of_lt hi] at e1 e2
    exact hc i c a hi e1 e2
  inj := fun i j a e1 e2 => by
    have hi : i < (r.take n).length := (List.getElem?_eq_some_iff.mp e1).1
    have hj : j < (r.take n).length := (List.getElem?_eq_some_iff.mp e2).1
    have hi : i < n := by simp at hi; omega
    have hj : j < n := by simp at hj; omega
    rw [List.getElem?_take_of_lt hi] at e1
    rw [List.getElem?_take_of_lt hj] at e2
    exact h.inj i j a e1 e2
/-- one thing more that stands by itself -/
theorem Rel.aside (h : Rel K B F r H C) {p : Addr} {o : HO} (hp : H p = none) : Rel K (upd B p o) F r (upd H p o) C where
  froz := (h.junk hp).froz
  base := fun b x q => by
    by_cases hb : b = p
    · subst hb
      rw [upd_same] at q ⊢
      exact q
    · rw [upd_ne hb] at q ⊢
      exact h.base b x q
  apart := fun b x q => by
    by_cases hb : b = p
    · subst hb
      exact h.freeF hp
    · rw [upd_ne hb] at q
      exact h.apart b x q
  offB := fun i a e => by
    rw [upd_ne (h.notin hp e)]
    exact h.offB i a e
  len := h.len
  cells := (h.junk hp).cells
  inj := h.inj
/-- it changes -/
theorem Rel.asideSet {p : Addr} {o u : HO} (h : Rel K (upd B p o) F r H C) : Rel K (upd B p u) F r (upd H p u) C where
  froz := fun b x q => by
    rw [upd_ne fun z => by subst z; rw [h.apart b o upd_same] at q; cases q]
    exact h.froz b x q
  base := fun b x q => by
    by_cases hb : b = p
    · subst hb
      rw [upd_same] at q ⊢
      exact q
    · rw [upd_ne hb] at q ⊢
      exact h.base b x (by rw [upd_ne hb]; exact q)
  apart := fun b x q => by
    by_cases hb : b = p
    · subst hb
      exact h.apart b o upd_same
    · rw [upd_ne hb] at q
      exact h.apart b x (by rw [upd_ne hb]; exact q)
  offB := fun i a e => by
    have q := h.offB i a e
    by_cases hb : a = p
    · subst hb
      rw [upd_same] at q
      cases q
    · rw [upd_ne hb] at q ⊢
      exact q
  len := h.len
  cells := fun i c a e1 e2 => by
    have q := h.cells i c a e1 e2
    have hne : a ≠ p := fun z => by
      subst z
      have q := h.offB i a e2
      rw [upd_same] at q
      cases q
    exact q.mono (.refl r) (.refl F) q.notF fun o ho => by rw [upd_ne hne]; exact ho
  inj := h.inj
/-- it is let go: frozen -/
theorem Rel.asideFreeze {p : Addr} {o : HO} (h : Rel K (upd B p o) F r H C) (hB : B p = none) : Rel K B (upd F p o) r H C ∧ Same F (upd F p o) := by
  have hp : H p = some o := h.base p o upd_same
  have hF : F p = none := h.apart p o upd_same
  refine ⟨⟨fun b x q => ?_, fun b x q => ?_, fun b x q => ?_, fun i a e => ?_, h.len, fun i c a e1 e2 => ?_, h.inj⟩, same_new hF⟩
  · by_cases hb : b = p
    · subst hb
      rw [upd_same] at q
      rw [← q]
      exact hp
    · rw [upd_ne hb] at q
      exact h.froz b x q
  · exact h.base b x (by rw [upd_ne (ne_of_none q hB)]; exact q)
  · rw [upd_ne (ne_of_none q hB)]
    exact h.apart b x (by rw [upd_ne (ne_of_none q hB)]; exact q)
  · have q := h.offB i a e
    by_cases hb : a = p
    · subst hb
      exact hB
    · rw [upd_ne hb] at q
      exact q
  · have q := h.cells i c a e1 e2
    have hne : a ≠ p := fun z => by
      subst z
      have q := h.offB i a e2
      rw [upd_same] at q
      cases q
    refine q.mono (.refl r) (same_new hF) ?_ fun _ z => z
    rw [upd_ne hne]
    exact q.notF
/-- .. as a cell -/
theorem Rel.asideCell {p : Addr} {o : HO} {c : Cell} (h : Rel K (upd B p o) F r H C) (hB : B p = none) (hc : CellOk K F (r ++ [p]) H p c) : Rel K B F (r ++ [p]) H (C ++ [c]) := by
  have hp : H p = some o := h.base p o upd_same
  have hF : F p = none := h.apart p o upd_same
  have nin : ∀ (i : Nat) (a : Addr), r[i]? = some a → a ≠ p := fun i a e z => by
    subst z
    have q := h.offB i a e
    rw [upd_same] at q
    cases q
  have last : ∀ (i : Nat) (a : Addr), (r ++ [p])[i]? = some a → r[i]? = some a ∨ (i = r.length ∧ a = p) := fun i a e => by
    by_cases hi : i < r.length
    · rw [List.getElem?_append_left hi] at e
      exact .inl e
    · rw [List.getElem?_append_right (by omega)] at e
      cases hj : i - r.length with
      | zero => rw [hj] at e; exact .inr ⟨by omega, by simpa using e.symm⟩
      | succ n => rw [hj] at e; simp at e
  refine ⟨h.froz, fun b x q => ?_, fun b x q => ?_, fun i a e => ?_, by simp [h.len], fun i c' a e1 e2 => ?_, fun i j a e1 e2 => ?_⟩
  · exact h.base b x (by rw [upd_ne (ne_of_none q hB)]; exact q)
  · exact h.apart b x (by rw [upd_ne (ne_of_none q hB)]; exact q)
  · rcases last i a e with e | ⟨_, e⟩
    · have q := h.offB i a e
      rw [upd_ne (nin i a e)] at q
      exact q
    · rw [e]
      exact hB
  · rcases last i a e2 with e | ⟨e, e'⟩
    · have hi : i < C.length := by
        rw [← h.len]
        exact (List.getElem?_eq_some_iff.mp e).1
      rw [List.getElem?_append_left hi] at e1
      have q := h.cells i c' a e1 e
      exact q.mono (Ex.app r [p]) (.refl F) q.notF fun _ z => z
    · subst e e'
      rw [h.len, List.getElem?_append_right (Nat.le_refl _)] at e1
      simp at e1
      subst e1
      exact hc
  · rcases last i a e1 with e | ⟨e, e'⟩
    · rcases last j a e2 with k | ⟨k, k'⟩
      · exact h.inj i j a e k
      · exact absurd k' (nin i a e)
    · rcases last j a e2 with k | ⟨k, k'⟩
      · exact absurd e' (nin j a k)
      · rw [e, k]
end
end Nv

namespace Nv
open PySem PySem.Spec PyProof.Rows L2

/-! what is wanted of a result -/
def XOk (K : PySem.W.Frag) (mg : Str → Option Value) (E : XK) (B F : Hp) (r : List Addr) (x : Exn) (C : Store) : Prop :=
  ∀ (F' : Hp) (r' : List Addr) (H' : Hp) (a : Addr), Same F F' → Ex r r' → Rel K B F' r' H' C → mg x.cls = some (.ref a) →
    match x.fld with
    | none => E (.ref a) none H'
    | some (f, d) => ∀ (dx : Addr) (v : V), F' dx = some (.xd [(f, v)]) → Rep K F' r' d v → E (.ref a) (some dx) H'
abbrev PR (S T : Type) := Hp → List Addr → S → T → Prop
def Out {S T : Type} (P : PR S T) (K : PySem.W.Frag) (mg : Str → Option Value) (E : XK) (B F : Hp) (r : List Addr) (o : R (S × Store)) (Q : T → Hp → Prop) : Prop :=
  match o with
  | .ok (a, C) => ∀ (F' : Hp) (r' : List Addr) (H' : Hp) (b : T), Same F F' → Ex r r' → Rel K B F' r' H' C → P F' r' a b → Q b H'
  | .ex x C => XOk K mg E B F r x C
  | .no => False
abbrev PB : PR Bool Bool := fun _ _ a b => a = b
section
variable {K : PySem.W.Frag} {mg : Str → Option Value} {E : XK} {B F F1 : Hp} {r r1 : List Addr} {S T S2 T2 : Type} {P : PR S T} {P2 : PR S2 T2}
theorem XOk.mono {x : Exn} {C : Store} (h : XOk K mg E B F r x C) (hF : Same F F1) (hr : Ex r r1) : XOk K mg E B F1 r1 x C :=
  fun F' r' H' a h1 h2 h3 h4 => h F' r' H' a (hF.trans h1) (hr.trans h2) h3 h4
theorem Out.mono {o : R (S × Store)} {Q : T → Hp → Prop} (h : Out P K mg E B F r o Q) (hF : Same F F1) (hr : Ex r r1) : Out P K mg E B F1 r1 o Q := by
  cases o with
  | ok p => exact fun F' r' H' b h1 h2 h3 h4 => h F' r' H' b (hF.trans h1) (hr.trans h2) h3 h4
  | ex x C => exact XOk.mono h hF hr
  | no => exact h
theorem Out.bind {o : R (S × Store)} {k : S × Store → R (S2 × Store)} {Q : T2 → Hp → Prop} {Q' : T → Hp → Prop} (h : Out P2 K mg E B F r (o.bind k) Q)
    (hk : ∀ (a : S) (C1 : Store) (F1 : Hp) (r1 : List Addr) (H1 : Hp) (b : T), Same F F1 → Ex r r1 → Rel K B F1 r1 H1 C1 → P F1 r1 a b → Out P2 K mg E B F1 r1 (k (a, C1)) Q → Q' b H1) : Out P K mg E B F r o Q' := by
  cases o with
  | ok p =>
    obtain ⟨a, C1⟩ := p
    exact fun F' r' H' b h1 h2 h3 h4 => hk a C1 F' r' H' b h1 h2 h3 h4 (Out.mono h h1 h2)
  | ex x C => exact h
  | no => exact h
theorem Out.imp {o : R (S × Store)} {Q Q' : T → Hp → Prop} (h : Out P K mg E B F r o Q) (hq : ∀ b H, Q b H → Q' b H) : Out P K mg E B F r o Q' := by
  cases o with
  | ok p => exact fun F' r' H' b h1 h2 h3 h4 => hq _ _ (h F' r' H' b h1 h2 h3 h4)
  | ex x C => exact h
  | no => exact h
end
abbrev MG (S : Type) := Sl → Store → R (S × Store)
def LG {S T : Type} (P : PR S T) (K : PySem.W.Frag) (mg : Str → Option Value) (E : XK) (m : MG S) : L2.St → Hp → (T → Hp → Prop) → Prop := fun s H Q =>
  ∃ B F r sl C, Rel K B F r H C ∧ Sls K F r sl s ∧ Out P K mg E B F r (m sl C) Q
/-- expressions, tests, argument lists -/
structure NE (X : Cx) (E : XK) (e : Expr) (m : ME) : Prop where
  pe : PE X e (LG (Rep X.K) X.K X.mg E m)
structure NT (X : Cx) (E : XK) (e : Expr) (m : MG Bool) : Prop where
  pt : PT X e (LG PB X.K X.mg E m)
structure NW (X : Cx) (E : XK) (e : Expr) (m : MG Bool) : Prop where
  pw : PW X e (LG PB X.K X.mg E m)
structure NA (X : Cx) (E : XK) (es : List Expr) (m : MG (List D)) : Prop where
  pa : PA X es (LG (Reps X.K) X.K X.mg E m)
theorem pe_imp {X : Cx} {e : Expr} {t t' : TE} (h : PE X e t) (hi : ∀ s H Q, t' s H Q → t s H Q) : PE X e t' := ⟨fun pins s σ H Q I q => h.run pins s σ H Q I (hi _ _ _ q)⟩
theorem pt_imp {X : Cx} {e : Expr} {t t' : TT} (h : PT X e t) (hi : ∀ s H Q, t' s H Q → t s H Q) : PT X e t' := ⟨fun pins s σ H Q I q => h.run pins s σ H Q I (hi _ _ _ q)⟩
theorem pw_imp {X : Cx} {e : Expr} {t t' : TT} (h : PW X e t) (hi : ∀ s H Q, t' s H Q → t s H Q) : PW X e t' := ⟨fun wh pins s σ H Q I q => h.run wh pins s σ H Q I (hi _ _ _ q)⟩
theorem pa_imp {X : Cx} {e : List Expr} {t t' : TA} (h : PA X e t) (hi : ∀ s H Q, t' s H Q → t s H Q) : PA X e t' := ⟨fun pos pins s σ H Q I q => h.run pos pins s σ H Q I (hi _ _ _ q)⟩

section
variable {X : Cx} {E : XK} {a b c : Expr} {es : List Expr} {ma mb mc : ME} {ta tb : MG Bool} {mas : MG (List D)} {pos p1 : Pos}

/-! names and constants -/
def mVar (i : Nat) : ME := fun sl C => match sl[i]? with
  | some (some d) => .ok (d, C)
  | _ => .no
def mC (d : D) : ME := fun _ C => .ok (d, C)
theorem ne_of_var {i : Nat} (h : PE X a (tVar i)) : NE X E a (mVar i) := ⟨pe_imp h fun s H Q q => by
  obtain ⟨B, F, r, sl, C, hr, hs, o⟩ := q
  unfold mVar at o
  split at o
  · rename_i d e
    obtain ⟨v, e1, e2⟩ := hs.2 i d e
    exact ⟨v, e1, o F r H v (.refl F) (.refl r) hr e2⟩
  · exact False.elim o⟩
theorem ne_var (i : Nat) {x : Str} {pos : Pos} (hN : X.N[i]? = some x := by rfl) (hv : Vis X.env.scope x := by first | exact Or.inl rfl | exact Or.inr (Or.inl rfl) | exact Or.inr (Or.inr rfl)) (hd : (x == ("__debug__" : Str)) = false := by decide)
    (hcd : (x == ("__classdict__" : Str)) = false := by decide) : NE X E (.Name x pos) (mVar i) := ne_of_var (pe_var hN hv hd hcd)
theorem ne_c {d : D} {v : V} (h : PE X a (tC v)) (hd : ∀ F r, Rep X.K F r d v) : NE X E a (mC d) := ⟨pe_imp h fun s H Q q => by
  obtain ⟨B, F, r, sl, C, hr, hs, o⟩ := q
  exact o F r H v (.refl F) (.refl r) hr (hd F r)⟩
theorem ne_int {i : Int} {j : Nat} : NE X E (.Constant (.int i) j pos) (mC (.int i)) := ne_c pe_int fun _ _ => rfl
theorem ne_bl {i : Bool} {j : Nat} : NE X E (.Constant (.bool i) j pos) (mC (.bl i)) := ne_c pe_bl fun _ _ => rfl
theorem ne_non {j : Nat} : NE X E (.Constant .none j pos) (mC .non) := ne_c pe_non fun _ _ => rfl
theorem ne_str {x : Str} {j : Nat} : NE X E (.Constant (.str x) j pos) (mC (.str x)) := ne_c pe_str fun _ _ => rfl

/-! two-place operations -/
def m2 (g : D → D → Store → RE) (ma mb : ME) : ME := fun sl C => (ma sl C).bind fun p => (mb sl p.2).bind fun q => g p.1 q.1 q.2
def OpN (K : PySem.W.Frag) (mg : Str → Option Value) (E : XK) (r2 : R2) (g : D → D → Store → RE) : Prop :=
  ∀ (B F : Hp) (r : List Addr) (H : Hp) (C : Store) (x y : D) (v u : V) (Q : VK), Rel K B F r H C → Rep K F r x v → Rep K F r y u → Out (Rep K) K mg E B F r (g x y C) Q → r2 v u H Q
theorem two {r2 : R2} {g : D → D → Store → RE} (hg : OpN X.K X.mg E r2 g) : ∀ s H Q, LG (Rep X.K) X.K X.mg E (m2 g ma mb) s H Q → tOp r2 (LG (Rep X.K) X.K X.mg E ma) (LG (Rep X.K) X.K X.mg E mb) s H Q := by
  intro s H Q q
  obtain ⟨B, F, r, sl, C, hr, hs, o⟩ := q
  refine ⟨B, F, r, sl, C, hr, hs, Out.bind (P := Rep X.K) o fun x C1 F1 r1 H1 v e1 e2 hr1 hx o1 => ?_⟩
  refine ⟨B, F1, r1, sl, C1, hr1, hs.mono e1 e2, Out.bind (P := Rep X.K) o1 fun y C2 F2 r2' H2 u e3 e4 hr2 hy o2 => ?_⟩
  exact hg B F2 r2' H2 C2 x y v u Q hr2 (hx.mono e3 e4) hy o2
theorem ne_op {op : Operator} {r2 : R2} {g : D → D → Store → RE} (ho : OpR X (binaryOp op) r2) (hg : OpN X.K X.mg E r2 g) (ha : NE X E a ma) (hb : NE X E b mb) : NE X E (.BinOp a op b pos) (m2 g ma mb) :=
  ⟨pe_imp (pe_op ho ha.pe hb.pe) (two hg)⟩
theorem ne_cmp {op : CmpOp} {r2 : R2} {g : D → D → Store → RE} (ho : OpR X (compareOp op) r2) (hg : OpN X.K X.mg E r2 g) (ha : NE X E a ma) (hb : NE X E b mb) (hm : behindInMarks op b = false) : NE X E (.Compare a [op] [b] pos) (m2 g ma mb) :=
  ⟨pe_imp (pe_cmpR ho ha.pe hb.pe hm) (two hg)⟩
/-- a value that is a truth, as a test -/
def mT (m : ME) : MG Bool := fun sl C => (m sl C).bind fun p => match p.1 with
  | .bl b => .ok (b, p.2)
  | _ => .no
theorem test {t : TE} (ht : ∀ s H Q, LG (Rep X.K) X.K X.mg E ma s H Q → t s H Q) : ∀ s H Q, LG PB X.K X.mg E (mT ma) s H Q → t s H fun x H' => ∃ k, x = .bl k ∧ Q k H' := by
  intro s H Q q
  obtain ⟨B, F, r, sl, C, hr, hs, o⟩ := q
  refine ht s H _ ⟨B, F, r, sl, C, hr, hs, Out.bind (P := Rep X.K) o fun x C1 F1 r1 H1 v e1 e2 hr1 hx o1 => ?_⟩
  cases x with
  | bl k => exact ⟨k, hx, o1 F1 r1 H1 k (.refl _) (.refl _) hr1 rfl⟩
  | _ => exact False.elim o1
theorem nt_cmp {op : CmpOp} {r2 : R2} {g : D → D → Store → RE} (ho : OpR X (compareOp op) r2) (hg : OpN X.K X.mg E r2 g) (ha : NE X E a ma) (hb : NE X E b mb) (hm : behindInMarks op b = false) : NT X E (.Compare a [op] [b] pos) (mT (m2 g ma mb)) :=
  ⟨pt_imp (pt_cmpR ho ha.pe hb.pe hm) (test (two hg))⟩
theorem nt_val {e : Expr} {m : ME} (h : NE X E e m) (he : ∀ whole, isTrue e X.env whole = (do let v ← whole; standAt e.pos; holding [v] (truthy v)) := by intro _; rfl) : NT X E e (mT m) :=
  ⟨pt_imp (pt_val h.pe he) (test fun _ _ _ q => q)⟩

/-! one-place operations -/
def m1 (g : D → Store → RE) (ma : ME) : ME := fun sl C => (ma sl C).bind fun p => g p.1 p.2
def UnN (K : PySem.W.Frag) (mg : Str → Option Value) (E : XK) (r1 : V → Hp → VK → Prop) (g : D → Store → RE) : Prop :=
  ∀ (B F : Hp) (r : List Addr) (H : Hp) (C : Store) (x : D) (v : V) (Q : VK), Rel K B F r H C → Rep K F r x v → Out (Rep K) K mg E B F r (g x C) Q → r1 v H Q
theorem one {ru : V → Hp → VK → Prop} {g : D → Store → RE} (hg : UnN X.K X.mg E ru g) : ∀ s H Q, LG (Rep X.K) X.K X.mg E (m1 g ma) s H Q → LG (Rep X.K) X.K X.mg E ma s H fun v H1 => ru v H1 Q := by
  intro s H Q q
  obtain ⟨B, F, r, sl, C, hr, hs, o⟩ := q
  exact ⟨B, F, r, sl, C, hr, hs, Out.bind (P := Rep X.K) o fun x C1 F1 r1 H1 v e1 e2 hr1 hx o1 => hg B F1 r1 H1 C1 x v Q hr1 hx o1⟩
def gNeg : D → Store → RE := fun x C => match x with
  | .int i => .ok (.int (-i), C)
  | _ => .no
/-! and, or, not, if else -/
def tAndM (ta tb : MG Bool) : MG Bool := fun sl C => (ta sl C).bind fun p => if p.1 = true then tb sl p.2 else .ok (false, p.2)
def tOrM (ta tb : MG Bool) : MG Bool := fun sl C => (ta sl C).bind fun p => if p.1 = true then .ok (true, p.2) else tb sl p.2
def tNotM (ta : MG Bool) : MG Bool := fun sl C => (ta sl C).bind fun p => .ok (!p.1, p.2)
theorem nw_and1 (ha : NT X E a ta) : NW X E (.BoolOp .And [a] pos) ta := ⟨pw_and1' ha⟩
where pw_and1' (ha : NT X E a ta) : PW X (.BoolOp .And [a] pos) (LG PB X.K X.mg E ta) := by
        refine ⟨fun wh pins s σ H Q I h => ?_⟩
        refine isTrue_and (thn (ha.pt.run pins s σ H Q I h) fun c s1 e => ?_)
        cases c with
        | true => exact isTrue_and_nil e
        | false => exact e
theorem nw_or1 (ha : NT X E a ta) : NW X E (.BoolOp .Or [a] pos) ta := ⟨pw_or1 ha.pt⟩
theorem nw_and {e : Expr} {es : List Expr} (ha : NT X E a ta) (hb : NW X E (.BoolOp .And (e :: es) pos) tb) : NW X E (.BoolOp .And (a :: e :: es) pos) (tAndM ta tb) :=
  ⟨pw_imp (pw_and ha.pt hb.pw) fun s H Q q => by
    obtain ⟨B, F, r, sl, C, hr, hs, o⟩ := q
    refine ⟨B, F, r, sl, C, hr, hs, Out.bind (P := PB) o fun x C1 F1 r1 H1 v e1 e2 hr1 hx o1 => ?_⟩
    subst hx
    cases x with
    | true =>
      rw [if_pos rfl] at o1 ⊢
      exact ⟨B, F1, r1, sl, C1, hr1, hs.mono e1 e2, o1⟩
    | false =>
      rw [if_neg Bool.false_ne_true] at o1 ⊢
      exact o1 F1 r1 H1 false (.refl _) (.refl _) hr1 rfl⟩
theorem nw_or {e : Expr} {es : List Expr} (ha : NT X E a ta) (hb : NW X E (.BoolOp .Or (e :: es) pos) tb) : NW X E (.BoolOp .Or (a :: e :: es) pos) (tOrM ta tb) :=
  ⟨pw_imp (pw_or ha.pt hb.pw) fun s H Q q => by
    obtain ⟨B, F, r, sl, C, hr, hs, o⟩ := q
    refine ⟨B, F, r, sl, C, hr, hs, Out.bind (P := PB) o fun x C1 F1 r1 H1 v e1 e2 hr1 hx o1 => ?_⟩
    subst hx
    cases x with
    | false =>
      rw [if_neg Bool.false_ne_true] at o1 ⊢
      exact ⟨B, F1, r1, sl, C1, hr1, hs.mono e1 e2, o1⟩
    | true =>
      rw [if_pos rfl] at o1 ⊢
      exact o1 F1 r1 H1 true (.refl _) (.refl _) hr1 rfl⟩
theorem nt_w (h : NW X E a ta) : NT X E a ta := ⟨h.pw.pt⟩
theorem nt_not (ha : NT X E a ta) : NT X E (.UnaryOp .Not a pos) (tNotM ta) := ⟨pt_imp (pt_not ha.pt) fun s H Q q => by
    obtain ⟨B, F, r, sl, C, hr, hs, o⟩ := q
    refine ⟨B, F, r, sl, C, hr, hs, Out.bind (P := PB) o fun x C1 F1 r1 H1 v e1 e2 hr1 hx o1 => ?_⟩
    subst hx
    exact o1 F1 r1 H1 (!x) (.refl _) (.refl _) hr1 rfl⟩
/-- .. as values: all but the last truths -/
def mAnd (ma mb : ME) : ME := fun sl C => (ma sl C).bind fun p => match p.1 with
  | .bl true => mb sl p.2
  | .bl false => .ok (.bl false, p.2)
  | _ => .no
def mOr (ma mb : ME) : ME := fun sl C => (ma sl C).bind fun p => match p.1 with
  | .bl false => mb sl p.2
  | .bl true => .ok (.bl true, p.2)
  | _ => .no
theorem ne_one {op : BoolOp} (h : NE X E a ma) : NE X E (.BoolOp op [a] pos) ma := ⟨pe_one h.pe⟩
theorem ne_and {e : Expr} {es : List Expr} (ha : NE X E a ma) (hb : NE X E (.BoolOp .And (e :: es) pos) mb) : NE X E (.BoolOp .And (a :: e :: es) pos) (mAnd ma mb) :=
  ⟨pe_imp (pe_and ha.pe hb.pe) fun s H Q q => by
    obtain ⟨B, F, r, sl, C, hr, hs, o⟩ := q
    refine ⟨B, F, r, sl, C, hr, hs, Out.bind (P := Rep X.K) o fun x C1 F1 r1 H1 v e1 e2 hr1 hx o1 => ?_⟩
    cases x with
    | bl k =>
      cases k with
      | true => exact ⟨true, hx, by rw [if_pos rfl]; exact ⟨B, F1, r1, sl, C1, hr1, hs.mono e1 e2, o1⟩⟩
      | false => exact ⟨false, hx, by rw [if_neg Bool.false_ne_true]; exact o1 F1 r1 H1 _ (.refl _) (.refl _) hr1 rfl⟩
    | _ => exact False.elim o1⟩
def mNot (ma : ME) : ME := fun sl C => (ma sl C).bind fun p => match p.1 with
  | .bl k => .ok (.bl (!k), p.2)
  | _ => .no
theorem ne_not (ha : NE X E a ma) : NE X E (.UnaryOp .Not a pos) (mNot ma) := ⟨pe_imp (pe_not ha.pe) fun s H Q q => by
    obtain ⟨B, F, r, sl, C, hr, hs, o⟩ := q
    refine ⟨B, F, r, sl, C, hr, hs, Out.bind (P := Rep X.K) o fun x C1 F1 r1 H1 v e1 e2 hr1 hx o1 => ?_⟩
    cases x with
    | bl k => exact ⟨k, hx, o1 F1 r1 H1 _ (.refl _) (.refl _) hr1 rfl⟩
    | _ => exact False.elim o1⟩
def mIf (t : MG Bool) (ma mb : ME) : ME := fun sl C => (t sl C).bind fun p => if p.1 = true then ma sl p.2 else mb sl p.2
theorem ne_if (hc : NT X E c ta) (ha : NE X E a ma) (hb : NE X E b mb) : NE X E (.IfExp c a b pos) (mIf ta ma mb) := ⟨pe_imp (pe_ifExp hc.pt ha.pe hb.pe) fun s H Q q => by
    obtain ⟨B, F, r, sl, C, hr, hs, o⟩ := q
    refine ⟨B, F, r, sl, C, hr, hs, Out.bind (P := PB) o fun x C1 F1 r1 H1 v e1 e2 hr1 hx o1 => ?_⟩
    subst hx
    cases x with
    | true => rw [if_pos rfl] at o1 ⊢; exact ⟨B, F1, r1, sl, C1, hr1, hs.mono e1 e2, o1⟩
    | false => rw [if_neg Bool.false_ne_true] at o1 ⊢; exact ⟨B, F1, r1, sl, C1, hr1, hs.mono e1 e2, o1⟩⟩

/-! argument lists, displays -/
def aNil : MG (List D) := fun _ C => .ok ([], C)
def aCons (ma : ME) (mr : MG (List D)) : MG (List D) := fun sl C => (ma sl C).bind fun p => (mr sl p.2).bind fun q => .ok (p.1 :: q.1, q.2)
theorem na_nil : NA X E [] aNil := ⟨pa_imp pa_nil fun s H Q q => by
    obtain ⟨B, F, r, sl, C, hr, hs, o⟩ := q
    exact o F r H [] (.refl _) (.refl _) hr .nil⟩
theorem na_cons (ha : NE X E a ma) (hr : NA X E es mas) (hs : starEach (a :: es) X.env = (false, eval a X.env) :: starEach es X.env := by rfl) : NA X E (a :: es) (aCons ma mas) :=
  ⟨pa_imp (pa_cons ha.pe hr.pa hs) fun s H Q q => by
    obtain ⟨B, F, r, sl, C, hr, hs, o⟩ := q
    refine ⟨B, F, r, sl, C, hr, hs, Out.bind (P := Rep X.K) o fun x C1 F1 r1 H1 v e1 e2 hr1 hx o1 => ?_⟩
    refine ⟨B, F1, r1, sl, C1, hr1, hs.mono e1 e2, Out.bind (P := Reps X.K) o1 fun y C2 F2 r2 H2 w e3 e4 hr2 hy o2 => ?_⟩
    exact o2 F2 r2 H2 (v :: w) (.refl _) (.refl _) hr2 (.cons (hx.mono e3 e4) hy)⟩
/-- a new list: a cell, or frozen -/
def newL (c : Bool) (ds : List D) (C : Store) : RE := if c = true then .ok (.cell C.length, C ++ [.lst ds]) else .ok (.lst ds, C)
theorem newL_ok {K : PySem.W.Frag} {mg : Str → Option Value} {B F : Hp} {r : List Addr} {H : Hp} {C : Store} {c : Bool} {ds : List D} {vs : List V} {Q : VK} (hr : Rel K B F r H C) (hd : Reps K F r ds vs)
    (o : Out (Rep K) K mg E B F r (newL c ds C) Q) {p : Addr} (hp : H p = none) : Q (.ref p) (upd H p (.lst vs)) := by
  unfold newL at o
  cases c with
  | true =>
    rw [if_pos rfl] at o
    refine o F (r ++ [p]) _ _ (.refl _) (Ex.app r _) (hr.alloc hp ⟨hr.freeF hp, vs, upd_same, hd.mono (.refl _) (Ex.app r _)⟩) ⟨p, rfl, ?_⟩
    rw [← hr.len, List.getElem?_append_right (Nat.le_refl _)]
    simp
  | false =>
    rw [if_neg Bool.false_ne_true] at o
    exact o (upd F p (.lst vs)) r _ _ (same_new (hr.freeF hp)) (.refl r) (hr.freeze hp) ⟨p, vs, rfl, .inl (.inl upd_same), hd.mono (same_new (hr.freeF hp)) (.refl r)⟩
theorem newT_ok {K : PySem.W.Frag} {mg : Str → Option Value} {B F : Hp} {r : List Addr} {H : Hp} {C : Store} {ds : List D} {vs : List V} {Q : VK} (hr : Rel K B F r H C) (hd : Reps K F r ds vs)
    (o : Out (Rep K) K mg E B F r (.ok (.tup ds, C)) Q) {p : Addr} (hp : H p = none) : Q (.ref p) (upd H p (.tup vs)) :=
  o (upd F p (.tup vs)) r _ _ (same_new (hr.freeF hp)) (.refl r) (hr.freeze hp) ⟨p, vs, rfl, .inl (.inl upd_same), hd.mono (same_new (hr.freeF hp)) (.refl r)⟩
def mLst (c : Bool) (mas : MG (List D)) : ME := fun sl C => (mas sl C).bind fun p => if p.1.length ≤ sizeLine then newL c p.1 p.2 else .no
def mTup (mas : MG (List D)) : ME := fun sl C => (mas sl C).bind fun p => if p.1.length ≤ sizeLine then .ok (.tup p.1, p.2) else .no
theorem ne_lst {k : Bool} (h : NA X E es mas) : NE X E (.List es pos) (mLst k mas) := ⟨pe_imp (pe_lst h.pa) fun s H Q q => by
    obtain ⟨B, F, r, sl, C, hr, hs, o⟩ := q
    refine ⟨B, F, r, sl, C, hr, hs, Out.bind (P := Reps X.K) o fun x C1 F1 r1 H1 v e1 e2 hr1 hx o1 => ?_⟩
    split at o1
    · rename_i hl
      exact ⟨by rw [← hx.length]; exact hl, fun p hp => newL_ok hr1 hx o1 hp⟩
    · exact False.elim o1⟩
theorem ne_tup {x1} (h : NA X E es mas) : NE X E (.Tuple es x1 pos) (mTup mas) := ⟨pe_imp (pe_tup h.pa) fun s H Q q => by
    obtain ⟨B, F, r, sl, C, hr, hs, o⟩ := q
    refine ⟨B, F, r, sl, C, hr, hs, Out.bind (P := Reps X.K) o fun x C1 F1 r1 H1 v e1 e2 hr1 hx o1 => ?_⟩
    split at o1
    · rename_i hl
      exact ⟨by rw [← hx.length]; exact hl, fun p hp => newT_ok hr1 hx o1 hp⟩
    · exact False.elim o1⟩

/-! calls of built-ins -/
def mCB (g : List D → Store → RE) (mas : MG (List D)) : ME := fun sl C => (mas sl C).bind fun p => g p.1 p.2
def CallN (K : PySem.W.Frag) (mg : Str → Option Value) (E : XK) (rc : List V → Hp → VK → Prop) (g : List D → Store → RE) : Prop :=
  ∀ (B F : Hp) (r : List Addr) (H : Hp) (C : Store) (ds : List D) (vs : List V) (Q : VK), Rel K B F r H C → Reps K F r ds vs → Out (Rep K) K mg E B F r (g ds C) Q → rc vs H Q
theorem args {rc : List V → Hp → VK → Prop} {g : List D → Store → RE} (hg : CallN X.K X.mg E rc g) : ∀ s H Q, LG (Rep X.K) X.K X.mg E (mCB g mas) s H Q → LG (Reps X.K) X.K X.mg E mas s H fun vs H1 => rc vs H1 Q := by
  intro s H Q q
  obtain ⟨B, F, r, sl, C, hr, hs, o⟩ := q
  exact ⟨B, F, r, sl, C, hr, hs, Out.bind (P := Reps X.K) o fun x C1 F1 r1 H1 v e1 e2 hr1 hx o1 => hg B F1 r1 H1 C1 x v Q hr1 hx o1⟩
theorem ne_callB {e : Expr} {x : Str} {id : String} {rc : List V → Hp → VK → Prop} {g : List D → Store → RE} (hc : CallR X (.builtin id) rc) (hg : CallN X.K X.mg E rc g) (hm : X.mg x = none) (ha : NA X E (e :: es) mas) (hl : Gl X x := by rfl)
    (hv : bootBuiltins x = some (.builtin id) := by decide +kernel) (hn : x ≠ "__name__" := by decide) (hdb : (x == ("__debug__" : Str)) = false := by decide) (he : starEach (e :: es) X.env = (false, eval e X.env) :: starEach es X.env := by rfl) (hpl : (backTo pos (starEach es X.env)).any (·.1) = false := by rfl) : NE X E (.Call (.Name x p1) (e :: es) [] pos) (mCB g mas) :=
  ⟨pe_imp (pe_callB hc hl hm hv ha.pa hn hdb he hpl) (args hg)⟩
theorem ne_callTy {e : Expr} {x : Str} {T : String} {rc : List V → Hp → VK → Prop} {g : List D → Store → RE} (hc : CallR X (.type T) rc) (hg : CallN X.K X.mg E rc g) (hm : X.mg x = none) (ha : NA X E (e :: es) mas) (hl : Gl X x := by rfl)
    (hv : bootBuiltins x = some (.type T) := by decide +kernel) (hn : x ≠ "__name__" := by decide) (hdb : (x == ("__debug__" : Str)) = false := by decide) (he : starEach (e :: es) X.env = (false, eval e X.env) :: starEach es X.env := by rfl) (hpl : (backTo pos (starEach es X.env)).any (·.1) = false := by rfl) : NE X E (.Call (.Name x p1) (e :: es) [] pos) (mCB g mas) :=
  ⟨pe_imp (pe_callTy hc hl hm hv ha.pa hn hdb he hpl) (args hg)⟩

end
end Nv

namespace Nv
open PySem PySem.Spec PyProof.Rows L2

/-! reading lists and tuples -/
def lstAt (C : Store) (i : Nat) : Option (List D) := match C[i]? with
  | some (.lst ds) => some ds
  | some (.fz ds) => some ds
  | _ => none
def mutAt (C : Store) (i : Nat) : Option (List D) := match C[i]? with
  | some (.lst ds) => some ds
  | _ => none
theorem lstAt_some {C : Store} {i : Nat} {ds : List D} (h : lstAt C i = some ds) : C[i]? = some (.lst ds) ∨ C[i]? = some (.fz ds) := by
  unfold lstAt at h
  split at h
  · rename_i ds' hc
    rw [hc, Option.some.inj h]
    exact .inl rfl
  · rename_i ds' hc
    rw [hc, Option.some.inj h]
    exact .inr rfl
  · cases h
theorem mutAt_some {C : Store} {i : Nat} {ds : List D} (h : mutAt C i = some ds) : C[i]? = some (.lst ds) := by
  unfold mutAt at h
  split at h
  · rename_i ds' hc
    rw [hc, Option.some.inj h]
  · cases h
def lstOf (C : Store) : D → Option (List D)
  | .lst ds => some ds
  | .cell i => lstAt C i
  | _ => none
def tupOf : D → Option (List D)
  | .tup ds => some ds
  | _ => none
def cellOf (C : Store) : D → Option (Nat × List D)
  | .cell i => (mutAt C i).map fun ds => (i, ds)
  | _ => none
section
variable {K : PySem.W.Frag} {mg : Str → Option Value} {E : XK} {B F H : Hp} {r : List Addr} {C : Store} {Q : VK}
theorem Rel.seq {a : Addr} {xs : List V} (hr : Rel K B F r H C) (h : SqL K F a xs) : SqL K H a xs := Same.seq hr.froz h
theorem mutAt_ok {i : Nat} {v : V} {ds : List D} (hr : Rel K B F r H C) (hx : Rep K F r (.cell i) v) (e : mutAt C i = some ds) :
    ∃ a vs, v = .ref a ∧ r[i]? = some a ∧ F a = none ∧ H a = some (.lst vs) ∧ Reps K F r ds vs := by
  obtain ⟨a, h1, h2⟩ := hx
  obtain ⟨h0, vs, h3, h4⟩ := hr.cells i _ a (mutAt_some e) h2
  exact ⟨a, vs, h1, h2, h0, h3, h4⟩
theorem lstAt_ok {i : Nat} {v : V} {ds : List D} (hr : Rel K B F r H C) (hx : Rep K F r (.cell i) v) (e : lstAt C i = some ds) : ∃ a vs, v = .ref a ∧ r[i]? = some a ∧ SqL K H a vs ∧ Reps K F r ds vs := by
  obtain ⟨a, h1, h2⟩ := hx
  rcases lstAt_some e with e | e
  · obtain ⟨h0, vs, h3, h4⟩ := hr.cells i _ a e h2
    exact ⟨a, vs, h1, h2, .inl (.inl h3), h4⟩
  · obtain ⟨vs, h3, h4⟩ := hr.cells i _ a e h2
    exact ⟨a, vs, h1, h2, .inl (.inl (hr.froz _ _ h3)), h4⟩
theorem lstOf_ok {x : D} {v : V} {ds : List D} (hr : Rel K B F r H C) (hx : Rep K F r x v) (e : lstOf C x = some ds) : ∃ a vs, v = .ref a ∧ SqL K H a vs ∧ Reps K F r ds vs := by
  cases x with
  | lst ds' =>
    have e : ds' = ds := Option.some.inj e
    subst e
    obtain ⟨a, vs, h1, h2, h3⟩ := hx
    exact ⟨a, vs, h1, Same.seq hr.froz h2, h3⟩
  | cell i =>
    obtain ⟨a, vs, h1, _, h3, h4⟩ := lstAt_ok hr hx e
    exact ⟨a, vs, h1, h3, h4⟩
  | _ => cases e
theorem tupOf_ok {x : D} {v : V} {ds : List D} (hr : Rel K B F r H C) (hx : Rep K F r x v) (e : tupOf x = some ds) : ∃ a vs, v = .ref a ∧ SqT K H a vs ∧ Reps K F r ds vs := by
  cases x with
  | tup ds' =>
    have e : ds' = ds := Option.some.inj e
    subst e
    obtain ⟨a, vs, h1, h2, h3⟩ := hx
    exact ⟨a, vs, h1, Same.tup hr.froz h2, h3⟩
  | _ => cases e
theorem cellOf_ok {x : D} {v : V} {i : Nat} {ds : List D} (hr : Rel K B F r H C) (hx : Rep K F r x v) (e : cellOf C x = some (i, ds)) :
    ∃ a vs, v = .ref a ∧ r[i]? = some a ∧ F a = none ∧ H a = some (.lst vs) ∧ Reps K F r ds vs := by
  cases x with
  | cell j =>
    have e : (mutAt C j).map (fun ds => (j, ds)) = some (i, ds) := e
    cases q : mutAt C j with
    | none => rw [q] at e; cases e
    | some es =>
      rw [q] at e
      cases e
      exact mutAt_ok hr hx q
  | _ => cases e

/-! arithmetic -/
def bigLine : Int := 2 ^ 10000
def powLine : Int := 2 ^ 1000
def smallI (i : Int) : Bool := decide (-(2 ^ 64) < i) && decide (i < 2 ^ 64)
def bigI (i : Int) : Bool := decide (-bigLine < i) && decide (i < bigLine)
def gAdd (c : Bool) (x y : D) (C : Store) : RE := match x, y with
  | .int i, .int j => .ok (.int (i + j), C)
  | .str a, .str b => if a.length + b.length ≤ sizeLine then .ok (.str (a ++ b), C) else .no
  | x, y => match lstOf C x, lstOf C y with
    | some a, some b => if a.length + b.length ≤ sizeLine then newL c (a ++ b) C else .no
    | _, _ => .no
def gSub (x y : D) (C : Store) : RE := match x, y with
  | .int i, .int j => .ok (.int (i - j), C)
  | _, _ => .no
def gMul (x y : D) (C : Store) : RE := match x, y with
  | .int i, .int j => if (smallI i || smallI j || (bigI i && bigI j)) = true then .ok (.int (i * j), C) else .no
  | _, _ => .no
def gDiv (x y : D) (C : Store) : RE := match x, y with
  | .int i, .int j => if 0 < j ∧ j ≤ 10 ^ 60 then .ok (.int (i / j), C) else .no
  | _, _ => .no
def gMod (x y : D) (C : Store) : RE := match x, y with
  | .int i, .int j => if 0 < j then .ok (.int (i % j), C) else .no
  | _, _ => .no
def gPow (x y : D) (C : Store) : RE := match x, y with
  | .int i, .int j => if 0 ≤ j ∧ j ≤ 1000 ∧ -powLine < i ∧ i < powLine then .ok (.int (i ^ j.toNat), C) else .no
  | _, _ => .no
/-- the rule for two values' answers -/
theorem out_ok {d : D} {v : V} (hr : Rel K B F r H C) (h : Rep K F r d v) (o : Out (Rep K) K mg E B F r (.ok (d, C)) Q) : Q v H := o F r H v (.refl _) (.refl _) hr h
variable {X : Cx}
theorem Inv.isL {pins : List (Addr × Obj)} {σ : L2.St} {s : Shared} {a : Addr} {xs : List V} (I : Inv X pins σ H s) (h : SqL X.K H a xs) : ∃ its : List Value, Vals xs its ∧ s.heap.IsList a its.toArray ∧ xs.length ≤ sizeLine := by
  obtain ⟨its, h1, h2, h3⟩ := I.list h
  exact ⟨its, h1, h2.isList, h3⟩
def rCatS (K : PySem.W.Frag) : R2 := fun x y H Q => ∃ l b xs zs, x = .ref l ∧ y = .ref b ∧ SqL K H l xs ∧ SqL K H b zs ∧ xs.length + zs.length ≤ sizeLine ∧ ∀ p, H p = none → Q (.ref p) (upd H p (.lst (xs ++ zs)))
theorem op_catS : OpR X (binaryOp .Add) (rCatS X.K) := by
  intro pins s σ H x y v u Q I rx ry h
  obtain ⟨l, b, xs, zs, rfl, rfl, hH, hB, hz, q⟩ := h
  cases rx
  cases ry
  obtain ⟨its, r1, hl, z⟩ := Inv.isL I hH
  obtain ⟨its2, r2, hl2, z2⟩ := Inv.isL I hB
  have l1 := r1.length
  have l2 := r2.length
  obtain ⟨⟨cls, dd, data, sl⟩, ho, hc, n, hd⟩ := hl
  obtain ⟨⟨cls2, dd2, data2, sl2⟩, ho2, hc2, n2, hd2⟩ := hl2
  simp only at hc hd hc2 hd2
  subst hc hd hc2 hd2
  have ea : its.toArray ++ its2.toArray = (its ++ its2).toArray := by simp
  refine concat_meets ⟨_, ho, rfl⟩ ⟨_, ho2, rfl⟩ noFill_list_add seq_list_add PySem.F.slot_list_add PySem.F.entry_list_add (PySem.F.args_list_add_2 _ _) (list_addW l b its.toArray its2.toArray n n2 dd dd2 sl sl2 (by simp; omega)) ⟨ho, ho2, ?_⟩
  rw [ea]
  exact ⟨.ref _, _, I.lnew (t' := s.toks) (r1.append r2) (by rw [List.length_append]; omega), rfl, q _ I.fresh⟩

def rAdd3 (K : PySem.W.Frag) : R2 := fun x y H Q => (∃ i j, x = .int i ∧ y = .int j ∧ Q (.int (i + j)) H) ∨ ((∃ i j, x = .str i ∧ y = .str j ∧ i.length + j.length ≤ sizeLine ∧ Q (.str (i ++ j)) H) ∨ rCatS K x y H Q)
theorem op_addA : OpR X (binaryOp .Add) (rAdd3 X.K) := op_add.or (op_add_str.or op_catS)
theorem addN {c : Bool} : OpN K mg E (rAdd3 K) (gAdd c) := by
  intro B F r H C x y v u Q hr hx hy o
  have cat : ∀ (o : Out (Rep K) K mg E B F r (match lstOf C x, lstOf C y with
    | some a, some b => if a.length + b.length ≤ sizeLine then newL c (a ++ b) C else .no
    | _, _ => .no) Q), rAdd3 K v u H Q := fun o => by
    split at o
    · rename_i a b e1 e2
      obtain ⟨p, vs, rfl, h1, h2⟩ := lstOf_ok hr hx e1
      obtain ⟨q, ws, rfl, h3, h4⟩ := lstOf_ok hr hy e2
      split at o
      · rename_i hl
        exact .inr (.inr ⟨p, q, vs, ws, rfl, rfl, h1, h3, by rw [← h2.length, ← h4.length]; exact hl, fun t ht => newL_ok hr (h2.append h4) o ht⟩)
      · exact False.elim o
    · exact False.elim o
  cases x with
  | int i =>
    cases y with
    | int j => exact .inl ⟨i, j, hx, hy, out_ok (d := .int (i + j)) hr rfl o⟩
    | _ => exact cat o
  | str a =>
    cases y with
    | str b =>
      have o : Out (Rep K) K mg E B F r (if a.length + b.length ≤ sizeLine then .ok (.str (a ++ b), C) else .no) Q := o
      split at o
      · rename_i hl
        exact .inr (.inl ⟨a, b, hx, hy, hl, out_ok (d := .str (a ++ b)) hr rfl o⟩)
      · exact False.elim o
    | _ => exact cat o
  | _ => exact cat o
theorem subN : OpN K mg E (rI0 fun i j => .int (i - j)) gSub := by
  intro B F r H C x y v u Q hr hx hy o
  cases x with
  | int i =>
    cases y with
    | int j => exact ⟨i, j, hx, hy, out_ok (d := .int (i - j)) hr rfl o⟩
    | _ => exact False.elim o
  | _ => exact False.elim o
theorem log2_lt {a : Nat} {n : Nat} (h : a < 2 ^ n) (h0 : 0 < n) : a.log2 < n := by
  by_cases h1 : a = 0
  · subst h1
    simpa using h0
  · exact (Nat.log2_lt h1).mpr h
theorem natAbs_lt {i b : Int} (h : -b < i) (h2 : i < b) : i.natAbs < b.natAbs := by omega
def rMul3 : R2 := fun x y H Q => (rI CMul (fun i j => .int (i * j)) x y H Q) ∨ (rI CMulW (fun i j => .int (i * j)) x y H Q)
theorem op_mulA : OpR X (binaryOp .Mult) rMul3 := op_mul.or op_mulW
theorem bigLine_abs : bigLine.natAbs = 2 ^ 10000 := by unfold bigLine; rw [Int.natAbs_pow]; rfl
theorem powLine_abs : powLine.natAbs = 2 ^ 1000 := by unfold powLine; rw [Int.natAbs_pow]; rfl
theorem mulN : OpN K mg E rMul3 gMul := by
  intro B F r H C x y v u Q hr hx hy o
  cases x with
  | int i =>
    cases y with
    | int j =>
      have o : Out (Rep K) K mg E B F r (if (smallI i || smallI j || (bigI i && bigI j)) = true then .ok (.int (i * j), C) else .no) Q := o
      split at o
      · rename_i hc
        have q := out_ok (d := .int (i * j)) hr rfl o
        simp only [Bool.or_eq_true, Bool.and_eq_true, smallI, bigI, decide_eq_true_eq] at hc
        rcases hc with (h | h) | ⟨h, h'⟩
        · exact .inl ⟨i, j, hx, hy, .inl h, q⟩
        · exact .inl ⟨i, j, hx, hy, .inr h, q⟩
        · refine .inr ⟨i, j, hx, hy, ?_, q⟩
          have h1 := natAbs_lt h.1 h.2
          have h2 := natAbs_lt h'.1 h'.2
          rw [bigLine_abs] at h1 h2
          exact wide_mul h1 h2 (by decide) (by decide) (by decide)
      · exact False.elim o
    | _ => exact False.elim o
  | _ => exact False.elim o
theorem divN : OpN K mg E (rI CDivW fun i j => .int (i / j)) gDiv := by
  intro B F r H C x y v u Q hr hx hy o
  cases x with
  | int i =>
    cases y with
    | int j =>
      have o : Out (Rep K) K mg E B F r (if 0 < j ∧ j ≤ 10 ^ 60 then .ok (.int (i / j), C) else .no) Q := o
      split at o
      · rename_i hc
        refine ⟨i, j, hx, hy, wide_div (b := 200) hc.1 ?_ (by decide) (by decide), out_ok (d := .int (i / j)) hr rfl o⟩
        have := hc.1
        have := hc.2
        omega
      · exact False.elim o
    | _ => exact False.elim o
  | _ => exact False.elim o
theorem modN : OpN K mg E (rI (fun _ j => 0 < j) fun i j => .int (i % j)) gMod := by
  intro B F r H C x y v u Q hr hx hy o
  cases x with
  | int i =>
    cases y with
    | int j =>
      have o : Out (Rep K) K mg E B F r (if 0 < j then .ok (.int (i % j), C) else .no) Q := o
      split at o
      · rename_i hc
        exact ⟨i, j, hx, hy, hc, out_ok (d := .int (i % j)) hr rfl o⟩
      · exact False.elim o
    | _ => exact False.elim o
  | _ => exact False.elim o
def CPowW (i j : Int) : Prop := 0 ≤ j ∧ j ≤ 1000 ∧ -powLine < i ∧ i < powLine
theorem op_powW : OpR X (binaryOp .Pow) (rI CPowW fun i j => .int (i ^ j.toNat)) := opI fun i j _ _ _ _ _ hc q => by
  obtain ⟨h0, h1, h2, h3⟩ := hc
  refine pow_int h0 ?_ q
  have h := natAbs_lt h2 h3
  rw [powLine_abs] at h
  have hb := PyProof.Rows.intBits_le h
  have h4 : ((Builtin.Int.intBits i : Nat) : Int) ≤ 1000 := by omega
  have h5 := Int.mul_le_mul h4 h1 h0 (by decide)
  omega
theorem powN : OpN K mg E (rI CPowW fun i j => .int (i ^ j.toNat)) gPow := by
  intro B F r H C x y v u Q hr hx hy o
  cases x with
  | int i =>
    cases y with
    | int j =>
      have o : Out (Rep K) K mg E B F r (if 0 ≤ j ∧ j ≤ 1000 ∧ -powLine < i ∧ i < powLine then .ok (.int (i ^ j.toNat), C) else .no) Q := o
      split at o
      · rename_i hc
        exact ⟨i, j, hx, hy, hc, out_ok (d := .int (i ^ j.toNat)) hr rfl o⟩
      · exact False.elim o
    | _ => exact False.elim o
  | _ => exact False.elim o

/-! comparisons of whole numbers -/
def gLt (x y : D) (C : Store) : RE := match x, y with
  | .int i, .int j => .ok (.bl (decide (i < j)), C)
  | _, _ => .no
def gLe (x y : D) (C : Store) : RE := match x, y with
  | .int i, .int j => .ok (.bl (decide (i ≤ j)), C)
  | _, _ => .no
def gGt (x y : D) (C : Store) : RE := match x, y with
  | .int i, .int j => .ok (.bl (decide (j < i)), C)
  | _, _ => .no
def gGe (x y : D) (C : Store) : RE := match x, y with
  | .int i, .int j => .ok (.bl (decide (j ≤ i)), C)
  | _, _ => .no
theorem ltN : OpN K mg E (rI0 fun i j => .bl (decide (i < j))) gLt := by
  intro B F r H C x y v u Q hr hx hy o
  cases x with
  | int i =>
    cases y with
    | int j => exact ⟨i, j, hx, hy, out_ok (d := .bl (decide (i < j))) hr rfl o⟩
    | _ => exact False.elim o
  | _ => exact False.elim o
theorem leN : OpN K mg E (rI0 fun i j => .bl (decide (i ≤ j))) gLe := by
  intro B F r H C x y v u Q hr hx hy o
  cases x with
  | int i =>
    cases y with
    | int j => exact ⟨i, j, hx, hy, out_ok (d := .bl (decide (i ≤ j))) hr rfl o⟩
    | _ => exact False.elim o
  | _ => exact False.elim o
theorem gtN : OpN K mg E (rI0 fun i j => .bl (decide (j < i))) gGt := by
  intro B F r H C x y v u Q hr hx hy o
  cases x with
  | int i =>
    cases y with
    | int j => exact ⟨i, j, hx, hy, out_ok (d := .bl (decide (j < i))) hr rfl o⟩
    | _ => exact False.elim o
  | _ => exact False.elim o
/-! as data: == and != -/
mutual
def toP0 : D → Option PyData
  | .non => some .none
  | .bl b => some (.bool b)
  | .int i => some (.int i)
  | .str x => some (.str x)
  | .lst ds => (toPs0 ds).map .list
  | .tup ds => (toPs0 ds).map .tuple
  | .cell _ => none
  | .edct => none
  | .exc _ _ _ => none
  | .fn _ => none
def toPs0 : List D → Option (List PyData)
  | [] => some []
  | d :: ds => match toP0 d, toPs0 ds with
    | some p, some ps => some (p :: ps)
    | _, _ => none
end
mutual
def toP (C : Store) : D → Option PyData
  | .non => some .none
  | .bl b => some (.bool b)
  | .int i => some (.int i)
  | .str x => some (.str x)
  | .lst ds => (toPs C ds).map .list
  | .tup ds => (toPs C ds).map .tuple
  | .cell i => (lstAt C i).bind fun ds => (toPs0 ds).map .list
  | .edct => none
  | .exc _ _ _ => none
  | .fn _ => none
def toPs (C : Store) : List D → Option (List PyData)
  | [] => some []
  | d :: ds => match toP C d, toPs C ds with
    | some p, some ps => some (p :: ps)
    | _, _ => none
end
theorem map_some {A B : Type} {f : A → B} {o : Option A} {b : B} (h : o.map f = some b) : ∃ a, o = some a ∧ f a = b := by
  cases o with
  | none => cases h
  | some a => exact ⟨a, rfl, Option.some.inj h⟩
mutual
theorem toP0_ok (hr : Rel K B F r H C) : ∀ {d : D} {v : V} {p : PyData}, Rep K F r d v → toP0 d = some p → Dp K H v p
  | .non, _, _, h, e => by rw [show _ = V.non from h, ← Option.some.inj e]; exact .non
  | .bl b, _, _, h, e => by rw [show _ = V.bl b from h, ← Option.some.inj e]; exact .bl b
  | .int b, _, _, h, e => by rw [show _ = V.int b from h, ← Option.some.inj e]; exact .int b
  | .str b, _, _, h, e => by rw [show _ = V.str b from h, ← Option.some.inj e]; exact .str b
  | .lst ds, _, _, h, e => by
    obtain ⟨a, vs, rfl, h1, h2⟩ := h
    obtain ⟨ps, e1, e2⟩ := map_some (show (toPs0 ds).map PyData.list = some _ from e)
    subst e2
    exact .lst (Same.seq hr.froz h1) (toPs0_ok hr h2 e1)
  | .tup ds, _, _, h, e => by
    obtain ⟨a, vs, rfl, h1, h2⟩ := h
    obtain ⟨ps, e1, e2⟩ := map_some (show (toPs0 ds).map PyData.tuple = some _ from e)
    subst e2
    exact .tup (Same.tup hr.froz h1) (toPs0_ok hr h2 e1)
  | .cell i, _, _, h, e => nomatch (show (none : Option PyData) = some _ from e)
  | .edct, _, _, h, e => nomatch (show (none : Option PyData) = some _ from e)
  | .exc _ _ _, _, _, h, e => nomatch (show (none : Option PyData) = some _ from e)
  | .fn _, _, _, h, e => nomatch (show (none : Option PyData) = some _ from e)
theorem toPs0_ok (hr : Rel K B F r H C) : ∀ {ds : List D} {vs : List V} {ps : List PyData}, Reps K F r ds vs → toPs0 ds = some ps → DpAll K H vs ps
  | [], _, _, h, e => by rw [show _ = [] from h, ← Option.some.inj e]; exact .nil
  | d :: ds, _, _, h, e => by
    obtain ⟨v, w, rfl, h1, h2⟩ := h
    unfold toPs0 at e
    split at e
    · rename_i p ps e1 e2
      cases e
      exact .cons (toP0_ok hr h1 e1) (toPs0_ok hr h2 e2)
    · cases e
end
mutual
theorem toP_ok (hr : Rel K B F r H C) : ∀ {d : D} {v : V} {p : PyData}, Rep K F r d v → toP C d = some p → Dp K H v p
  | .non, _, _, h, e => by rw [show _ = V.non from h, ← Option.some.inj e]; exact .non
  | .bl b, _, _, h, e => by rw [show _ = V.bl b from h, ← Option.some.inj e]; exact .bl b
  | .int b, _, _, h, e => by rw [show _ = V.int b from h, ← Option.some.inj e]; exact .int b
  | .str b, _, _, h, e => by rw [show _ = V.str b from h, ← Option.some.inj e]; exact .str b
  | .lst ds, _, _, h, e => by
    obtain ⟨a, vs, rfl, h1, h2⟩ := h
    obtain ⟨ps, e1, e2⟩ := map_some (show (toPs C ds).map PyData.list = some _ from e)
    subst e2
    exact .lst (Same.seq hr.froz h1) (toPs_ok hr h2 e1)
  | .tup ds, _, _, h, e => by
    obtain ⟨a, vs, rfl, h1, h2⟩ := h
    obtain ⟨ps, e1, e2⟩ := map_some (show (toPs C ds).map PyData.tuple = some _ from e)
    subst e2
    exact .tup (Same.tup hr.froz h1) (toPs_ok hr h2 e1)
  | .cell i, _, _, h, e => by
    have e : (lstAt C i).bind (fun ds => (toPs0 ds).map PyData.list) = some _ := e
    cases q : lstAt C i with
    | none => rw [q] at e; cases e
    | some ds =>
      rw [q] at e
      obtain ⟨ps, e1, e2⟩ := map_some (show (toPs0 ds).map PyData.list = some _ from e)
      subst e2
      obtain ⟨a, vs, rfl, _, h3, h4⟩ := lstAt_ok hr h q
      exact .lst h3 (toPs0_ok hr h4 e1)
  | .edct, _, _, h, e => nomatch (show (none : Option PyData) = some _ from e)
  | .exc _ _ _, _, _, h, e => nomatch (show (none : Option PyData) = some _ from e)
  | .fn _, _, _, h, e => nomatch (show (none : Option PyData) = some _ from e)
theorem toPs_ok (hr : Rel K B F r H C) : ∀ {ds : List D} {vs : List V} {ps : List PyData}, Reps K F r ds vs → toPs C ds = some ps → DpAll K H vs ps
  | [], _, _, h, e => by rw [show _ = [] from h, ← Option.some.inj e]; exact .nil
  | d :: ds, _, _, h, e => by
    obtain ⟨v, w, rfl, h1, h2⟩ := h
    unfold toPs at e
    split at e
    · rename_i p ps e1 e2
      cases e
      exact .cons (toP_ok hr h1 e1) (toPs_ok hr h2 e2)
    · cases e
end
def gEq0 (x y : D) (C : Store) : RE := match toP C x, toP C y with
  | some p, some q => if (SeqAt.shaped p && SeqAt.shaped q) = true then .ok (.bl (PyData.eqv p q), C) else .no
  | _, _ => .no
def gNe0 (x y : D) (C : Store) : RE := match toP C x, toP C y with
  | some p, some q => if (SeqAt.shaped p && SeqAt.shaped q) = true then .ok (.bl (!PyData.eqv p q), C) else .no
  | _, _ => .no
theorem eqN0 : OpN K mg E (rEqD K) gEq0 := by
  intro B F r H C x y v u Q hr hx hy o
  unfold gEq0 at o
  split at o
  · rename_i p q e1 e2
    split at o
    · rename_i hs
      rw [Bool.and_eq_true] at hs
      exact ⟨p, q, toP_ok hr hx e1, toP_ok hr hy e2, hs.1, hs.2, out_ok (d := .bl (PyData.eqv p q)) hr rfl o⟩
    · exact False.elim o
  · exact False.elim o
theorem neN0 : OpN K mg E (rNeD K) gNe0 := by
  intro B F r H C x y v u Q hr hx hy o
  unfold gNe0 at o
  split at o
  · rename_i p q e1 e2
    split at o
    · rename_i hs
      rw [Bool.and_eq_true] at hs
      exact ⟨p, q, toP_ok hr hx e1, toP_ok hr hy e2, hs.1, hs.2, out_ok (d := .bl (!PyData.eqv p q)) hr rfl o⟩
    · exact False.elim o
  · exact False.elim o
def gEq (x y : D) (C : Store) : RE := match x, y with
  | .str a, .str b => .ok (.bl (decide (a = b)), C)
  | x, y => gEq0 x y C
def gNe (x y : D) (C : Store) : RE := match x, y with
  | .str a, .str b => .ok (.bl (!decide (a = b)), C)
  | x, y => gNe0 x y C
theorem dec_strV {a b : Str} : decide (V.str a = V.str b) = decide (a = b) := by
  rw [Bool.eq_iff_iff]
  simp
theorem eqN : OpN K mg E (fun x y H Q => rEq x y H Q ∨ rEqD K x y H Q) gEq := by
  intro B F r H C x y v u Q hr hx hy o
  unfold gEq at o
  split at o
  · rename_i a b
    rw [show v = V.str a from hx, show u = V.str b from hy]
    refine .inl ⟨rfl, ?_⟩
    rw [dec_strV]
    exact out_ok (d := .bl (decide (a = b))) hr rfl o
  · exact .inr (eqN0 B F r H C _ _ v u Q hr hx hy o)
theorem neN : OpN K mg E (fun x y H Q => rNe x y H Q ∨ rNeD K x y H Q) gNe := by
  intro B F r H C x y v u Q hr hx hy o
  unfold gNe at o
  split at o
  · rename_i a b
    rw [show v = V.str a from hx, show u = V.str b from hy]
    refine .inl ⟨rfl, ?_⟩
    rw [dec_strV]
    exact out_ok (d := .bl (!decide (a = b))) hr rfl o
  · exact .inr (neN0 B F r H C _ _ v u Q hr hx hy o)
theorem op_eqE {X : Cx} (hu : X.A.units + 64 < cLine) : OpR X (compareOp .Eq) (fun x y H Q => rEq x y H Q ∨ rEqD X.K x y H Q) := op_eq.or (op_eqD hu)
theorem op_neE {X : Cx} (hu : X.A.units + 64 < cLine) : OpR X (compareOp .NotEq) (fun x y H Q => rNe x y H Q ∨ rNeD X.K x y H Q) := op_ne.or (op_neD hu)
end
end Nv

namespace Nv
open PySem PySem.Spec PyProof.Rows L2

/-! a def's promise, where no text of an object is being made (guards) -/
structure FnG (P : Program) (w : World) (K : PySem.W.Frag) (mg : Str → Option Value) (base : Heap) (k : Nat) (f : Addr) (fd : FuncData) (ps : List Str) (sp : Sp) : Prop where
  len : ∀ vs H Q E, sp vs H Q E → vs.length = ps.length
  run : ∀ (A : Around) (outer : List Env) (s : Shared) (H : Hp) (args : Args) (us : List Value) (vs : List V) (Q : VK) (E : XK), Room k A → A.guards = some [] →
    Env0 P w K mg base A outer s H → BindsTo s fd args (ps.zip us) → Vals vs us → sp vs H Q E → codeAny (model P w) A (.call (.ref f) args) (CR (L2.CX P w) outer P w H s Q E) s
theorem FnG.mono {P : Program} {w : World} {K : PySem.W.Frag} {mg : Str → Option Value} {base : Heap} {j k : Nat} {f : Addr} {fd : FuncData} {ps : List Str} {sp : Sp} (F : FnG P w K mg base j f fd ps sp) (h : j ≤ k) : FnG P w K mg base k f fd ps sp :=
  ⟨F.len, fun A outer s H args us vs Q E hr => F.run A outer s H args us vs Q E (hr.mono h)⟩
theorem FnG.imp {P : Program} {w : World} {K : PySem.W.Frag} {mg : Str → Option Value} {base : Heap} {k : Nat} {f : Addr} {fd : FuncData} {ps : List Str} {sp sp' : Sp} (F : FnG P w K mg base k f fd ps sp)
    (h : ∀ vs H Q E, sp' vs H Q E → sp vs H Q E) : FnG P w K mg base k f fd ps sp' :=
  ⟨fun vs H Q E q => F.len vs H Q E (h _ _ _ _ q), fun A outer s H args us vs Q E hr hg he hb hv hs => F.run A outer s H args us vs Q E hr hg he hb hv (h _ _ _ _ hs)⟩

section
variable {P : Program} {w : World} {K : PySem.W.Frag} {mg : Str → Option Value} {base : Heap}
/-- the rule for a def -/
theorem fnG_of {x qual : Str} {st : Stmt} {f : Addr} {fd : FuncData} {N ps : List Str} {k : Nat} {sp : Sp} (F : Fun K x qual st f fd) (S : FnScope N ps (defScope st)) (len : ∀ vs H Q E, sp vs H Q E → vs.length = ps.length)
    (hbody : ∀ (cdv : Value) (A : Around) (outer : List Env) (s : Shared) (H : Hp) (vs : List V) (Q : VK) (E : XK), Room k (A.deeper (envOfC qual (defScope st) s.heap.objs.size f cdv)) → A.guards = some [] → sp vs H Q E →
      ∃ t, PSs (cxOf (L2.CX P w) P w K mg base N qual (defScope st) f cdv A outer s H E) (defBody st) t ∧ t { nx := fun _ H' => Q .non H', rt := Q } (start N vs) H) : FnG P w K mg base (k + 1) f fd ps sp := by
  obtain ⟨oc, od, kV, doc, pm, an, cdv, ct, osl, rfl, lk, hcd⟩ := F.ex
  refine ⟨len, fun A outer s H args us vs Q E hr hg e0 hb r hsp => ?_⟩
  have hl := len _ _ _ _ hsp
  have there : K.In s.heap := e0.mod.kin.keeps fun b o e => (e0.bs b o e).1
  have lim : s.heap.NoLimit := e0.mod.nolimit.keeps fun b o e => (e0.bs b o e).1
  refine codeAny_call_function hr.depth (there _ _ lk) rfl S.co S.gen rfl (PySem.W.codeRec_of there hcd) (hb _ _ _ _ ?_)
  refine wpAny_newFunctionEnv_cells S.kind (fun ⟨n, v⟩ hy => ?_) fun env he s1 x => ?_
  · rcases S.par n (List.of_mem_zip hy).1 with q | q
    · exact .inl q
    · exact .inr ⟨q, PySem.W.cellsFrom_some _ _ _ (.inl q)⟩
  subst he
  refine ⟨lim.keeps x.toInCall.keep, codeAny_func ?_⟩
  obtain ⟨t, ht, hq⟩ := hbody cdv A outer s H vs Q E (hr.deeper _) hg hsp
  have I : Inv (cxOf (L2.CX P w) P w K mg base N qual (defScope st) f cdv A outer s H E) [] (start N vs) H s1 := inv_start S hr.hd e0 hl r x
  refine wpAny_mono (ht.run [] s1 (start N vs) H _ I hq) (fun fl s' hs => ?_) fun e s' hs => hs
  cases fl with
  | ret u =>
    obtain ⟨v, σ', H', J, rv, q⟩ := hs
    exact ⟨v, H', J.os, J.bare, J.base, J.hok, rv, q⟩
  | next =>
    obtain ⟨σ', H', J, q⟩ := hs
    exact ⟨.non, H', J.os, J.bare, J.base, J.hok, rfl, q⟩
  | brk => obtain ⟨_, _, _, q⟩ := hs; exact False.elim q
  | cont => obtain ⟨_, _, _, q⟩ := hs; exact False.elim q
end

section
variable {X : Cx} {k : Nat} {f : Addr} {fd : FuncData} {ps : List Str} {sp : Sp} {E : XK} {x : Str} {p pos : Pos} {e : Expr} {es : List Expr} {t : TA}
theorem run_fnG {pins : List (Addr × Obj)} {σ : L2.St} {H : Hp} {s : Shared} {Q : VK} {us : List Value} {vs : List V} (F : FnG X.prog X.w X.K X.mg X.base k f fd ps sp) (hr : Room k X.A) (hgd : X.A.guards = some []) (hb : L2.Binds X.K fd ps [])
    (hx : Passes (L2.CX X.prog X.w) X E) (I : L2.Inv X pins σ H s) (r : Vals vs us) (h : sp vs H Q E) : wpAny (model X.prog X.w) X.A (call (.ref f) us) (EP X pins σ Q) X.xe s := by
  have hl : (us ++ []).length = ps.length := by
    rw [List.append_nil, ← r.length]
    exact F.len _ _ _ _ h
  have hb1 := hb s us I.kIn hl
  rw [List.append_nil] at hb1
  refine wpAny_call (codeAny_mono (F.run X.A X.stack s H ⟨us, []⟩ us vs Q E hr hgd I.env0 hb1 r h) fun r s' hq => ?_)
  cases r with
  | error z => exact hx pins σ H s z s' I hq
  | ok fl =>
    cases fl with
    | ret u => exact I.after hq
    | next => exact False.elim hq
    | brk => exact False.elim hq
    | cont => exact False.elim hq
theorem pe_callG (F : FnG X.prog X.w X.K X.mg X.base k f fd ps sp) (hr : Room k X.A) (hgd : X.A.guards = some []) (hg : Gl X x) (hm : X.mg x = some (.ref f)) (hk : PySem.W.keepIn X.K (.ref f) = true) (hb : L2.Binds X.K fd ps [])
    (hx : Passes (L2.CX X.prog X.w) X E) (ha : PA X (e :: es) t) (hdb : (x == ("__debug__" : Str)) = false) (he : starEach (e :: es) X.env = (false, eval e X.env) :: starEach es X.env) (hpl : (backTo pos (starEach es X.env)).any (·.1) = false) :
    PE X (.Call (.Name x p) (e :: es) [] pos) (fun σ H Q => t σ H fun vs H1 => sp vs H1 Q E) := ⟨fun pins s σ H Q I h => by
  refine wpAny_Call_Name_kw (ld_glob I hg hm ?_ hdb)
  exact PySem.W.callWith_K (h₀ := X.base) I.ok.mod.kin hk (thn (ha.run pos pins s σ H _ I h) fun us s1 ⟨vs, H1, I1, r, q⟩ => ⟨I1.kIn, run_fnG F hr hgd hb hx I1 r q⟩) he hpl⟩
end

/-! calls of defs, by data -/
abbrev MF := List D → Store → RE
def spN (K : PySem.W.Frag) (mg : Str → Option Value) (n : Nat) (mf : MF) : Sp := fun vs H Q E =>
  ∃ B F r C ds, Rel K B F r H C ∧ Reps K F r ds vs ∧ ds.length = n ∧ Out (Rep K) K mg E B F r (mf ds C) Q
theorem spN_len {K : PySem.W.Frag} {mg : Str → Option Value} {n : Nat} {mf : MF} : ∀ vs H Q E, spN K mg n mf vs H Q E → vs.length = n := by
  intro vs H Q E h
  obtain ⟨B, F, r, C, ds, _, h2, h3, _⟩ := h
  rw [← h2.length]
  exact h3
section
variable {X : Cx} {E : XK} {a b c : Expr} {es : List Expr} {ma mb mc : ME} {ta tb : MG Bool} {mas : MG (List D)} {pos p1 : Pos}
def mF (n : Nat) (mf : MF) (mas : MG (List D)) : ME := fun sl C => (mas sl C).bind fun p => if p.1.length = n then mf p.1 p.2 else .no
theorem ne_call {x : Str} {e : Expr} {k n : Nat} {f : Addr} {fd : FuncData} {ps : List Str} {mf : MF} (F : FnG X.prog X.w X.K X.mg X.base k f fd ps (spN X.K X.mg n mf)) (hr : Room k X.A) (hgd : X.A.guards = some []) (hm : X.mg x = some (.ref f))
    (hk : PySem.W.keepIn X.K (.ref f) = true) (hb : L2.Binds X.K fd ps []) (hx : Passes (L2.CX X.prog X.w) X E) (ha : NA X E (e :: es) mas) (hg : Gl X x := by rfl) (hdb : (x == ("__debug__" : Str)) = false := by decide)
    (he : starEach (e :: es) X.env = (false, eval e X.env) :: starEach es X.env := by rfl) (hpl : (backTo pos (starEach es X.env)).any (·.1) = false := by rfl) : NE X E (.Call (.Name x p1) (e :: es) [] pos) (mF n mf mas) :=
  ⟨pe_imp (pe_callG F hr hgd hg hm hk hb hx ha.pa hdb he hpl) fun s H Q q => by
    obtain ⟨B, F, r, sl, C, hr, hs, o⟩ := q
    refine ⟨B, F, r, sl, C, hr, hs, Out.bind (P := Reps X.K) o fun x C1 F1 r1 H1 v e1 e2 hr1 hx o1 => ?_⟩
    simp only at o1
    split at o1
    · rename_i hl
      exact ⟨B, F1, r1, C1, x, hr1, hx, hl, o1⟩
    · exact False.elim o1⟩
end
end Nv

namespace Nv
open PySem PySem.Spec PyProof.Rows L2
section
variable {K : PySem.W.Frag} {mg : Str → Option Value} {E : XK} {B F H : Hp} {r : List Addr} {C : Store} {Q : VK} {X : Cx}

/-! is -/
def isD : D → D → Option Bool
  | .non, .non => some true
  | .bl a, .bl b => some (decide (a = b))
  | .non, _ => some false
  | .cell _, .non => some false
  | .int _, .non => some false
  | .str _, .non => some false
  | .bl _, .non => some false
  | .lst _, .non => some false
  | .tup _, .non => some false
  | .exc _ _ _, .non => some false
  | _, _ => none
def gIs (x y : D) (C : Store) : RE := match isD x y with
  | some b => match y with
    | .non => .ok (.bl b, C)
    | .bl _ => match x with
      | .bl _ => .ok (.bl b, C)
      | _ => .no
    | _ => .no
  | none => .no
def gIsNot (x y : D) (C : Store) : RE := match isD x y with
  | some b => match y with
    | .non => .ok (.bl (!b), C)
    | .bl _ => match x with
      | .bl _ => .ok (.bl (!b), C)
      | _ => .no
    | _ => .no
  | none => .no
def rIs2 : R2 := fun x y H Q => (y = .non ∧ Q (.bl (decide (x = .non))) H) ∨ rIsB x y H Q
theorem op_is2 : OpR X (compareOp .Is) rIs2 := op_isN.or op_isBl
theorem Rep.isNon {x : D} {v : V} (h : Rep K F r x v) {b : Bool} (e : isD x .non = some b) : decide (v = V.non) = b := by
  cases x with
  | non => cases e; exact decide_eq_true h
  | bl i => cases e; rw [show v = V.bl i from h]; rfl
  | int i => cases e; rw [show v = V.int i from h]; rfl
  | str i => cases e; rw [show v = V.str i from h]; rfl
  | lst i => cases e; obtain ⟨a, vs, h, _⟩ := h; rw [h]; rfl
  | tup i => cases e; obtain ⟨a, vs, h, _⟩ := h; rw [h]; rfl
  | cell i => cases e; obtain ⟨a, h, _⟩ := h; rw [h]; rfl
  | edct => cases e
  | exc _ _ _ => cases e; obtain ⟨a, C, us, h, _⟩ := h; rw [h]; rfl
  | fn a => cases e
theorem isN2 : OpN K mg E rIs2 gIs := by
  intro B F r H C x y v u Q hr hx hy o
  cases e : isD x y with
  | none => unfold gIs at o; rw [e] at o; exact False.elim o
  | some b =>
    unfold gIs at o
    rw [e] at o
    cases y with
    | non =>
      refine .inl ⟨hy, ?_⟩
      rw [hx.isNon e]
      exact out_ok (d := .bl b) hr rfl o
    | bl k =>
      cases x with
      | bl j =>
        cases e
        exact .inr ⟨j, k, hx, hy, out_ok (d := .bl (decide (j = k))) hr rfl o⟩
      | _ => exact False.elim o
    | _ => exact False.elim o
/-! in, of flat things -/
def flatD : D → Bool
  | .non => true
  | .bl _ => true
  | .int _ => true
  | .str _ => true
  | _ => false
def eqF : D → D → Bool
  | .non, .non => true
  | .bl a, .bl b => a == b
  | .bl a, .int b => (if a then 1 else 0) == b
  | .int a, .bl b => a == (if b then 1 else 0)
  | .int a, .int b => a == b
  | .str a, .str b => a == b
  | _, _ => false
def inF (x : D) (ds : List D) : Bool := ds.any fun y => eqF y x
def seqOf (C : Store) : D → Option (List D)
  | .lst ds => some ds
  | .tup ds => some ds
  | .cell i => lstAt C i
  | _ => none
theorem seqOf_ok {x : D} {v : V} {ds : List D} (hr : Rel K B F r H C) (hx : Rep K F r x v) (e : seqOf C x = some ds) : ∃ a vs, v = .ref a ∧ (SqL K H a vs ∨ SqT K H a vs) ∧ Reps K F r ds vs := by
  cases x with
  | lst ds' =>
    obtain ⟨a, vs, h1, h2, h3⟩ := lstOf_ok hr hx (show lstOf C (.lst ds') = some ds from e)
    exact ⟨a, vs, h1, .inl h2, h3⟩
  | tup ds' =>
    obtain ⟨a, vs, h1, h2, h3⟩ := tupOf_ok hr hx (show tupOf (.tup ds') = some ds from e)
    exact ⟨a, vs, h1, .inr h2, h3⟩
  | cell i =>
    obtain ⟨a, vs, h1, h2, h3⟩ := lstOf_ok hr hx (show lstOf C (.cell i) = some ds from e)
    exact ⟨a, vs, h1, .inl h2, h3⟩
  | _ => cases e
theorem flat_ok {x : D} {v : V} (h : Rep K F r x v) (f : flatD x = true) : flatV v = true := by
  cases x with
  | non => rw [show v = V.non from h]; rfl
  | bl b => rw [show v = V.bl b from h]; rfl
  | int b => rw [show v = V.int b from h]; rfl
  | str b => rw [show v = V.str b from h]; rfl
  | _ => cases f
theorem eqF_ok {x y : D} {v u : V} (h : Rep K F r x v) (k : Rep K F r y u) (f : flatD x = true) (g : flatD y = true) : eqV v u = eqF x y := by
  cases x with
  | non => rw [show v = V.non from h]; cases y with
    | non => rw [show u = V.non from k]; rfl
    | bl b => rw [show u = V.bl b from k]; rfl
    | int b => rw [show u = V.int b from k]; rfl
    | str b => rw [show u = V.str b from k]; rfl
    | _ => cases g
  | bl a => rw [show v = V.bl a from h]; cases y with
    | non => rw [show u = V.non from k]; rfl
    | bl b => rw [show u = V.bl b from k]; rfl
    | int b => rw [show u = V.int b from k]; rfl
    | str b => rw [show u = V.str b from k]; rfl
    | _ => cases g
  | int a => rw [show v = V.int a from h]; cases y with
    | non => rw [show u = V.non from k]; rfl
    | bl b => rw [show u = V.bl b from k]; rfl
    | int b => rw [show u = V.int b from k]; rfl
    | str b => rw [show u = V.str b from k]; rfl
    | _ => cases g
  | str a => rw [show v = V.str a from h]; cases y with
    | non => rw [show u = V.non from k]; rfl
    | bl b => rw [show u = V.bl b from k]; rfl
    | int b => rw [show u = V.int b from k]; rfl
    | str b => rw [show u = V.str b from k]; rfl
    | _ => cases g
  | _ => cases f
theorem flats_ok : ∀ {ds : List D} {vs : List V}, Reps K F r ds vs → ds.all flatD = true → vs.all flatV = true
  | [], _, h, _ => by cases (show _ = [] from h); rfl
  | d :: ds, _, h, f => by
    obtain ⟨v, w, rfl, h1, h2⟩ := h
    rw [List.all_cons, Bool.and_eq_true] at f ⊢
    exact ⟨flat_ok h1 f.1, flats_ok h2 f.2⟩
theorem inF_ok {x : D} {u : V} (k : Rep K F r x u) (g : flatD x = true) : ∀ {ds : List D} {vs : List V}, Reps K F r ds vs → ds.all flatD = true → inV u vs = inF x ds
  | [], _, h, _ => by cases (show _ = [] from h); rfl
  | d :: ds, _, h, f => by
    obtain ⟨v, w, rfl, h1, h2⟩ := h
    rw [List.all_cons, Bool.and_eq_true] at f
    have ih := inF_ok k g h2 f.2
    unfold inV inF at ih ⊢
    rw [List.any_cons, List.any_cons, ih, eqF_ok h1 k f.1 g]
/-- neg: not in -/
def gIn (neg : Bool) (x y : D) (C : Store) : RE := match seqOf C y with
  | some ds => if (flatD x && ds.all flatD) = true then .ok (.bl (if neg then !inF x ds else inF x ds), C) else .no
  | none => .no
theorem inN {neg : Bool} : OpN K mg E (rIn K neg) (gIn neg) := by
  intro B F r H C x y v u Q hr hx hy o
  unfold gIn at o
  split at o
  · rename_i ds e
    split at o
    · rename_i f
      rw [Bool.and_eq_true] at f
      obtain ⟨a, vs, h1, h2, h3⟩ := seqOf_ok hr hy e
      refine ⟨a, vs, h1, h2, flat_ok hx f.1, flats_ok h3 f.2, ?_⟩
      rw [inF_ok hx f.1 h3 f.2]
      exact out_ok (d := .bl (if neg then !inF x ds else inF x ds)) hr rfl o
    · exact False.elim o
  · exact False.elim o
/-! isinstance, built-in types -/
def tyD : D → Option String
  | .non => some "NoneType"
  | .bl _ => some "bool"
  | .int _ => some "int"
  | .str _ => some "str"
  | .lst _ => some "list"
  | .tup _ => some "tuple"
  | .edct => some "dict"
  | .cell _ => none
  | .fn _ => none
  | .exc _ _ _ => none
def tyC (C : Store) : D → Option String
  | .cell i => match C[i]? with
    | some (.lst _) => some "list"
    | some (.fz _) => some "list"
    | some (.dk _) => some "dict"
    | some (.dt _) => some "dict"
    | _ => none
  | d => tyD d
def kinds : List String := ["NoneType", "bool", "int", "str", "list", "tuple", "dict"]
def isB (a b : String) : Bool := a == b || (a == "bool" && b == "int")
theorem kit_kinds : ∀ a ∈ kinds, ∀ b ∈ kinds, kitB a b = some (isB a b) := by decide +kernel
theorem tyX_seqL {a : Addr} {vs : List V} (h : SqL K H a vs) : TyX K H (.ref a) (.type "list") := by
  rcases h with (h | ⟨o, h⟩) | ⟨o, its, n, h1, h2, _⟩
  · exact .base (.lst h)
  · exact .base (.frz h)
  · exact .kList h1 h2
theorem tyX_seqT {a : Addr} {vs : List V} (h : SqT K H a vs) : TyX K H (.ref a) (.type "tuple") := by
  rcases h with (h | ⟨o, h⟩) | ⟨o, its, n, h1, h2, _⟩
  · exact .base (.tup h)
  · exact .fTuple h
  · exact .kTuple h1 h2
theorem tyC_ok {x : D} {v : V} {T : String} (hr : Rel K B F r H C) (hx : Rep K F r x v) (e : tyC C x = some T) : T ∈ kinds ∧ TyX K H v (.type T) := by
  cases x with
  | non => cases e; rw [show v = V.non from hx]; exact ⟨by decide, .base .non⟩
  | bl b => cases e; rw [show v = V.bl b from hx]; exact ⟨by decide, .base (.bl b)⟩
  | int b => cases e; rw [show v = V.int b from hx]; exact ⟨by decide, .base (.int b)⟩
  | str b => cases e; rw [show v = V.str b from hx]; exact ⟨by decide, .base (.str b)⟩
  | lst ds =>
    cases e
    obtain ⟨a, vs, rfl, h2, _⟩ := lstOf_ok hr hx (show lstOf C (.lst ds) = some ds from rfl)
    exact ⟨by decide, tyX_seqL h2⟩
  | tup ds =>
    cases e
    obtain ⟨a, vs, rfl, h2, _⟩ := tupOf_ok hr hx (show tupOf (.tup ds) = some ds from rfl)
    exact ⟨by decide, tyX_seqT h2⟩
  | edct =>
    cases e
    obtain ⟨a, rfl, h⟩ := hx
    exact ⟨by decide, .base (.dK (hr.froz _ _ h))⟩
  | cell i =>
    obtain ⟨a, rfl, h⟩ := hx
    have e : (match C[i]? with
    | some (.lst _) => some "list"
    | some (.fz _) => some "list"
    | some (.dk _) => some "dict"
    | some (.dt _) => some "dict"
    | _ => none) = some T := e
    split at e
    · rename_i ds hc
      cases e
      obtain ⟨_, vs, h3, _⟩ := hr.cells i _ a hc h
      exact ⟨by decide, .base (.lst h3)⟩
    · rename_i ds hc
      cases e
      obtain ⟨vs, h3, _⟩ := hr.cells i _ a hc h
      exact ⟨by decide, .base (.lst (hr.froz _ _ h3))⟩
    · rename_i ds hc
      cases e
      obtain ⟨_, vs, h3, _⟩ := hr.cells i _ a hc h
      exact ⟨by decide, .base (.dK h3)⟩
    · rename_i ds hc
      cases e
      obtain ⟨_, vs, h3, _⟩ := hr.cells i _ a hc h
      exact ⟨by decide, .base (.dT h3)⟩
    · cases e
  | fn a => cases e
  | exc c f a => cases e
/-- isinstance(x, T) -/
def gIsi (T : String) (x : D) (C : Store) : RE := match tyC C x with
  | some t => .ok (.bl (isB t T), C)
  | none => .no
def gIsiL (Ts : List String) (x : D) (C : Store) : RE := match tyC C x with
  | some t => .ok (.bl (Ts.any (isB t)), C)
  | none => .no
end
end Nv

namespace Nv
open PySem PySem.Spec PyProof.Rows L2
def intsOf : List D → Option (List Int)
  | [] => some []
  | .int i :: r => (intsOf r).map (i :: ·)
  | _ :: _ => none
def blsOf : List D → Option (List Bool)
  | [] => some []
  | .bl i :: r => (blsOf r).map (i :: ·)
  | _ :: _ => none
theorem blsOf_map : ∀ ns : List Bool, blsOf (ns.map D.bl) = some ns
  | [] => rfl
  | n :: r => by simp [blsOf, blsOf_map r]
theorem intsOf_eq : ∀ {ds : List D} {ns : List Int}, intsOf ds = some ns → ds = ns.map D.int
  | [], _, h => by cases h; rfl
  | d :: ds, ns, h => by
    cases d with
    | int i =>
      obtain ⟨ms, e, rfl⟩ := map_some (show (intsOf ds).map (i :: ·) = some ns from h)
      rw [intsOf_eq e]
      rfl
    | _ => cases h
theorem blsOf_eq : ∀ {ds : List D} {ns : List Bool}, blsOf ds = some ns → ds = ns.map D.bl
  | [], _, h => by cases h; rfl
  | d :: ds, ns, h => by
    cases d with
    | bl i =>
      obtain ⟨ms, e, rfl⟩ := map_some (show (blsOf ds).map (i :: ·) = some ns from h)
      rw [blsOf_eq e]
      rfl
    | _ => cases h
section
variable {K : PySem.W.Frag} {mg : Str → Option Value} {E : XK} {B F H : Hp} {r : List Addr} {C : Store} {Q : VK} {X : Cx}
theorem Reps.bls : ∀ {ns : List Bool} {vs : List V}, Reps K F r (ns.map D.bl) vs → vs = ns.map V.bl
  | [], _, h => h
  | n :: ns, _, h => by
    obtain ⟨v, w, rfl, h1, h2⟩ := h
    rw [Reps.bls h2, show v = V.bl n from h1]
    rfl
/-! one argument -/
def on1 (g : D → Store → RE) : List D → Store → RE := fun ds C => match ds with
  | [x] => g x C
  | _ => .no
def on2 (g : D → D → Store → RE) : List D → Store → RE := fun ds C => match ds with
  | [x, y] => g x y C
  | _ => .no
theorem on1N {rc : List V → Hp → VK → Prop} {g : D → Store → RE} (h : ∀ (B F : Hp) (r : List Addr) (H : Hp) (C : Store) (x : D) (v : V) (Q : VK), Rel K B F r H C → Rep K F r x v → Out (Rep K) K mg E B F r (g x C) Q → rc [v] H Q) : CallN K mg E rc (on1 g) := by
  intro B F r H C ds vs Q hr hd o
  unfold on1 at o
  split at o
  · rename_i x
    obtain ⟨v, w, rfl, h1, h2⟩ := hd
    cases (show w = [] from h2)
    exact h B F r H C x v Q hr h1 o
  · exact False.elim o
theorem on2N {rc : List V → Hp → VK → Prop} {g : D → D → Store → RE} (h : ∀ (B F : Hp) (r : List Addr) (H : Hp) (C : Store) (x y : D) (v u : V) (Q : VK), Rel K B F r H C → Rep K F r x v → Rep K F r y u → Out (Rep K) K mg E B F r (g x y C) Q → rc [v, u] H Q) : CallN K mg E rc (on2 g) := by
  intro B F r H C ds vs Q hr hd o
  unfold on2 at o
  split at o
  · rename_i x y
    obtain ⟨v, w, rfl, h1, u, w', rfl, h2, h3⟩ := hd
    cases (show w' = [] from h3)
    exact h B F r H C x y v u Q hr h1 h2 o
  · exact False.elim o
/-! len -/
def gLen (x : D) (C : Store) : RE := match x with
  | .str s => if s.length ≤ sizeLine then .ok (.int s.length, C) else .no
  | x => match seqOf C x with
    | some ds => .ok (.int ds.length, C)
    | none => .no
theorem lenN : CallN K mg E (fun xs H Q => ∃ x n, xs = [x] ∧ LenV K x H n ∧ Q (.int n) H) (on1 gLen) := on1N fun B F r H C x v Q hr hx o => by
  have sq : ∀ (o : Out (Rep K) K mg E B F r (match seqOf C x with
    | some ds => .ok (.int ds.length, C)
    | none => .no) Q), ∃ z n, [v] = [z] ∧ LenV K z H n ∧ Q (.int n) H := fun o => by
    split at o
    · rename_i ds e
      obtain ⟨a, vs, rfl, h2, h3⟩ := seqOf_ok hr hx e
      refine ⟨.ref a, ds.length, rfl, ?_, out_ok (d := .int ds.length) hr rfl o⟩
      rcases h2 with h2 | h2
      · exact .inl ⟨vs, h2, h3.length⟩
      · exact .inr ⟨vs, h2, h3.length⟩
    · exact False.elim o
  cases x with
  | str s =>
    have o : Out (Rep K) K mg E B F r (if s.length ≤ sizeLine then .ok (.int s.length, C) else .no) Q := o
    split at o
    · rename_i hl
      rw [show v = V.str s from hx]
      exact ⟨.str s, s.length, rfl, ⟨hl, rfl⟩, out_ok (d := .int s.length) hr rfl o⟩
    · exact False.elim o
  | _ => exact sq o
/-! max, min, abs, int, str of whole numbers -/
def gMax2 (x y : D) (C : Store) : RE := match x, y with
  | .int i, .int j => .ok (.int (max i j), C)
  | _, _ => .no
def gMin2 (x y : D) (C : Store) : RE := match x, y with
  | .int i, .int j => .ok (.int (min i j), C)
  | _, _ => .no
theorem max2N : CallN K mg E (fun xs H Q => ∃ i j, xs = [.int i, .int j] ∧ Q (.int (if j > i then j else i)) H) (on2 gMax2) := on2N fun B F r H C x y v u Q hr hx hy o => by
  cases x with
  | int i =>
    cases y with
    | int j =>
      refine ⟨i, j, by rw [show v = V.int i from hx, show u = V.int j from hy], ?_⟩
      have e : (if j > i then j else i) = max i j := by split <;> omega
      rw [e]
      exact out_ok (d := .int (max i j)) hr rfl o
    | _ => exact False.elim o
  | _ => exact False.elim o
theorem min2N : CallN K mg E (fun xs H Q => ∃ i j, xs = [.int i, .int j] ∧ Q (.int (if j < i then j else i)) H) (on2 gMin2) := on2N fun B F r H C x y v u Q hr hx hy o => by
  cases x with
  | int i =>
    cases y with
    | int j =>
      refine ⟨i, j, by rw [show v = V.int i from hx, show u = V.int j from hy], ?_⟩
      have e : (if j < i then j else i) = min i j := by split <;> omega
      rw [e]
      exact out_ok (d := .int (min i j)) hr rfl o
    | _ => exact False.elim o
  | _ => exact False.elim o
def gInt (x : D) (C : Store) : RE := match x with
  | .int i => .ok (.int i, C)
  | .bl b => .ok (.int (if b then 1 else 0), C)
  | .str a => match PySem.intText? a with
    | some n => if a.length ≤ 640 then .ok (.int n, C) else .no
    | none => .no
  | _ => .no
def rInt3 : List V → Hp → VK → Prop := fun xs H Q => ((∃ i, xs = [.int i] ∧ Q (.int i) H) ∨ ∃ k, xs = [.bl k] ∧ Q (.int (if k then 1 else 0)) H) ∨ ∃ a n, xs = [.str a] ∧ PySem.intText? a = some n ∧ a.length ≤ 640 ∧ Q (.int n) H
theorem call_int3 : CallR X (.type "int") rInt3 := call_int1.or call_int_str
theorem intN : CallN K mg E rInt3 (on1 gInt) := on1N fun B F r H C x v Q hr hx o => by
  cases x with
  | int i => exact .inl (.inl ⟨i, by rw [show v = V.int i from hx], out_ok (d := .int i) hr rfl o⟩)
  | bl i => exact .inl (.inr ⟨i, by rw [show v = V.bl i from hx], out_ok (d := .int (if i then 1 else 0)) hr rfl o⟩)
  | str a =>
    have o : Out (Rep K) K mg E B F r (match PySem.intText? a with
    | some n => if a.length ≤ 640 then .ok (.int n, C) else .no
    | none => .no) Q := o
    split at o
    · rename_i n e
      split at o
      · rename_i hl
        exact .inr ⟨a, n, by rw [show v = V.str a from hx], e, hl, out_ok (d := .int n) hr rfl o⟩
      · exact False.elim o
    · exact False.elim o
  | _ => exact False.elim o
/-! lists and tuples of lists and tuples -/
def gList (c : Bool) (x : D) (C : Store) : RE := match seqOf C x with
  | some ds => newL c ds C
  | none => .no
theorem listN {c : Bool} : CallN K mg E (fun xs H Q => ∃ p ys, xs = [.ref p] ∧ (SqL K H p ys ∨ SqT K H p ys) ∧ ∀ l, H l = none → Q (.ref l) (upd H l (.lst ys))) (on1 (gList c)) := on1N fun B F r H C x v Q hr hx o => by
  unfold gList at o
  split at o
  · rename_i ds e
    obtain ⟨a, vs, rfl, h2, h3⟩ := seqOf_ok hr hx e
    exact ⟨a, vs, rfl, h2, fun l hl => newL_ok hr h3 o hl⟩
  · exact False.elim o
/-! all, any, sum, max, min, sorted -/
def gAll (x : D) (C : Store) : RE := match (lstOf C x).bind blsOf with
  | some bs => .ok (.bl (bs.all id), C)
  | none => .no
theorem bind_some {A B : Type} {o : Option A} {f : A → Option B} {b : B} (h : o.bind f = some b) : ∃ a, o = some a ∧ f a = some b := by
  cases o with
  | none => cases h
  | some a => exact ⟨a, rfl, h⟩
theorem bls_ok {x : D} {v : V} {bs : List Bool} (hr : Rel K B F r H C) (hx : Rep K F r x v) (e : (lstOf C x).bind blsOf = some bs) : ∃ a, v = .ref a ∧ SqL K H a (bs.map V.bl) := by
  obtain ⟨ds, e1, e2⟩ := bind_some e
  obtain ⟨a, vs, rfl, h2, h3⟩ := lstOf_ok hr hx e1
  rw [blsOf_eq e2] at h3
  rw [h3.bls] at h2
  exact ⟨a, rfl, h2⟩
theorem ints_ok {x : D} {v : V} {bs : List Int} (hr : Rel K B F r H C) (hx : Rep K F r x v) (e : (lstOf C x).bind intsOf = some bs) : ∃ a, v = .ref a ∧ SqL K H a (bs.map V.int) := by
  obtain ⟨ds, e1, e2⟩ := bind_some e
  obtain ⟨a, vs, rfl, h2, h3⟩ := lstOf_ok hr hx e1
  rw [intsOf_eq e2] at h3
  rw [h3.ints] at h2
  exact ⟨a, rfl, h2⟩
theorem allN : CallN K mg E (rAll K) (on1 gAll) := on1N fun B F r H C x v Q hr hx o => by
  unfold gAll at o
  split at o
  · rename_i bs e
    obtain ⟨a, rfl, h⟩ := bls_ok hr hx e
    exact ⟨a, bs, rfl, h, out_ok (d := .bl (bs.all id)) hr rfl o⟩
  · exact False.elim o
def gSum (x : D) (C : Store) : RE := match (lstOf C x).bind intsOf with
  | some bs => .ok (.int bs.sum, C)
  | none => .no
theorem sumN : CallN K mg E (rSum K) (on1 gSum) := on1N fun B F r H C x v Q hr hx o => by
  unfold gSum at o
  split at o
  · rename_i bs e
    obtain ⟨a, rfl, h⟩ := ints_ok hr hx e
    exact ⟨a, bs, rfl, h, out_ok (d := .int bs.sum) hr rfl o⟩
  · exact False.elim o
def sortI (ns : List Int) : List Int := ns.mergeSort (fun a b => decide (a ≤ b))
theorem sortI_perm (ns : List Int) : (sortI ns).Perm ns := List.mergeSort_perm _ _
theorem sortI_le (ns : List Int) : (sortI ns).Pairwise (· ≤ ·) := by
  have h := List.pairwise_mergeSort (le := fun (a b : Int) => decide (a ≤ b)) (fun a b c h1 h2 => by simp at *; omega) (fun a b => by simp; omega) ns
  exact h.imp fun h => by simpa using h
end
end Nv

namespace Nv
open PySem PySem.Spec PyProof.Rows L2
section
variable {K : PySem.W.Frag} {mg : Str → Option Value} {E : XK} {B F H : Hp} {r : List Addr} {C : Store} {Q : VK} {X : Cx} {a b e : Expr} {es : List Expr} {ma mb mo : ME} {mas : MG (List D)} {pos p1 p2 p3 : Pos}

/-! isinstance -/
theorem ne_isi {T : Str} {Ts : String} (hm : X.mg "isinstance" = none) (hmT : X.mg T = none) (hbT : bootBuiltins T = some (.type Ts)) (hT : Ts ∈ kinds) (ha : NE X E a ma) (hl : Gl X "isinstance" := by rfl) (hlT : Gl X T := by rfl)
    (h1 : T ≠ "__name__" := by decide) (h2 : (T == ("__debug__" : Str)) = false := by decide) (hs : starEach [a, .Name T p2] X.env = (false, eval a X.env) :: starEach [.Name T p2] X.env := by rfl)
    (hs2 : starEach [.Name T p2] X.env = (false, eval (.Name T p2) X.env) :: starEach [] X.env := by rfl) (hpl : (backTo pos (starEach [.Name T p2] X.env)).any (·.1) = false := by rfl) :
    NE X E (.Call (.Name "isinstance" p1) [a, .Name T p2] [] pos) (m1 (gIsi Ts) ma) :=
  ⟨pe_imp (pe_callB call_isi hl hm boot_isinstance (pa_cons ha.pe (pa_cons (pe_bltn (v := .ty Ts) hlT hmT hbT rfl h1 h2) pa_nil hs2) hs) (by decide) (by decide) hs hpl) fun s H Q q => by
    obtain ⟨B, F, r, sl, C, hr, hs, o⟩ := q
    refine ⟨B, F, r, sl, C, hr, hs, Out.bind (P := Rep X.K) o fun x C1 F1 r1 H1 v e1 e2 hr1 hx o1 => ?_⟩
    simp only [gIsi] at o1
    split at o1
    · rename_i t et
      obtain ⟨k1, k2⟩ := tyC_ok hr1 hx et
      exact ⟨v, .ty Ts, .type t, .type Ts, isB t Ts, rfl, .ty Ts, k2, kit_ty (kit_kinds t k1 Ts hT), out_ok (d := .bl (isB t Ts)) hr1 rfl o1⟩
    · exact False.elim o1⟩
/-- a row of names of built-in types -/
structure TyArgs (X : Cx) (es : List Expr) (Ts : List String) : Prop where
  pa : PA X es fun _ H Q => Q (Ts.map V.ty) H
/-! list(range(..)), [..] * n -/
def intOf : D → Option Int
  | .int i => some i
  | _ => none
theorem intOf_ok {x : D} {v : V} {i : Int} (hx : Rep K F r x v) (e : intOf x = some i) : v = .int i := by
  cases x with
  | int j => cases e; exact hx
  | _ => cases e
def rangeD (a b : Int) : List D := (List.range (b - a).toNat).map fun i => D.int (a + (i : Nat))
theorem range_ok (a b : Int) : Reps K F r (rangeD a b) (rgV a b) := by
  unfold rangeD rgV
  generalize (b - a).toNat = n
  generalize List.range n = l
  induction l with
  | nil => exact .nil
  | cons i l ih => exact .cons rfl ih
/-- small numbers: ranges and indices -/
def lowI (i : Int) : Bool := decide (-(2 ^ 20) ≤ i) && decide (i ≤ 2 ^ 20)
theorem lowI_ok {i : Int} (h : lowI i = true) : -(2 ^ 20) ≤ i ∧ i ≤ 2 ^ 20 := by
  unfold lowI at h
  rw [Bool.and_eq_true] at h
  exact ⟨of_decide_eq_true h.1, of_decide_eq_true h.2⟩
theorem rg_ok {a b : Int} (h : (lowI a && lowI b) = true) : RgOk a b := by
  rw [Bool.and_eq_true] at h
  have h1 := lowI_ok h.1
  have h2 := lowI_ok h.2
  unfold RgOk
  omega
def gRg (c : Bool) (x y : D) (C : Store) : RE := match intOf x, intOf y with
  | some i, some j => if (lowI i && lowI j) = true then newL c (rangeD i j) C else .no
  | _, _ => .no
theorem ne_listRg2 {c : Bool} (hc : X.calm = true) (hml : X.mg "list" = none) (hmr : X.mg "range" = none) (ha : NE X E a ma) (hb : NE X E b mb) (hgl : Gl X "list" := by rfl) (hgr : Gl X "range" := by rfl)
    (na : starEach [a, b] X.env = (false, eval a X.env) :: starEach [b] X.env := by rfl) (nb : starEach [b] X.env = (false, eval b X.env) :: starEach [] X.env := by rfl) (hp : (backTo p2 (starEach [b] X.env)).any (·.1) = false := by rfl)
    (nl : starEach [.Call (.Name "range" p3) [a, b] [] p2] X.env = (false, eval (.Call (.Name "range" p3) [a, b] [] p2) X.env) :: starEach [] X.env := by rfl) :
    NE X E (.Call (.Name "list" p1) [.Call (.Name "range" p3) [a, b] [] p2] [] pos) (m2 (gRg c) ma mb) :=
  ⟨pe_imp (pe_listRg hc hgl hml (prg_2 hgr hmr ha.pe hb.pe na nb hp) nl) fun s H Q q => by
    obtain ⟨B, F, r, sl, C, hr, hs, o⟩ := q
    refine ⟨B, F, r, sl, C, hr, hs, Out.bind (P := Rep X.K) o fun x C1 F1 r1 H1 v e1 e2 hr1 hx o1 => ?_⟩
    refine ⟨B, F1, r1, sl, C1, hr1, hs.mono e1 e2, Out.bind (P := Rep X.K) o1 fun y C2 F2 r2 H2 u e3 e4 hr2 hy o2 => ?_⟩
    simp only [gRg] at o2
    split at o2
    · rename_i i j ei ej
      split at o2
      · rename_i hl
        exact ⟨i, j, intOf_ok hx ei, intOf_ok hy ej, rg_ok hl, fun q hq => newL_ok hr2 (range_ok i j) o2 hq⟩
      · exact False.elim o2
    · exact False.elim o2⟩
theorem ne_listRg1 {c : Bool} (hc : X.calm = true) (hml : X.mg "list" = none) (hmr : X.mg "range" = none) (ha : NE X E a ma) (hgl : Gl X "list" := by rfl) (hgr : Gl X "range" := by rfl)
    (na : starEach [a] X.env = (false, eval a X.env) :: starEach [] X.env := by rfl)
    (nl : starEach [.Call (.Name "range" p3) [a] [] p2] X.env = (false, eval (.Call (.Name "range" p3) [a] [] p2) X.env) :: starEach [] X.env := by rfl) :
    NE X E (.Call (.Name "list" p1) [.Call (.Name "range" p3) [a] [] p2] [] pos) (m1 (gRg c (.int 0)) ma) :=
  ⟨pe_imp (pe_listRg hc hgl hml (prg_1 hgr hmr ha.pe na) nl) fun s H Q q => by
    obtain ⟨B, F, r, sl, C, hr, hs, o⟩ := q
    refine ⟨B, F, r, sl, C, hr, hs, Out.bind (P := Rep X.K) o fun x C1 F1 r1 H1 v e1 e2 hr1 hx o1 => ?_⟩
    have o1 : Out (Rep X.K) X.K X.mg E B F1 r1 (match intOf (.int 0), intOf x with
      | some i, some j => if (lowI i && lowI j) = true then newL c (rangeD i j) C1 else .no
      | _, _ => .no) Q := o1
    split at o1
    · rename_i i j ei ej
      cases ei
      split at o1
      · rename_i hl
        exact ⟨j, intOf_ok hx ej, rg_ok hl, fun q hq => newL_ok hr1 (range_ok 0 j) o1 hq⟩
      · exact False.elim o1
    · exact False.elim o1⟩
def mRep (c : Bool) (mas : MG (List D)) (mb : ME) : ME := fun sl C => (mas sl C).bind fun p => if p.1.length ≤ sizeLine then (mb sl p.2).bind fun q => match intOf q.1 with
    | some k => if lowI k = true ∧ p.1.length * k.toNat ≤ sizeLine then newL c (List.replicate k.toNat p.1).flatten q.2 else .no
    | none => .no
  else .no
theorem ne_rep {c : Bool} (ha : NA X E es mas) (hb : NE X E b mb) : NE X E (.BinOp (.List es p1) .Mult b pos) (mRep c mas mb) :=
  ⟨pe_imp (pe_op op_rep (pe_lst ha.pa) hb.pe) fun s H Q q => by
    obtain ⟨B, F, r, sl, C, hr, hs, o⟩ := q
    refine ⟨B, F, r, sl, C, hr, hs, Out.bind (P := Reps X.K) o fun x C1 F1 r1 H1 v e1 e2 hr1 hx o1 => ?_⟩
    simp only at o1
    split at o1
    · rename_i hz
      refine ⟨by rw [← hx.length]; exact hz, fun p hp => ?_⟩
      have hF := same_new (o := HO.lst v) (hr1.freeF hp)
      have hr1' := hr1.freeze (o := HO.lst v) hp
      refine ⟨B, upd F1 p (.lst v), r1, sl, C1, hr1', (hs.mono e1 e2).mono hF (.refl _), Out.bind (P := Rep X.K) (o1.mono hF (.refl _)) fun y C2 F2 r2 H2 u e3 e4 hr2 hy o2 => ?_⟩
      simp only at o2
      split at o2
      · rename_i k ek
        split at o2
        · rename_i hl
          have hk := lowI_ok hl.1
          have hx2 := hx.mono (hF.trans e3) e4
          exact ⟨p, k, v, rfl, intOf_ok hy ek, hr2.froz _ _ (e3 _ _ upd_same), by omega, by omega, by rw [← hx.length]; exact hl.2, fun q hq => newL_ok hr2 (hx2.rep k.toNat) o2 hq⟩
        · exact False.elim o2
      · exact False.elim o2
    · exact False.elim o1⟩
/-! items -/
theorem atI_ok {ds : List D} {vs : List V} {i : Int} {d : D} (h : Reps K F r ds vs) (e : atI ds i = some d) : ∃ v, atI vs i = some v ∧ Rep K F r d v := by
  unfold atI at e ⊢
  rw [← h.length]
  obtain ⟨j, e1, e2⟩ := bind_some e
  obtain ⟨v, h1, h2⟩ := h.get e2
  rw [e1]
  exact ⟨v, h1, h2⟩
def gIx (x y : D) (C : Store) : RE := match intOf y with
  | some i => match x with
    | .str z => if z.length ≤ sizeLine then match atI z.cps.toList i with
        | some c => .ok (.str ⟨#[c]⟩, C)
        | none => .no
      else .no
    | x => match (seqOf C x).bind fun ds => atI ds i with
      | some d => .ok (d, C)
      | none => .no
  | none => .no
theorem ixN_ok : OpN K mg E (rIx K) gIx := by
  intro B F r H C x y v u Q hr hx hy o
  cases ei : intOf y with
  | none => unfold gIx at o; rw [ei] at o; exact False.elim o
  | some i =>
    unfold gIx at o
    rw [ei] at o
    have hu := intOf_ok hy ei
    have sq : ∀ (o : Out (Rep K) K mg E B F r (match (seqOf C x).bind fun ds => atI ds i with
      | some d => .ok (d, C)
      | none => .no) Q), rIx K v u H Q := fun o => by
      split at o
      · rename_i d e
        obtain ⟨ds, e1, e2⟩ := bind_some e
        obtain ⟨a, vs, rfl, h2, h3⟩ := seqOf_ok hr hx e1
        obtain ⟨w, h4, h5⟩ := atI_ok h3 e2
        rcases h2 with h2 | h2
        · exact .inl ⟨a, vs, i, w, rfl, hu, h2, h4, out_ok hr h5 o⟩
        · exact .inr (.inl ⟨a, vs, i, w, rfl, hu, h2, h4, out_ok hr h5 o⟩)
      · exact False.elim o
    cases x with
    | str z =>
      have o : Out (Rep K) K mg E B F r (if z.length ≤ sizeLine then match atI z.cps.toList i with
        | some c => .ok (.str ⟨#[c]⟩, C)
        | none => .no
      else .no) Q := o
      split at o
      · rename_i hz
        split at o
        · rename_i c ec
          exact .inr (.inr ⟨z, i, c, hx, hu, hz, ec, out_ok (d := .str ⟨#[c]⟩) hr rfl o⟩)
        · exact False.elim o
      · exact False.elim o
    | _ => exact sq o
theorem ne_ix (ha : NE X E a ma) (hb : NE X E b mb) (hs : PlainIx b := by exact fun _ _ => rfl) : NE X E (.Subscript a b pos) (m2 gIx ma mb) :=
  ⟨pe_imp (pe_ix ix_seq ha.pe hb.pe hs) (two ixN_ok)⟩

/-! slices -/
def cutD (xs : List D) (lo hi : Option Int) : List D := (xs.drop (HT.sIx xs.length 0 lo)).take (HT.sIx xs.length xs.length hi - HT.sIx xs.length 0 lo)
theorem cut_ok {ds : List D} {vs : List V} (h : Reps K F r ds vs) (lo hi : Option Int) : Reps K F r (cutD ds lo hi) (cutV vs lo hi) := by
  unfold cutD cutV
  rw [h.length]
  exact (h.drop _).take _
structure NO (X : Cx) (E : XK) (e : Option Expr) (m : MG (Option Int)) : Prop where
  po : PO X e (LG (fun _ _ a b => a = b) X.K X.mg E m)
theorem po_imp {X : Cx} {e : Option Expr} {t t' : TO} (h : PO X e t) (hi : ∀ s H Q, t' s H Q → t s H Q) : PO X e t' := ⟨fun pins s σ H Q I q => h.run pins s σ H Q I (hi _ _ _ q)⟩
def oNone : MG (Option Int) := fun _ C => .ok (none, C)
def oSome (m : ME) : MG (Option Int) := fun sl C => (m sl C).bind fun p => match intOf p.1 with
  | some i => .ok (some i, p.2)
  | none => .no
theorem no_none : NO X E none oNone := ⟨po_imp po_none fun s H Q q => by
    obtain ⟨B, F, r, sl, C, hr, hs, o⟩ := q
    exact o F r H none (.refl _) (.refl _) hr rfl⟩
theorem no_some (ha : NE X E a ma) : NO X E (some a) (oSome ma) := ⟨po_imp (po_some ha.pe) fun s H Q q => by
    obtain ⟨B, F, r, sl, C, hr, hs, o⟩ := q
    refine ⟨B, F, r, sl, C, hr, hs, Out.bind (P := Rep X.K) o fun x C1 F1 r1 H1 v e1 e2 hr1 hx o1 => ?_⟩
    simp only at o1
    split at o1
    · rename_i i ei
      exact ⟨i, intOf_ok hx ei, o1 F1 r1 H1 (some i) (.refl _) (.refl _) hr1 rfl⟩
    · exact False.elim o1⟩
def gSl (c : Bool) (x : D) (lo hi : Option Int) (C : Store) : RE := match x with
  | .str z => if z.length ≤ sizeLine then .ok (.str (cutS z lo hi), C) else .no
  | x => match lstOf C x with
    | some ds => newL c (cutD ds lo hi) C
    | none => .no
def mSl (c : Bool) (ma : ME) (ml mh : MG (Option Int)) : ME := fun sl C => (ma sl C).bind fun p => (ml sl p.2).bind fun q => (mh sl q.2).bind fun t => gSl c p.1 q.1 t.1 t.2
theorem ne_sl {c : Bool} {lo hi : Option Expr} {ml mh : MG (Option Int)} (ha : NE X E a ma) (hl : NO X E lo ml) (hh : NO X E hi mh) : NE X E (.Subscript a (.Slice lo hi none p2) pos) (mSl c ma ml mh) :=
  ⟨pe_imp (pe_slice (sl_list.or sl_str) ha.pe hl.po hh.po) fun s H Q q => by
    obtain ⟨B, F, r, sl, C, hr, hs, o⟩ := q
    refine ⟨B, F, r, sl, C, hr, hs, Out.bind (P := Rep X.K) o fun x C1 F1 r1 H1 v e1 e2 hr1 hx o1 => ?_⟩
    refine ⟨B, F1, r1, sl, C1, hr1, hs.mono e1 e2, Out.bind (P := fun _ _ a b => a = b) o1 fun y C2 F2 r2 H2 u e3 e4 hr2 hy o2 => ?_⟩
    refine ⟨B, F2, r2, sl, C2, hr2, (hs.mono e1 e2).mono e3 e4, Out.bind (P := fun _ _ a b => a = b) o2 fun z C3 F3 r3 H3 w e5 e6 hr3 hz o3 => ?_⟩
    subst hy hz
    have hx3 := (hx.mono e3 e4).mono e5 e6
    have sq : ∀ (o : Out (Rep X.K) X.K X.mg E B F3 r3 (match lstOf C3 x with
      | some ds => newL c (cutD ds y z) C3
      | none => .no) Q), rSlL X.K v y z H3 Q ∨ rSlS v y z H3 Q := fun o => by
      split at o
      · rename_i ds e
        obtain ⟨a, vs, rfl, h2, h3⟩ := lstOf_ok hr3 hx3 e
        exact .inl ⟨a, vs, rfl, h2, fun p hp => newL_ok hr3 (cut_ok h3 y z) o hp⟩
      · exact False.elim o
    cases x with
    | str zz =>
      have o3 : Out (Rep X.K) X.K X.mg E B F3 r3 (if zz.length ≤ sizeLine then .ok (.str (cutS zz y z), C3) else .no) Q := o3
      split at o3
      · rename_i hl
        exact .inr ⟨zz, hx, hl, out_ok (d := .str (cutS zz y z)) hr3 rfl o3⟩
      · exact False.elim o3
    | _ => exact sq o3⟩

/-! methods of lists -/
def isL (C : Store) (x : D) : Bool := (lstOf C x).isSome
def mMt (chk : Store → D → Bool) (g : D → List D → Store → RE) (mo : ME) (mas : MG (List D)) : ME := fun sl C => (mo sl C).bind fun p => if chk p.2 p.1 = true then (mas sl p.2).bind fun q => g p.1 q.1 q.2 else .no
def ChkN (K : PySem.W.Frag) (T : String) (chk : Store → D → Bool) : Prop := ∀ (B F : Hp) (r : List Addr) (H : Hp) (C : Store) (x : D) (v : V), Rel K B F r H C → Rep K F r x v → chk C x = true → tyV K T v H
def MtN (K : PySem.W.Frag) (mg : Str → Option Value) (E : XK) (rm : V → List V → Hp → VK → Prop) (g : D → List D → Store → RE) : Prop :=
  ∀ (B F : Hp) (r : List Addr) (H : Hp) (C : Store) (x : D) (v : V) (ds : List D) (vs : List V) (Q : VK), Rel K B F r H C → Rep K F r x v → Reps K F r ds vs → Out (Rep K) K mg E B F r (g x ds C) Q → rm v vs H Q
theorem chk_list : ChkN K "list" isL := by
  intro B F r H C x v hr hx h
  unfold isL at h
  cases e : lstOf C x with
  | none => rw [e] at h; cases h
  | some ds =>
    obtain ⟨a, vs, rfl, h2, _⟩ := lstOf_ok hr hx e
    exact .inl ⟨rfl, vs, h2⟩
def isS (C : Store) (x : D) : Bool := match x with
  | .str _ => true
  | _ => false
theorem ne_mt {o : Expr} {name : Str} {apos cpos : Pos} {T id : String} {rm : V → List V → Hp → VK → Prop} {chk : Store → D → Bool} {g : D → List D → Store → RE} (pa : PlainAttrs T) (slot : Slot T name id)
    (hty : typeOf (.builtin id) = pure (.type "method_descriptor")) (hm : MtR X id rm) (hc : ChkN X.K T chk) (hg : MtN X.K X.mg E rm g) (ho : NE X E o mo) (ha : NA X E (e :: es) mas) (hbase : attributeBase o name X.env (eval o X.env) = eval o X.env := by rfl)
    (hfew : ((backTo cpos (starEach (e :: es) X.env)).all (fun x => !x.1) && (backToKw cpos (keywordEach [] X.env)).all (fun x => x.1.isSome)
      && decide ((e :: es).length + ([] : List Keyword).length + (if ([] : List Keyword).isEmpty then 0 else 1) < 30)) = true := by rfl)
    (hline : (apos.endLine == cpos.line) = true := by rfl) (hs : starEach (e :: es) X.env = (false, eval e X.env) :: starEach es X.env := by rfl) (hplain : (backTo cpos (starEach es X.env)).any (·.1) = false := by rfl) :
    NE X E (.Call (.Attribute o name apos) (e :: es) [] cpos) (mMt chk g mo mas) :=
  ⟨pe_imp (pe_bm pa slot hty hm ho.pe ha.pa hbase hfew hline hs hplain) fun s H Q q => by
    obtain ⟨B, F, r, sl, C, hr, hs, o⟩ := q
    refine ⟨B, F, r, sl, C, hr, hs, Out.bind (P := Rep X.K) o fun x C1 F1 r1 H1 v e1 e2 hr1 hx o1 => ?_⟩
    simp only at o1
    split at o1
    · rename_i hk
      refine ⟨hc B F1 r1 H1 C1 x v hr1 hx hk, B, F1, r1, sl, C1, hr1, hs.mono e1 e2, Out.bind (P := Reps X.K) o1 fun y C2 F2 r2 H2 u e3 e4 hr2 hy o2 => ?_⟩
      exact hg B F2 r2 H2 C2 x v y u Q hr2 (hx.mono e3 e4) hy o2
    · exact False.elim o1⟩
def mMt0 (chk : Store → D → Bool) (g : D → List D → Store → RE) (mo : ME) : ME := fun sl C => (mo sl C).bind fun p => if chk p.2 p.1 = true then g p.1 [] p.2 else .no
theorem ne_mt0 {o : Expr} {name : Str} {apos cpos : Pos} {T id : String} {rm : V → List V → Hp → VK → Prop} {chk : Store → D → Bool} {g : D → List D → Store → RE} (pa : PlainAttrs T) (slot : Slot T name id)
    (hty : typeOf (.builtin id) = pure (.type "method_descriptor")) (hm : MtR X id rm) (hc : ChkN X.K T chk) (hg : MtN X.K X.mg E rm g) (ho : NE X E o mo) (hbase : attributeBase o name X.env (eval o X.env) = eval o X.env := by rfl)
    (hline : (apos.endLine == cpos.line) = true := by rfl) : NE X E (.Call (.Attribute o name apos) [] [] cpos) (mMt0 chk g mo) :=
  ⟨pe_imp (pe_bm0 pa slot hty hm ho.pe hbase hline) fun s H Q q => by
    obtain ⟨B, F, r, sl, C, hr, hs, o⟩ := q
    refine ⟨B, F, r, sl, C, hr, hs, Out.bind (P := Rep X.K) o fun x C1 F1 r1 H1 v e1 e2 hr1 hx o1 => ?_⟩
    simp only at o1
    split at o1
    · rename_i hk
      exact ⟨hc B F1 r1 H1 C1 x v hr1 hx hk, hg B F1 r1 H1 C1 x v [] [] Q hr1 hx .nil o1⟩
    · exact False.elim o1⟩
/-- a list's cell gets other items -/
theorem setc_ok {x : D} {v : V} {i : Nat} {ds ds' : List D} {vs' : List V} {a : Addr} {d : D} {w : V} (hr : Rel K B F r H C) (e2 : r[i]? = some a) (hn : F a = none) (hd : Reps K F r ds' vs') (hw : Rep K F r d w)
    (o : Out (Rep K) K mg E B F r (.ok (d, C.set i (.lst ds'))) Q) : Q w (upd H a (.lst vs')) :=
  o F r _ w (.refl _) (.refl _) (hr.write e2 hn ⟨hn, vs', upd_same, hd⟩) hw
def gAppend (x : D) (ds : List D) (C : Store) : RE := match cellOf C x, ds with
  | some (i, xs), [y] => if xs.length < sizeLine then .ok (.non, C.set i (.lst (xs ++ [y]))) else .no
  | _, _ => .no
theorem appendN : MtN K mg E rAppend gAppend := by
  intro B F r H C x v ds vs Q hr hx hd o
  unfold gAppend at o
  split at o
  · rename_i i xs y e
    obtain ⟨a, zs, rfl, h1, h2, h3, h4⟩ := cellOf_ok hr hx e
    obtain ⟨u, w, rfl, h5, h6⟩ := hd
    cases (show w = [] from h6)
    split at o
    · rename_i hl
      exact ⟨a, zs, u, rfl, rfl, h3, by rw [← h4.length]; exact hl, setc_ok (x := x) (v := .non) (ds := xs) (d := .non) hr h1 h2 (h4.append (.one h5)) rfl o⟩
    · exact False.elim o
  · exact False.elim o
def gPop (x : D) (ds : List D) (C : Store) : RE := match cellOf C x, ds with
  | some (i, xs), [] => match xs[xs.length - 1]? with
    | some y => .ok (y, C.set i (.lst xs.dropLast))
    | none => .no
  | some (i, xs), [.int k] => if lowI k = true then match seqIndex? k xs.length with
      | some j => match xs[j]? with
        | some y => .ok (y, C.set i (.lst (xs.eraseIdx j)))
        | none => .no
      | none => .no
    else .no
  | _, _ => .no
theorem popN : MtN K mg E (fun x vs H Q => rPop x vs H Q ∨ rPopAt x vs H Q) gPop := by
  intro B F r H C x v ds vs Q hr hx hd o
  unfold gPop at o
  split at o
  · rename_i i xs e
    obtain ⟨a, zs, rfl, h1, h2, h3, h4⟩ := cellOf_ok hr hx e
    cases (show vs = [] from hd)
    split at o
    · rename_i y ey
      obtain ⟨w, h5, h6⟩ := h4.get ey
      exact .inl ⟨a, zs, w, rfl, rfl, h3, by rw [← h4.length]; exact h5, setc_ok (x := x) (v := .non) (ds := xs) hr h1 h2 h4.dropLast h6 o⟩
    · exact False.elim o
  · rename_i i xs k e
    obtain ⟨a, zs, rfl, h1, h2, h3, h4⟩ := cellOf_ok hr hx e
    obtain ⟨u, w, rfl, h5, h6⟩ := hd
    cases (show w = [] from h6)
    split at o
    · rename_i hk
      have hk := lowI_ok hk
      split at o
      · rename_i j ej
        split at o
        · rename_i y ey
          obtain ⟨w, h7, h8⟩ := h4.get ey
          exact .inr ⟨a, zs, k, j, w, rfl, by rw [show u = V.int k from h5], h3, by omega, by omega, by rw [← h4.length]; exact ej, h7, setc_ok (x := x) (v := .non) (ds := xs) hr h1 h2 (h4.eraseIdx j) h8 o⟩
        · exact False.elim o
      · exact False.elim o
    · exact False.elim o
  · exact False.elim o
theorem mt_pop2 : MtR X "list.pop" (fun x vs H Q => rPop x vs H Q ∨ rPopAt x vs H Q) := MtR.or (id := "list.pop") mt_pop mt_popAt
end
end Nv

namespace Nv
open PySem PySem.Spec PyProof.Rows L2

/-! statements -/
inductive Fl where
  | nx
  | rt (d : D)
  | bk
  | ct
abbrev RS := R ((Fl × Sl) × Store)
abbrev MS := Sl → Store → RS
def EndOk (K : PySem.W.Frag) (De : Ends) (F : Hp) (r : List Addr) (H : Hp) (sl : Sl) : Fl → Prop
  | .nx => ∀ s, Sls K F r sl s → De.nx s H
  | .bk => ∀ s, Sls K F r sl s → De.bk s H
  | .ct => ∀ s, Sls K F r sl s → De.ct s H
  | .rt d => ∀ v, Rep K F r d v → De.rt v H
def OutS (K : PySem.W.Frag) (mg : Str → Option Value) (E : XK) (B F : Hp) (r : List Addr) (o : RS) (De : Ends) : Prop :=
  match o with
  | .ok (p, C) => ∀ (F' : Hp) (r' : List Addr) (H' : Hp), Same F F' → Ex r r' → Rel K B F' r' H' C → EndOk K De F' r' H' p.2 p.1
  | .ex x C => XOk K mg E B F r x C
  | .no => False
def LS (K : PySem.W.Frag) (mg : Str → Option Value) (E : XK) (m : MS) : TS := fun De s H =>
  ∃ B F r sl C, Rel K B F r H C ∧ Sls K F r sl s ∧ OutS K mg E B F r (m sl C) De
structure NS (X : Cx) (E : XK) (st : Stmt) (m : MS) : Prop where
  ps : PS X st (LS X.K X.mg E m)
structure NSs (X : Cx) (E : XK) (st : List Stmt) (m : MS) : Prop where
  ps : PSs X st (LS X.K X.mg E m)
theorem ps_imp {X : Cx} {st : Stmt} {t t' : TS} (h : PS X st t) (hi : ∀ De s H, t' De s H → t De s H) : PS X st t' := ⟨fun pins s σ H De I q => h.run pins s σ H De I (hi _ _ _ q)⟩
theorem pss_imp {X : Cx} {st : List Stmt} {t t' : TS} (h : PSs X st t) (hi : ∀ De s H, t' De s H → t De s H) : PSs X st t' := ⟨fun pins s σ H De I q => h.run pins s σ H De I (hi _ _ _ q)⟩
section
variable {K : PySem.W.Frag} {mg : Str → Option Value} {E : XK} {B F F1 : Hp} {r r1 : List Addr} {H : Hp} {C : Store} {De : Ends} {s : L2.St} {sl : Sl}
theorem OutS.mono {o : RS} (h : OutS K mg E B F r o De) (hF : Same F F1) (hr : Ex r r1) : OutS K mg E B F1 r1 o De := by
  cases o with
  | ok p => exact fun F' r' H' h1 h2 h3 => h F' r' H' (hF.trans h1) (hr.trans h2) h3
  | ex x C => exact XOk.mono h hF hr
  | no => exact h
/-- an expression first -/
theorem OutS.bind {S T : Type} {P : PR S T} {o : R (S × Store)} {k : S × Store → RS} {Q : T → Hp → Prop} (h : OutS K mg E B F r (o.bind k) De)
    (hk : ∀ (a : S) (C1 : Store) (F1 : Hp) (r1 : List Addr) (H1 : Hp) (b : T), Same F F1 → Ex r r1 → Rel K B F1 r1 H1 C1 → P F1 r1 a b → OutS K mg E B F1 r1 (k (a, C1)) De → Q b H1) : Out P K mg E B F r o Q := by
  cases o with
  | ok p =>
    obtain ⟨a, C1⟩ := p
    exact fun F' r' H' b h1 h2 h3 h4 => hk a C1 F' r' H' b h1 h2 h3 h4 (OutS.mono h h1 h2)
  | ex x C => exact h
  | no => exact h
theorem OutS.next (h : OutS K mg E B F r (.ok ((.nx, sl), C)) De) (hr : Rel K B F r H C) (hs : Sls K F r sl s) : De.nx s H := h F r H (.refl _) (.refl _) hr s hs
variable {X : Cx} {st : Stmt} {rest : List Stmt} {e a b c : Expr} {m ma mb : ME} {mt : MG Bool} {u u1 u2 : MS} {pos p1 p2 : Pos}
def sNil : MS := fun sl C => .ok ((.nx, sl), C)
def sSeq (u1 u2 : MS) : MS := fun sl C => (u1 sl C).bind fun p => match p.1.1 with
  | .nx => u2 p.1.2 p.2
  | _ => .ok p
theorem nss_nil : NSs X E [] sNil := ⟨pss_imp pss_nil fun De s H q => by
    obtain ⟨B, F, r, sl, C, hr, hs, o⟩ := q
    exact OutS.next o hr hs⟩
theorem nss_cons (h1 : NS X E st u1) (h2 : NSs X E rest u2) : NSs X E (st :: rest) (sSeq u1 u2) := ⟨pss_imp (pss_cons h1.ps h2.ps) fun De s H q => by
    obtain ⟨B, F, r, sl, C, hr, hs, o⟩ := q
    refine ⟨B, F, r, sl, C, hr, hs, ?_⟩
    unfold sSeq at o
    cases hu : u1 sl C with
    | ok p =>
      obtain ⟨⟨f, sl1⟩, C1⟩ := p
      rw [hu, R.bind_ok] at o
      intro F' r' H' k1 k2 k3
      cases f with
      | nx => exact fun s' hs' => ⟨B, F', r', sl1, C1, k3, hs', OutS.mono o k1 k2⟩
      | rt d => exact fun v hv => o F' r' H' k1 k2 k3 v hv
      | bk => exact fun s' hs' => o F' r' H' k1 k2 k3 s' hs'
      | ct => exact fun s' hs' => o F' r' H' k1 k2 k3 s' hs'
    | ex x Cx => rw [hu] at o; exact o
    | no => rw [hu] at o; exact o⟩
theorem nss_one (h1 : NS X E st u1) : NSs X E [st] u1 := ⟨pss_one h1.ps⟩
def sBk : MS := fun sl C => .ok ((.bk, sl), C)
def sCt : MS := fun sl C => .ok ((.ct, sl), C)
def sDrop (m : ME) : MS := fun sl C => (m sl C).bind fun p => .ok ((.nx, sl), p.2)
theorem ns_expr (he : NE X E e m) (hs : swapsWith e none pos.line X.env = pure false := by rfl) : NS X E (.Expr e pos) (sDrop m) := ⟨ps_imp (ps_expr he.pe hs) fun De s H q => by
    obtain ⟨B, F, r, sl, C, hr, hs, o⟩ := q
    refine ⟨B, F, r, sl, C, hr, hs, OutS.bind (P := Rep X.K) o fun x C1 F1 r1 H1 v e1 e2 hr1 hx o1 => ?_⟩
    exact OutS.next o1 hr1 (hs.mono e1 e2)⟩
def sRet (m : ME) : MS := fun sl C => (m sl C).bind fun p => .ok ((.rt p.1, sl), p.2)
theorem ns_ret (he : NE X E e m) : NS X E (.Return (some e) pos) (sRet m) := ⟨ps_imp (ps_ret he.pe) fun De s H q => by
    obtain ⟨B, F, r, sl, C, hr, hs, o⟩ := q
    refine ⟨B, F, r, sl, C, hr, hs, OutS.bind (P := Rep X.K) o fun x C1 F1 r1 H1 v e1 e2 hr1 hx o1 => ?_⟩
    exact o1 F1 r1 H1 (.refl _) (.refl _) hr1 v hx⟩
def sRetN : MS := fun sl C => .ok ((.rt .non, sl), C)
def sIf (t : MG Bool) (u1 u2 : MS) : MS := fun sl C => (t sl C).bind fun p => if p.1 = true then u1 sl p.2 else u2 sl p.2
theorem ns_if {xs ys : List Stmt} (hc : NT X E c mt) (ha : NSs X E xs u1) (hb : NSs X E ys u2) : NS X E (.If c xs ys pos) (sIf mt u1 u2) := ⟨ps_imp (ps_if hc.pt ha.ps hb.ps) fun De s H q => by
    obtain ⟨B, F, r, sl, C, hr, hs, o⟩ := q
    refine ⟨B, F, r, sl, C, hr, hs, OutS.bind (P := PB) o fun x C1 F1 r1 H1 v e1 e2 hr1 hx o1 => ?_⟩
    subst hx
    cases x with
    | true =>
      rw [if_pos rfl] at o1 ⊢
      exact ⟨B, F1, r1, sl, C1, hr1, hs.mono e1 e2, o1⟩
    | false =>
      rw [if_neg Bool.false_ne_true] at o1 ⊢
      exact ⟨B, F1, r1, sl, C1, hr1, hs.mono e1 e2, o1⟩⟩
/-- code that is not reached -/
def sNo : MS := fun _ _ => .no
theorem ns_never : NS X E st sNo := ⟨ps_imp ps_never fun De s H q => by
    obtain ⟨B, F, r, sl, C, hr, hs, o⟩ := q
    exact o⟩

/-! targets -/
abbrev MT := D → Sl → Store → R (Sl × Store)
def LT (own : List Nat) (K : PySem.W.Frag) (mg : Str → Option Value) (E : XK) (g : MT) : TG := fun v s H Q =>
  ∃ B F r sl C d, Rel K B F r H C ∧ Sls K F r sl s ∧ Rep K F r d v ∧ Out (fun F' r' sl' s' => Sls K F' r' sl' s' ∧ wipe s' own = wipe s own) K mg E B F r (g d sl C) Q
def LTs (own : List Nat) (K : PySem.W.Frag) (mg : Str → Option Value) (E : XK) (g : List D → Sl → Store → R (Sl × Store)) : TGs := fun vs s H Q =>
  ∃ B F r sl C ds, Rel K B F r H C ∧ Sls K F r sl s ∧ Reps K F r ds vs ∧ Out (fun F' r' sl' s' => Sls K F' r' sl' s' ∧ wipe s' own = wipe s own) K mg E B F r (g ds sl C) Q
structure NG (X : Cx) (E : XK) (own : List Nat) (tg : Expr) (g : MT) : Prop where
  pg : PG X tg (LT own X.K X.mg E g)
structure NGs (X : Cx) (E : XK) (own : List Nat) (tgs : List Expr) (g : List D → Sl → Store → R (Sl × Store)) : Prop where
  pg : PGs X tgs (LTs own X.K X.mg E g)
theorem pg_imp {tg : Expr} {t t' : TG} (h : PG X tg t) (hi : ∀ v s H Q, t' v s H Q → t v s H Q) : PG X tg t' := ⟨fun pins s σ H v w Q I rv q => h.run pins s σ H v w Q I rv (hi _ _ _ _ q)⟩
theorem pgs_imp {tg : List Expr} {t t' : TGs} (h : PGs X tg t) (hi : ∀ v s H Q, t' v s H Q → t v s H Q) : PGs X tg t' := ⟨fun pins s σ H v w Q I rv q => h.run pins s σ H v w Q I rv (hi _ _ _ _ q)⟩
theorem wipe_set {σ : L2.St} {i : Nat} {v : Option V} : ∀ {own : List Nat}, i ∈ own → wipe (σ.set i v) own = wipe σ own
  | j :: own, h => by
    unfold wipe
    by_cases hj : i ∈ own
    · rw [wipe_set hj]
    · have e : i = j := (List.mem_cons.mp h).resolve_right hj
      subst e
      clear h
      have key : ∀ own : List Nat, i ∉ own → wipe (σ.set i v) own = (wipe σ own).set i v := by
        intro own
        induction own with
        | nil => intro _; rfl
        | cons k own ih =>
          intro hk
          have h1 : i ≠ k := fun z => hk (z ▸ List.mem_cons_self)
          have h2 : i ∉ own := fun z => hk (List.mem_cons_of_mem _ z)
          unfold wipe
          rw [ih h2, List.set_comm _ _ h1]
      rw [key own hj, List.set_set]
theorem Sls.set (hs : Sls K F r sl s) {d : D} {v : V} (hd : Rep K F r d v) (i : Nat) : Sls K F r (sl.set i (some d)) (s.set i (some v)) := by
  refine ⟨by simp [hs.1], fun j d' e => ?_⟩
  by_cases hj : i = j
  · subst hj
    have hi : i < sl.length := by
      have := (List.getElem?_eq_some_iff.mp e).1
      simpa using this
    rw [List.getElem?_set_self hi] at e
    cases e
    exact ⟨v, List.getElem?_set_self (by rw [hs.1]; exact hi), hd⟩
  · rw [List.getElem?_set_ne hj] at e ⊢
    exact hs.2 j d' e
def gmN (i : Nat) : MT := fun d sl C => .ok (sl.set i (some d), C)
theorem ng_name {own : List Nat} (i : Nat) {x : Str} (hi : i ∈ own) (hN : X.N.Nodup) (hx : X.N[i]? = some x) (hl : Loc X.env.scope x) (hf : X.fn x = true ∨ X.env.scope.names.lookup x = some .local := by first | exact .inl rfl | exact .inr rfl) : NG X E own (.Name x pos) (gmN i) :=
  ⟨pg_imp (pg_name hN hx hl hf) fun v s H Q q => by
    obtain ⟨B, F, r, sl, C, d, hr, hs, hd, o⟩ := q
    exact o F r H (s.set i (some v)) (.refl _) (.refl _) hr ⟨hs.set hd i, wipe_set hi⟩⟩
def gmNil : List D → Sl → Store → R (Sl × Store) := fun ds sl C => match ds with
  | [] => .ok (sl, C)
  | _ => .no
def gmCons (g : MT) (gs : List D → Sl → Store → R (Sl × Store)) : List D → Sl → Store → R (Sl × Store) := fun ds sl C => match ds with
  | d :: ds => (g d sl C).bind fun p => gs ds p.1 p.2
  | [] => .no
theorem ngs_nil {own : List Nat} : NGs X E own [] gmNil := ⟨pgs_imp pgs_nil fun v s H Q q => by
    obtain ⟨B, F, r, sl, C, ds, hr, hs, hd, o⟩ := q
    cases ds with
    | nil => exact ⟨hd, o F r H s (.refl _) (.refl _) hr ⟨hs, rfl⟩⟩
    | cons d ds => exact False.elim o⟩
theorem ngs_cons {own : List Nat} {tg : Expr} {tgs : List Expr} {g : MT} {gs : List D → Sl → Store → R (Sl × Store)} (h1 : NG X E own tg g) (h2 : NGs X E own tgs gs)
    (hs : (assignEach (tg :: tgs) X.env).map (·.2) = assign tg X.env :: (assignEach tgs X.env).map (·.2) := by rfl) : NGs X E own (tg :: tgs) (gmCons g gs) := ⟨pgs_imp (pgs_cons h1.pg h2.pg hs) fun vs s H Q q => by
    obtain ⟨B, F, r, sl, C, ds, hr, hs, hd, o⟩ := q
    cases ds with
    | nil => exact False.elim o
    | cons d ds =>
      obtain ⟨v, w, rfl, k1, k2⟩ := hd
      refine ⟨v, w, rfl, B, F, r, sl, C, d, hr, hs, k1, ?_⟩
      refine Out.bind (P := fun F' r' sl' s' => Sls X.K F' r' sl' s' ∧ wipe s' own = wipe s own) o fun sl1 C1 F1 r1 H1 s1 e1 e2 hr1 hs1 o1 => ?_
      refine ⟨B, F1, r1, sl1, C1, ds, hr1, hs1.1, k2.mono e1 e2, ?_⟩
      cases o2 : gs ds sl1 C1 with
      | ok p =>
        simp only at o1
        rw [o2] at o1
        exact fun F' r' H' s' z1 z2 z3 z4 => o1 F' r' H' s' z1 z2 z3 ⟨z4.1, z4.2.trans hs1.2⟩
      | ex x Cx => simp only at o1; rw [o2] at o1; exact o1
      | no => simp only at o1; rw [o2] at o1; exact o1⟩
/-- (a, b, ..) = a tuple -/
def gmTup (n : Nat) (gs : List D → Sl → Store → R (Sl × Store)) : MT := fun d sl C => match tupOf d with
  | some ds => if ds.length = n then gs ds sl C else .no
  | none => .no
/-- x[i] = .. of a list's cell -/
def gSet (o i d : D) (C : Store) : R (Unit × Store) := match cellOf C o, intOf i with
  | some (k, xs), some j => match ixN xs.length j with
    | some n => .ok ((), C.set k (.lst (xs.set n d)))
    | none => .no
  | _, _ => .no
def gmSub (mo mi : ME) : MT := fun d sl C => (mo sl C).bind fun p => (mi sl p.2).bind fun q => (gSet p.1 q.1 d q.2).bind fun t => .ok (sl, t.2)
theorem ng_sub {own : List Nat} {o i : Expr} {mo mi : ME} (ho : NE X E o mo) (hi : NE X E i mi)
    (ha : ∀ v, assign (.Subscript o i pos) X.env v = (do
      let ov ← holding [v] (eval o X.env)
      let iv ← holding [v, ov] (eval i X.env)
      standAt pos
      holding [v, ov, iv] (setItem ov iv v)
      release [v, ov, iv] []) := by intro _; rfl) : NG X E own (.Subscript o i pos) (gmSub mo mi) := ⟨pg_imp (pg_sub ho.pe hi.pe set_list ha) fun v s H Q q => by
    obtain ⟨B, F, r, sl, C, d, hr, hs, hd, o⟩ := q
    refine ⟨B, F, r, sl, C, hr, hs, Out.bind (P := Rep X.K) o fun x C1 F1 r1 H1 w e1 e2 hr1 hx o1 => ?_⟩
    refine ⟨B, F1, r1, sl, C1, hr1, hs.mono e1 e2, Out.bind (P := Rep X.K) o1 fun y C2 F2 r2 H2 z e3 e4 hr2 hy o2 => ?_⟩
    have hx2 := hx.mono e3 e4
    have hd2 := (hd.mono e1 e2).mono e3 e4
    have hs2 := (hs.mono e1 e2).mono e3 e4
    simp only [gSet] at o2
    split at o2
    · rename_i k xs j ek ej
      obtain ⟨a, vs, rfl, h1, h2, h3, h4⟩ := cellOf_ok hr2 hx2 ek
      split at o2
      · rename_i n en
        refine ⟨a, vs, j, n, rfl, intOf_ok hy ej, h3, by rw [← h4.length]; exact en, ?_⟩
        exact o2 F2 r2 _ s (.refl _) (.refl _) (hr2.write h1 h2 ⟨h2, _, upd_same, Reps.set hd2 n h4⟩) ⟨hs2, rfl⟩
      · exact False.elim o2
    · exact False.elim o2⟩
/-! assignments -/
def sAsg (m : ME) (g : MT) : MS := fun sl C => (m sl C).bind fun p => (g p.1 sl p.2).bind fun q => .ok ((.nx, q.1), q.2)
theorem asg_ok {own : List Nat} {g : MT} : ∀ De s H, LS X.K X.mg E (sAsg m g) De s H → tAsg (LG (Rep X.K) X.K X.mg E m) (LT own X.K X.mg E g) De s H := fun De s H q => by
    obtain ⟨B, F, r, sl, C, hr, hs, o⟩ := q
    refine ⟨B, F, r, sl, C, hr, hs, OutS.bind (P := Rep X.K) o fun x C1 F1 r1 H1 v e1 e2 hr1 hx o1 => ?_⟩
    refine ⟨B, F1, r1, sl, C1, x, hr1, hs.mono e1 e2, hx, OutS.bind (P := fun F' r' sl' s' => Sls X.K F' r' sl' s' ∧ wipe s' own = wipe s own) o1 fun sl2 C2 F2 r2 H2 s2 e3 e4 hr2 hs2 o2 => ?_⟩
    exact OutS.next o2 hr2 hs2.1
theorem ns_asg {own : List Nat} {tg : Expr} {g : MT} (he : NE X E e m) (hg : NG X E own tg g) (hs : swapsWithSole [tg] e pos.line X.env = pure false := by rfl) (hw : swappedStores [tg] e X.env = pure none := by rfl)
    (h1 : (assignEach [tg] X.env).map (·.2) = [assign tg X.env] := by rfl) : NS X E (.Assign [tg] e pos) (sAsg m g) := ⟨ps_imp (ps_asg he.pe hg.pg hs hw h1) asg_ok⟩
theorem ns_set (i : Nat) {x : Str} (hN : X.N.Nodup) (hx : X.N[i]? = some x) (hl : Loc X.env.scope x) (he : NE X E e m) (hs : swapsWith e (some (.Name x p1)) pos.line X.env = pure false := by rfl)
    (hf : X.fn x = true ∨ X.env.scope.names.lookup x = some .local := by first | exact .inl rfl | exact .inr rfl) : NS X E (.Assign [.Name x p1] e pos) (sAsg m (gmN i)) :=
  ⟨ps_imp (ps_set hN hx hl he.pe hs hf) fun De s H q => by
    obtain ⟨B, F, r, sl, C, hr, hs, o⟩ := q
    refine ⟨B, F, r, sl, C, hr, hs, OutS.bind (P := Rep X.K) o fun x C1 F1 r1 H1 v e1 e2 hr1 hx o1 => ?_⟩
    exact OutS.next o1 hr1 ((hs.mono e1 e2).set hx i)⟩
def sPar (i j : Nat) (mas : MG (List D)) : MS := fun sl C => (mas sl C).bind fun p => match p.1 with
  | [x, y] => .ok ((.nx, (sl.set i (some x)).set j (some y)), p.2)
  | _ => .no
theorem ns_par (i j : Nat) {x y : Str} {px py pt pt2 : Pos} {kt k2 : Nat} {mas : MG (List D)} (hc : X.calm = true) (hN : X.N.Nodup) (hi : X.N[i]? = some x) (hj : X.N[j]? = some y) (hij : i ≠ j) (hx : X.env.scope.names.lookup x = some .local)
    (hy : X.env.scope.names.lookup y = some .local) (ha : NA X E [a, b] mas) (hw : swappedStores [.Tuple [.Name x px, .Name y py] kt pt] (.Tuple [a, b] k2 pt2) X.env = pure (some [x, y]))
    (hs : swapsWithSole [.Tuple [.Name x px, .Name y py] kt pt] (.Tuple [a, b] k2 pt2) pos.line X.env = pure false := by rfl) : NS X E (.Assign [.Tuple [.Name x px, .Name y py] kt pt] (.Tuple [a, b] k2 pt2) pos) (sPar i j mas) :=
  ⟨ps_imp (ps_par hc hN hi hj hij hx hy ha.pa hw hs) fun De s H q => by
    obtain ⟨B, F, r, sl, C, hr, hs, o⟩ := q
    refine ⟨B, F, r, sl, C, hr, hs, OutS.bind (P := Reps X.K) o fun ds C1 F1 r1 H1 vs e1 e2 hr1 hx o1 => ?_⟩
    simp only at o1
    split at o1
    · rename_i d1 d2
      obtain ⟨v, w, rfl, h1, v2, w2, rfl, h2, h3⟩ := hx
      cases (show w2 = [] from h3)
      exact ⟨v, v2, rfl, OutS.next o1 hr1 (((hs.mono e1 e2).set h1 i).set h2 j)⟩
    · exact False.elim o1⟩
/-- name op= e -/
def sAug (i : Nat) (g : D → D → Store → RE) (m : ME) : MS := fun sl C => match sl[i]? with
  | some (some x) => (m sl C).bind fun p => (g x p.1 p.2).bind fun q => .ok ((.nx, sl.set i (some q.1)), q.2)
  | _ => .no
theorem ns_aug (i : Nat) {x : Str} {op : Operator} {ti : TIp} {g : D → D → Store → RE} (hN : X.N.Nodup) (hx : X.N[i]? = some x) (hl : Loc X.env.scope x) (he : NE X E e m) (ho : PIp X op ti) (hg : OpN X.K X.mg E ti g)
    (hf : X.fn x = true ∨ X.env.scope.names.lookup x = some .local := by first | exact .inl rfl | exact .inr rfl) : NS X E (.AugAssign (.Name x p1) op e pos) (sAug i g m) :=
  ⟨ps_imp (ps_aug hN hx hl he.pe ho hf) fun De s H q => by
    obtain ⟨B, F, r, sl, C, hr, hs, o⟩ := q
    unfold sAug at o
    split at o
    · rename_i d ed
      obtain ⟨v, e1, e2⟩ := hs.2 i d ed
      refine ⟨v, e1, B, F, r, sl, C, hr, hs, OutS.bind (P := Rep X.K) o fun y C1 F1 r1 H1 w k1 k2 hr1 hy o1 => ?_⟩
      refine hg B F1 r1 H1 C1 d y v w _ hr1 (e2.mono k1 k2) hy (OutS.bind (P := Rep X.K) o1 fun z C2 F2 r2 H2 t k3 k4 hr2 hz o2 => ?_)
      exact OutS.next o2 hr2 (((hs.mono k1 k2).mono k3 k4).set hz i)
    · exact False.elim o⟩
end
end Nv

namespace Nv
open PySem PySem.Spec PyProof.Rows L2

/-! what is walked -/
abbrev Gd := List (Nat × List D)
/-- the things walked; live cells that must stay as they are -/
abbrev Wk := List D × Gd
def okG (g : Gd) (C : Store) : Prop := ∀ p ∈ g, C[p.1]? = some (Cell.lst p.2)
theorem okG_nil (C : Store) : okG [] C := fun p h => nomatch h
structure WalkN (K : PySem.W.Frag) (B : Hp) (J : It) (F : Hp) (r : List Addr) (k : Wk) : Prop where
  goes : ∀ (i : Nat) (F1 : Hp) (r1 : List Addr) (H : Hp) (C : Store), i < k.1.length → Same F F1 → Ex r r1 → Rel K B F1 r1 H C → okG k.2 C → J.go i H
  stops : ∀ (F1 : Hp) (r1 : List Addr) (H : Hp) (C : Store), Same F F1 → Ex r r1 → Rel K B F1 r1 H C → okG k.2 C → J.stop k.1.length H
  yields : ∀ (i : Nat) (d : D) (F1 : Hp) (r1 : List Addr) (H : Hp) (C : Store) (x : V) (H' : Hp), k.1[i]? = some d → Same F F1 → Ex r r1 → Rel K B F1 r1 H C → okG k.2 C → J.yld i H x H' →
    ∃ F2, Same F1 F2 ∧ Rel K B F2 r1 H' C ∧ Rep K F2 r1 d x
abbrev MI := Sl → Store → R (Wk × Store)
def LI (K : PySem.W.Frag) (mg : Str → Option Value) (E : XK) (m : MI) : TI := fun s H Q =>
  ∃ B F r sl C, Rel K B F r H C ∧ Sls K F r sl s ∧ Out (fun F' r' k J => ∀ B', WalkN K B' J F' r' k) K mg E B F r (m sl C) Q
structure NI (X : Cx) (E : XK) (tg it : Expr) (m : MI) : Prop where
  pi : PI X tg it (LI X.K X.mg E m)
theorem pi_imp {X : Cx} {tg it : Expr} {t t' : TI} (h : PI X tg it t) (hi : ∀ s H Q, t' s H Q → t s H Q) : PI X tg it t' := ⟨fun pins s σ H Q I q => h.run pins s σ H Q I (hi _ _ _ q)⟩
def StayL (K : PySem.W.Frag) (F : Hp) (r : List Addr) (a : Addr) (ds : List D) (g : Gd) : Prop :=
  ∀ (B F1 : Hp) (r1 : List Addr) (H : Hp) (C : Store), Same F F1 → Ex r r1 → Rel K B F1 r1 H C → okG g C → ∃ ws, SqL K H a ws ∧ Reps K F1 r1 ds ws
def StayT (K : PySem.W.Frag) (F : Hp) (r : List Addr) (a : Addr) (ds : List D) : Prop :=
  ∀ (B F1 : Hp) (r1 : List Addr) (H : Hp) (C : Store), Same F F1 → Ex r r1 → Rel K B F1 r1 H C → ∃ ws, SqT K H a ws ∧ Reps K F1 r1 ds ws
def pairs (xs ys : List D) : List D := List.zipWith (fun x y => D.tup [x, y]) xs ys
def enumD (k : Nat) : List D → List D
  | [] => []
  | x :: xs => .tup [.int k, x] :: enumD (k + 1) xs
theorem enumD_length : ∀ (xs : List D) (k : Nat), (enumD k xs).length = xs.length
  | [], _ => rfl
  | x :: xs, k => by simp [enumD, enumD_length xs (k + 1)]
theorem enumD_get : ∀ (xs : List D) (k i : Nat), (enumD k xs)[i]? = (xs[i]?).map fun x => D.tup [.int ((k + i : Nat) : Int), x]
  | [], _, _ => by simp [enumD]
  | x :: xs, k, 0 => by simp [enumD]
  | x :: xs, k, i + 1 => by
    simp only [enumD, List.getElem?_cons_succ, enumD_get xs (k + 1) i]
    rw [show k + 1 + i = k + (i + 1) by omega]
section
variable {K : PySem.W.Frag} {mg : Str → Option Value} {E : XK} {B F F1 : Hp} {r r1 : List Addr} {H : Hp} {C : Store} {De : Ends} {s : L2.St} {sl : Sl}
variable {X : Cx} {st : Stmt} {rest : List Stmt} {e a b c tg it : Expr} {m ma mb : ME} {mt : MG Bool} {u u1 u2 : MS} {pos p1 p2 tpos : Pos} {mas : MG (List D)} {elts : List Expr} {kk : Nat}
theorem walk_l {a : Addr} {ds : List D} {g : Gd} (h : StayL K F r a ds g) : WalkN K B (Itl K a) F r (ds, g) where
  goes := fun i F1 r1 H C hi e1 e2 hr hg => by
    obtain ⟨ws, h1, h2⟩ := h B F1 r1 H C e1 e2 hr hg
    have hi : i < ws.length := by rw [← h2.length]; exact hi
    exact ⟨ws, ws[i], h1, List.getElem?_eq_getElem hi⟩
  stops := fun F1 r1 H C e1 e2 hr hg => by
    obtain ⟨ws, h1, h2⟩ := h B F1 r1 H C e1 e2 hr hg
    exact ⟨ws, h1, Nat.le_of_eq h2.length.symm⟩
  yields := fun i d F1 r1 H C x H' ed e1 e2 hr hg y => by
    obtain ⟨ws, h1, h2⟩ := h B F1 r1 H C e1 e2 hr hg
    obtain ⟨rfl, y⟩ := y
    obtain ⟨v, h3, h4⟩ := h2.get ed
    have ex := y ws h1
    rw [h3] at ex
    cases ex
    exact ⟨F1, .refl _, hr, h4⟩
theorem walk_t {a : Addr} {ds : List D} (h : StayT K F r a ds) : WalkN K B (Itt K a) F r (ds, []) where
  goes := fun i F1 r1 H C hi e1 e2 hr hg => by
    obtain ⟨ws, h1, h2⟩ := h B F1 r1 H C e1 e2 hr
    have hi : i < ws.length := by rw [← h2.length]; exact hi
    exact ⟨ws, ws[i], h1, List.getElem?_eq_getElem hi⟩
  stops := fun F1 r1 H C e1 e2 hr hg => by
    obtain ⟨ws, h1, h2⟩ := h B F1 r1 H C e1 e2 hr
    exact ⟨ws, h1, Nat.le_of_eq h2.length.symm⟩
  yields := fun i d F1 r1 H C x H' ed e1 e2 hr hg y => by
    obtain ⟨ws, h1, h2⟩ := h B F1 r1 H C e1 e2 hr
    obtain ⟨rfl, y⟩ := y
    obtain ⟨v, h3, h4⟩ := h2.get ed
    have ex := y ws h1
    rw [h3] at ex
    cases ex
    exact ⟨F1, .refl _, hr, h4⟩
/-- a new pair -/
theorem pair_new {d1 d2 : D} {x y : V} {T : Addr} (hr : Rel K B F r H C) (h1 : Rep K F r d1 x) (h2 : Rep K F r d2 y) (hT : H T = none) :
    ∃ F2, Same F F2 ∧ Rel K B F2 r (upd H T (.tup [x, y])) C ∧ Rep K F2 r (.tup [d1, d2]) (.ref T) := by
  have hF := same_new (o := HO.tup [x, y]) (hr.freeF hT)
  exact ⟨upd F T (.tup [x, y]), hF, hr.freeze hT, T, [x, y], rfl, .inl (.inl upd_same), .cons (h1.mono hF (.refl _)) (.one (h2.mono hF (.refl _)))⟩
theorem walk_e {a : Addr} {ds : List D} {g : Gd} (h : StayL K F r a ds g) : WalkN K B (Ite K a) F r (enumD 0 ds, g) where
  goes := fun i F1 r1 H C hi e1 e2 hr hg => by
    obtain ⟨ws, h1, h2⟩ := h B F1 r1 H C e1 e2 hr hg
    have hi : i < (enumD 0 ds).length := hi
    have hi : i < ws.length := by rw [← h2.length, ← enumD_length ds 0]; exact hi
    exact ⟨ws, ws[i], h1, List.getElem?_eq_getElem hi⟩
  stops := fun F1 r1 H C e1 e2 hr hg => by
    obtain ⟨ws, h1, h2⟩ := h B F1 r1 H C e1 e2 hr hg
    exact ⟨ws, h1, by show ws.length ≤ (enumD 0 ds).length; rw [enumD_length, h2.length]; exact Nat.le_refl _⟩
  yields := fun i d F1 r1 H C x H' ed e1 e2 hr hg y => by
    obtain ⟨ws, h1, h2⟩ := h B F1 r1 H C e1 e2 hr hg
    have ed : (enumD 0 ds)[i]? = some d := ed
    rw [enumD_get] at ed
    obtain ⟨dz, ed', rfl⟩ := map_some ed
    obtain ⟨T, z, rfl, hT, rfl, y⟩ := y
    obtain ⟨v, h3, h4⟩ := h2.get ed'
    have ex := y ws h1
    rw [h3] at ex
    cases ex
    rw [Nat.zero_add]
    exact pair_new hr (d1 := .int (i : Nat)) rfl h4 hT
theorem walk_r {lo : Int} {n : Nat} : WalkN K B (Itr lo n) F r ((List.range n).map fun i => D.int (lo + (i : Nat)), []) where
  goes := fun i F1 r1 H C hi e1 e2 hr hg => by
    have hi : i < ((List.range n).map fun i => D.int (lo + (i : Nat))).length := hi
    rw [List.length_map, List.length_range] at hi
    exact hi
  stops := fun F1 r1 H C e1 e2 hr hg => by
    show n ≤ ((List.range n).map fun i => D.int (lo + (i : Nat))).length
    simp
  yields := fun i d F1 r1 H C x H' ed e1 e2 hr hg y => by
    obtain ⟨rfl, rfl⟩ := y
    have ed : ((List.range n).map fun i => D.int (lo + (i : Nat)))[i]? = some d := ed
    rw [List.getElem?_map] at ed
    obtain ⟨j, ej, rfl⟩ := map_some ed
    have : j = i := by
      obtain ⟨h1, h2⟩ := List.getElem?_eq_some_iff.mp ej
      rw [List.getElem_range] at h2
      exact h2.symm
    subst this
    exact ⟨F1, .refl _, hr, rfl⟩
/-! the walked expressions -/
/-- a list's things; which cell they lie in -/
def lstG (C : Store) : D → Option Wk
  | .lst ds => some (ds, [])
  | .cell k => match C[k]? with
    | some (.lst ds) => some (ds, [(k, ds)])
    | some (.fz ds) => some (ds, [])
    | _ => none
  | _ => none
theorem lstG_ok {x : D} {v : V} {k : Wk} (hr : Rel K B F r H C) (hx : Rep K F r x v) (e : lstG C x = some k) : ∃ a vs, v = .ref a ∧ SqL K H a vs ∧ StayL K F r a k.1 k.2 := by
  cases x with
  | lst ds =>
    cases e
    obtain ⟨a, vs, rfl, h2, h3⟩ := hx
    exact ⟨a, vs, rfl, Same.seq hr.froz h2, fun B F1 r1 H C e1 e2 hr1 _ => ⟨vs, Same.seq hr1.froz (Same.seq e1 h2), h3.mono e1 e2⟩⟩
  | cell i =>
    obtain ⟨a, rfl, h1⟩ := hx
    have e : (match C[i]? with
    | some (.lst ds) => some (ds, [(i, ds)])
    | some (.fz ds) => some (ds, [])
    | _ => none) = some k := e
    split at e
    · rename_i ds hc
      cases e
      obtain ⟨h2, vs, h3, h4⟩ := hr.cells i _ a hc h1
      refine ⟨a, vs, rfl, .inl (.inl h3), fun B1 F1 r1 H1 C1 k1 k2 hr1 hg => ?_⟩
      have hg : C1[i]? = some (.lst ds) := hg (i, ds) List.mem_cons_self
      obtain ⟨_, ws, h5, h6⟩ := hr1.cells i _ a hg (k2 _ _ h1)
      exact ⟨ws, .inl (.inl h5), h6⟩
    · rename_i ds hc
      cases e
      obtain ⟨vs, h3, h4⟩ := hr.cells i _ a hc h1
      exact ⟨a, vs, rfl, .inl (.inl (hr.froz _ _ h3)), fun B1 F1 r1 H1 C1 k1 k2 hr1 hg => ⟨vs, .inl (.inl (hr1.froz _ _ (k1 _ _ h3))), h4.mono k1 k2⟩⟩
    · cases e
  | _ => cases e
theorem tupOf_stay {x : D} {v : V} {ds : List D} (hr : Rel K B F r H C) (hx : Rep K F r x v) (e : tupOf x = some ds) : ∃ a vs, v = .ref a ∧ SqT K H a vs ∧ StayT K F r a ds := by
  cases x with
  | tup ds' =>
    cases e
    obtain ⟨a, vs, rfl, h2, h3⟩ := hx
    exact ⟨a, vs, rfl, Same.tup hr.froz h2, fun B F1 r1 H C e1 e2 hr1 => ⟨vs, Same.tup hr1.froz (Same.tup e1 h2), h3.mono e1 e2⟩⟩
  | _ => cases e
def iLst (m : ME) : MI := fun sl C => (m sl C).bind fun p => match lstG p.2 p.1 with
  | some k => .ok (k, p.2)
  | none => .no
theorem ni_list (he : NE X E e m) : NI X E tg e (iLst m) := ⟨pi_imp (pi_list he.pe) fun s H Q q => by
    obtain ⟨B, F, r, sl, C, hr, hs, o⟩ := q
    refine ⟨B, F, r, sl, C, hr, hs, Out.bind (P := Rep X.K) o fun x C1 F1 r1 H1 v e1 e2 hr1 hx o1 => ?_⟩
    simp only at o1
    split at o1
    · rename_i k ek
      obtain ⟨a, vs, rfl, h1, h2⟩ := lstG_ok hr1 hx ek
      exact ⟨a, rfl, ⟨vs, h1⟩, o1 F1 r1 H1 _ (.refl _) (.refl _) hr1 fun B' => walk_l h2⟩
    · exact False.elim o1⟩
def iTp (m : ME) : MI := fun sl C => (m sl C).bind fun p => match tupOf p.1 with
  | some ds => .ok ((ds, []), p.2)
  | none => .no
theorem ni_tup (he : NE X E e m) : NI X E tg e (iTp m) := ⟨pi_imp (pi_tup he.pe) fun s H Q q => by
    obtain ⟨B, F, r, sl, C, hr, hs, o⟩ := q
    refine ⟨B, F, r, sl, C, hr, hs, Out.bind (P := Rep X.K) o fun x C1 F1 r1 H1 v e1 e2 hr1 hx o1 => ?_⟩
    simp only at o1
    split at o1
    · rename_i ds ek
      obtain ⟨a, vs, rfl, h1, h2⟩ := tupOf_stay hr1 hx ek
      exact ⟨a, rfl, ⟨vs, h1⟩, o1 F1 r1 H1 _ (.refl _) (.refl _) hr1 fun B' => walk_t h2⟩
    · exact False.elim o1⟩
def rgD (a b : Int) : List D := (List.range (b - a).toNat).map fun i => D.int (a + (i : Nat))
def iRg1 (mas : MG (List D)) : MI := fun sl C => (mas sl C).bind fun p => match p.1 with
  | [.int j] => if lowI j = true then .ok ((rgD 0 j, []), p.2) else .no
  | _ => .no
theorem ni_range1 (hm : X.mg "range" = none) (ha : NA X E [a] mas) (hg : Gl X "range" := by rfl) (hs : starEach [a] X.env = [(false, eval a X.env)] := by rfl) : NI X E tg (.Call (.Name "range" p1) [a] [] pos) (iRg1 mas) :=
  ⟨pi_imp (pi_range1 hg hm ha.pa hs) fun s H Q q => by
    obtain ⟨B, F, r, sl, C, hr, hs, o⟩ := q
    refine ⟨B, F, r, sl, C, hr, hs, Out.bind (P := Reps X.K) o fun x C1 F1 r1 H1 v e1 e2 hr1 hx o1 => ?_⟩
    simp only at o1
    split at o1
    · rename_i j
      obtain ⟨v, w, rfl, h1, h2⟩ := hx
      cases (show w = [] from h2)
      split at o1
      · rename_i hl
        have hl := lowI_ok hl
        refine ⟨j, by rw [show v = V.int j from h1], by omega, by omega, ?_⟩
        refine o1 F1 r1 H1 _ (.refl _) (.refl _) hr1 fun B' => ?_
        unfold rgD
        rw [Int.sub_zero]
        exact walk_r
      · exact False.elim o1
    · exact False.elim o1⟩
def iRg2 (mas : MG (List D)) : MI := fun sl C => (mas sl C).bind fun p => match p.1 with
  | [.int i, .int j] => if (lowI i && lowI j) = true then .ok ((rgD i j, []), p.2) else .no
  | _ => .no
theorem ni_range2 (hm : X.mg "range" = none) (ha : NA X E [a, b] mas) (hg : Gl X "range" := by rfl) (hs : starEach [a, b] X.env = [(false, eval a X.env), (false, eval b X.env)] := by rfl) (hs2 : starEach [b] X.env = [(false, eval b X.env)] := by rfl) :
    NI X E tg (.Call (.Name "range" p1) [a, b] [] pos) (iRg2 mas) :=
  ⟨pi_imp (pi_range2 hg hm ha.pa hs hs2) fun s H Q q => by
    obtain ⟨B, F, r, sl, C, hr, hs, o⟩ := q
    refine ⟨B, F, r, sl, C, hr, hs, Out.bind (P := Reps X.K) o fun x C1 F1 r1 H1 v e1 e2 hr1 hx o1 => ?_⟩
    simp only at o1
    split at o1
    · rename_i i j
      obtain ⟨v, w, rfl, h1, v2, w2, rfl, h2, h3⟩ := hx
      cases (show w2 = [] from h3)
      split at o1
      · rename_i hl
        rw [Bool.and_eq_true] at hl
        have hl1 := lowI_ok hl.1
        have hl2 := lowI_ok hl.2
        refine ⟨i, j, by rw [show v = V.int i from h1, show v2 = V.int j from h2], by omega, ?_⟩
        exact o1 F1 r1 H1 _ (.refl _) (.refl _) hr1 fun B' => walk_r
      · exact False.elim o1
    · exact False.elim o1⟩
/-- down by ones: range(a, b, -1) -/
def rgDown (a b : Int) : List D := (List.range (a - b).toNat).map fun i => D.int (a + (i : Nat) * (-1))
def iRg3 (mas : MG (List D)) : MI := fun sl C => (mas sl C).bind fun p => match p.1 with
  | [.int i, .int j, .int k] => if (lowI i && lowI j) = true ∧ k = -1 then .ok ((rgDown i j, []), p.2) else .no
  | _ => .no
def iEn (mas : MG (List D)) : MI := fun sl C => (mas sl C).bind fun p => match p.1 with
  | [x] => match lstG p.2 x with
    | some k => .ok ((enumD 0 k.1, k.2), p.2)
    | none => .no
  | _ => .no
theorem ni_enum (hm : X.mg "enumerate" = none) (ha : NA X E [a] mas) (hg : Gl X "enumerate" := by rfl) (hs : starEach [a] X.env = [(false, eval a X.env)] := by rfl) : NI X E (.Tuple elts kk tpos) (.Call (.Name "enumerate" p1) [a] [] pos) (iEn mas) :=
  ⟨pi_imp (pi_enum hg hm ha.pa hs) fun s H Q q => by
    obtain ⟨B, F, r, sl, C, hr, hs, o⟩ := q
    refine ⟨B, F, r, sl, C, hr, hs, Out.bind (P := Reps X.K) o fun x C1 F1 r1 H1 v e1 e2 hr1 hx o1 => ?_⟩
    simp only at o1
    split at o1
    · rename_i d
      obtain ⟨v, w, rfl, h1, h2⟩ := hx
      cases (show w = [] from h2)
      split at o1
      · rename_i k ek
        obtain ⟨a, vs, rfl, h1, h2⟩ := lstG_ok hr1 h1 ek
        exact ⟨a, vs, rfl, h1, o1 F1 r1 H1 _ (.refl _) (.refl _) hr1 fun B' => walk_e h2⟩
      · exact False.elim o1
    · exact False.elim o1⟩
theorem StayL.more {a : Addr} {ds : List D} {g g' : Gd} (h : StayL K F r a ds g) (hg : ∀ p ∈ g, p ∈ g') : StayL K F r a ds g' := fun B F1 r1 H C e1 e2 hr ok => h B F1 r1 H C e1 e2 hr fun p hp => ok p (hg p hp)
def iZp (mas : MG (List D)) : MI := fun sl C => (mas sl C).bind fun p => match p.1 with
  | [x, y] => match lstG p.2 x, lstG p.2 y with
    | some k, some l => .ok ((pairs k.1 l.1, k.2 ++ l.2), p.2)
    | _, _ => match tupOf x, tupOf y with
      | some k, some l => .ok ((pairs k l, []), p.2)
      | _, _ => .no
  | _ => .no
end
end Nv

namespace Nv
open PySem PySem.Spec PyProof.Rows L2
open Classical in
/-- a for: the turns that are left -/
noncomputable def forM (g : MT) (u : MS) (gd : Gd) : List D → MS
  | [] => fun sl C => if okG gd C then .ok ((.nx, sl), C) else .no
  | d :: ds => fun sl C => if okG gd C then (g d sl C).bind fun q => (u q.1 q.2).bind fun p => match p.1.1 with
      | .nx => forM g u gd ds p.1.2 p.2
      | .ct => forM g u gd ds p.1.2 p.2
      | .bk => .ok ((.nx, p.1.2), p.2)
      | .rt d => .ok ((.rt d, p.1.2), p.2)
    else .no
noncomputable def sFor (mi : MI) (g : MT) (u : MS) : MS := fun sl C => (mi sl C).bind fun p => forM g u p.1.2 p.1.1 sl p.2
/-- a while: at most so many turns -/
def whileM (t : MG Bool) (u : MS) : Nat → MS
  | 0 => fun _ _ => .no
  | n + 1 => fun sl C => (t sl C).bind fun b => if b.1 = true then (u sl b.2).bind fun p => match p.1.1 with
      | .nx => whileM t u n p.1.2 p.2
      | .ct => whileM t u n p.1.2 p.2
      | .bk => .ok ((.nx, p.1.2), p.2)
      | .rt d => .ok ((.rt d, p.1.2), p.2)
    else .ok ((.nx, sl), b.2)
/-- what is raised is not allowed here -/
def R.calm {S : Type} : R S → R S
  | .ok a => .ok a
  | _ => .no
def wipeS (sl : Sl) : List Nat → Sl
  | [] => sl
  | v :: vs => (wipeS sl vs).set v none
open Classical in
/-- a list comprehension: the things that are left -/
noncomputable def lcM (g : MT) (t : MG Bool) (m : ME) (gd : Gd) (sl : Sl) : List D → Store → R (List D × Store)
  | [], C => if okG gd C then .ok ([], C) else .no
  | d :: ds, C => if okG gd C then (g d sl C).bind fun q => (t q.1 q.2).bind fun b => if b.1 = true then (m q.1 b.2).bind fun e => (lcM g t m gd sl ds e.2).bind fun z => .ok (e.1 :: z.1, z.2)
      else lcM g t m gd sl ds b.2
    else .no
noncomputable def mLc (c : Bool) (own : List Nat) (mi : MI) (g : MT) (t : MG Bool) (m : ME) : ME := fun sl C => (mi sl C).bind fun p => if p.1.1.length ≤ sizeLine then
  (R.calm (lcM g t m p.1.2 (wipeS sl own) p.1.1 p.2)).bind fun z => newL c z.1 z.2 else .no
def tTrue : MG Bool := fun _ C => .ok (true, C)
section
variable {K : PySem.W.Frag} {mg : Str → Option Value} {E : XK} {B F F1 : Hp} {r r1 : List Addr} {H : Hp} {C : Store} {De : Ends} {s : L2.St} {sl : Sl}
variable {X : Cx} {st : Stmt} {rest : List Stmt} {e a b c tg it : Expr} {m ma mb : ME} {mt : MG Bool} {u u1 u2 : MS} {pos p1 p2 tpos : Pos} {mas : MG (List D)} {elts : List Expr} {kk : Nat}
theorem ns_for {own : List Nat} {body : List Stmt} {mi : MI} {g : MT} (hp : PassesOwn (model X.prog X.w) X.A X.env X.xe) (hc : X.calm = true) (hi : NI X E tg it mi) (hg : NG X E own tg g) (hb : NSs X E body u)
    (hs : ∀ x, foldedSetIterable it X.env x = pure x := by intro _; rfl) : NS X E (.For tg it body [] pos) (sFor mi g u) := ⟨ps_imp (ps_for hp hc hi.pi hg.pg hb.ps hs) fun De s H q => by
    obtain ⟨B, F, r, sl, C, hr, hs, o⟩ := q
    refine ⟨B, F, r, sl, C, hr, hs, OutS.bind (P := fun F' r' k J => ∀ B', WalkN X.K B' J F' r' k) o fun k C1 F1 r1 H1 J e1 e2 hr1 hJ o1 => ?_⟩
    obtain ⟨ds, gd⟩ := k
    have hJ := hJ B
    simp only at o1
    refine ⟨fun i n s2 H2 => n = ds.length - i ∧ i ≤ ds.length ∧ ∃ F2 r2 sl2 C2, Same F1 F2 ∧ Ex r1 r2 ∧ Rel X.K B F2 r2 H2 C2 ∧ Sls X.K F2 r2 sl2 s2 ∧ OutS X.K X.mg E B F2 r2 (forM g u gd (ds.drop i) sl2 C2) De,
      ⟨ds.length, by simp, Nat.zero_le _, F1, r1, sl, C1, .refl _, .refl _, hr1, hs.mono e1 e2, o1⟩, ?_⟩
    rintro i n s2 H2 ⟨rfl, hi, F2, r2, sl2, C2, e3, e4, hr2, hs2, o2⟩
    by_cases hl : i < ds.length
    · have ed : ds[i]? = some ds[i] := List.getElem?_eq_getElem hl
      rw [List.drop_eq_getElem_cons hl] at o2
      unfold forM at o2
      split at o2
      · rename_i hok
        refine .inr ⟨hJ.goes i F2 r2 H2 C2 hl e3 e4 hr2 hok, fun s3 H3 => ∃ F2 r2 sl2 C2, Same F1 F2 ∧ Ex r1 r2 ∧ Rel X.K B F2 r2 H3 C2 ∧ Sls X.K F2 r2 sl2 s3 ∧ OutS X.K X.mg E B F2 r2 (forM g u gd (ds.drop (i + 1)) sl2 C2) De,
          fun s3 H3 h => ⟨ds.length - (i + 1), by omega, rfl, hl, h⟩, fun x H3 y => ?_⟩
        obtain ⟨F3, e5, hr3, hx⟩ := hJ.yields i _ F2 r2 H2 C2 x H3 ed e3 e4 hr2 hok y
        refine ⟨B, F3, r2, sl2, C2, ds[i], hr3, hs2.mono e5 (.refl _), hx, OutS.bind (P := fun F' r' sl' s' => Sls X.K F' r' sl' s' ∧ wipe s' own = wipe s2 own) (o2.mono e5 (.refl _)) fun sl4 C4 F4 r4 H4 s4 e6 e7 hr4 hs4 o4 => ?_⟩
        refine ⟨B, F4, r4, sl4, C4, hr4, hs4.1, ?_⟩
        simp only at o4
        cases hu : u sl4 C4 with
        | ok p =>
          obtain ⟨⟨f, sl5⟩, C5⟩ := p
          rw [hu, R.bind_ok] at o4
          intro F5 r5 H5 k1 k2 k3
          have t1 : Same F1 F5 := ((e3.trans e5).trans e6).trans k1
          have t2 : Ex r1 r5 := (e4.trans e7).trans k2
          cases f with
          | nx => exact fun s5 hs5 => ⟨F5, r5, sl5, C5, t1, t2, k3, hs5, OutS.mono o4 k1 k2⟩
          | ct => exact fun s5 hs5 => ⟨F5, r5, sl5, C5, t1, t2, k3, hs5, OutS.mono o4 k1 k2⟩
          | bk => exact fun s5 hs5 => o4 F5 r5 H5 k1 k2 k3 s5 hs5
          | rt d => exact fun v hv => o4 F5 r5 H5 k1 k2 k3 v hv
        | ex y Cy => rw [hu] at o4; exact o4
        | no => rw [hu] at o4; exact o4
      · exact False.elim o2
    · have ei : i = ds.length := by omega
      subst ei
      rw [List.drop_length] at o2
      unfold forM at o2
      split at o2
      · rename_i hok
        exact .inl ⟨hJ.stops F2 r2 H2 C2 e3 e4 hr2 hok, OutS.next o2 hr2 hs2⟩
      · exact False.elim o2⟩
theorem ns_while {body : List Stmt} (N : Nat) (hp : PassesOwn (model X.prog X.w) X.A X.env X.xe) (hc : NT X E c mt) (hb : NSs X E body u) : NS X E (.While c body [] pos) (whileM mt u N) := ⟨ps_imp (ps_while hp hc.pt hb.ps) fun De s H q => by
    obtain ⟨B, F, r, sl, C, hr, hs, o⟩ := q
    refine ⟨fun n s2 H2 => ∃ F2 r2 sl2 C2, Rel X.K B F2 r2 H2 C2 ∧ Sls X.K F2 r2 sl2 s2 ∧ OutS X.K X.mg E B F2 r2 (whileM mt u n sl2 C2) De, ⟨N, F, r, sl, C, hr, hs, o⟩, ?_⟩
    rintro n s2 H2 ⟨F2, r2, sl2, C2, hr2, hs2, o2⟩
    cases n with
    | zero => exact False.elim o2
    | succ n =>
      unfold whileM at o2
      refine ⟨B, F2, r2, sl2, C2, hr2, hs2, OutS.bind (P := PB) o2 fun x C1 F1 r1 H1 v e1 e2 hr1 hx o1 => ?_⟩
      subst hx
      cases x with
      | false =>
        rw [if_neg Bool.false_ne_true] at o1 ⊢
        exact OutS.next o1 hr1 (hs2.mono e1 e2)
      | true =>
        rw [if_pos rfl] at o1 ⊢
        refine ⟨fun s3 H3 => ∃ F2 r2 sl2 C2, Rel X.K B F2 r2 H3 C2 ∧ Sls X.K F2 r2 sl2 s3 ∧ OutS X.K X.mg E B F2 r2 (whileM mt u n sl2 C2) De, fun s3 H3 h => ⟨n, Nat.lt_succ_self n, h⟩, B, F1, r1, sl2, C1, hr1, hs2.mono e1 e2, ?_⟩
        simp only at o1
        cases hu : u sl2 C1 with
        | ok p =>
          obtain ⟨⟨f, sl5⟩, C5⟩ := p
          rw [hu, R.bind_ok] at o1
          intro F5 r5 H5 k1 k2 k3
          cases f with
          | nx => exact fun s5 hs5 => ⟨F5, r5, sl5, C5, k3, hs5, OutS.mono o1 k1 k2⟩
          | ct => exact fun s5 hs5 => ⟨F5, r5, sl5, C5, k3, hs5, OutS.mono o1 k1 k2⟩
          | bk => exact fun s5 hs5 => o1 F5 r5 H5 k1 k2 k3 s5 hs5
          | rt d => exact fun v hv => o1 F5 r5 H5 k1 k2 k3 v hv
        | ex y Cy => rw [hu] at o1; exact o1
        | no => rw [hu] at o1; exact o1⟩

/-! list comprehensions -/
abbrev EN : XK := fun _ _ _ => False
theorem Sls.wipe (hs : Sls K F r sl s) : ∀ own : List Nat, Sls K F r (wipeS sl own) (L2.wipe s own)
  | [] => hs
  | v :: vs => by
    have ih := Sls.wipe hs vs
    unfold wipeS L2.wipe
    refine ⟨by simp [ih.1], fun j d e => ?_⟩
    by_cases hj : v = j
    · subst hj
      by_cases hi : v < (wipeS sl vs).length
      · rw [List.getElem?_set_self hi] at e; cases e
      · rw [List.getElem?_eq_none (by simpa using hi)] at e; cases e
    · rw [List.getElem?_set_ne hj] at e ⊢
      exact ih.2 j d e
/-- the tests of a comprehension -/
structure NTs (X : Cx) (ifs : List Expr) (m : MG Bool) : Prop where
  pt : PTs X ifs (LG PB X.K X.mg EN m)
theorem pts_imp {X : Cx} {e : List Expr} {t t' : TT} (h : PTs X e t) (hi : ∀ s H Q, t' s H Q → t s H Q) : PTs X e t' := ⟨fun pins s σ H Q I q => h.run pins s σ H Q I (hi _ _ _ q)⟩
theorem nts_nil : NTs X [] tTrue := ⟨pts_imp pts_nil fun s H Q q => by
    obtain ⟨B, F, r, sl, C, hr, hs, o⟩ := q
    exact o F r H true (.refl _) (.refl _) hr rfl⟩
theorem nts_one (h : NT X EN c mt) : NTs X [c] mt := ⟨pts_one h.pt⟩
theorem bind_okR {S T : Type} {o : R S} {k : S → R T} {x : T} (h : o.bind k = .ok x) : ∃ a, o = .ok a ∧ k a = .ok x := by
  cases o with
  | ok a => exact ⟨a, rfl, h⟩
  | ex y C => cases h
  | no => cases h
theorem out_of {S T : Type} {P : PR S T} {o : R (S × Store)} {a : S} {C1 : Store} {Q : T → Hp → Prop} (h : o = .ok (a, C1)) (hq : ∀ (F' : Hp) (r' : List Addr) (H' : Hp) (b : T), Same F F' → Ex r r' → Rel K B F' r' H' C1 → P F' r' a b → Q b H') : Out P K mg E B F r o Q := by
  subst h
  exact hq
theorem lc_ok {cb : Bool} {own : List Nat} {mi : MI} {g : MT} {t : MG Bool} {m : ME} : ∀ s H Q, LG (Rep K) K mg E (mLc cb own mi g t m) s H Q → tLc (LI K mg E mi) (LT own K mg EN g) (LG PB K mg EN t) (LG (Rep K) K mg EN m) own s H Q := fun s H Q q => by
    obtain ⟨B, F, r, sl, C, hr, hs, o⟩ := q
    refine ⟨B, F, r, sl, C, hr, hs, Out.bind (P := fun F' r' k J => ∀ B', WalkN K B' J F' r' k) o fun k C1 F1 r1 H1 J e1 e2 hr1 hJ o1 => ?_⟩
    obtain ⟨ds, gd⟩ := k
    intro p hp
    simp only at o1
    split at o1
    case isFalse => exact False.elim o1
    rename_i hz
    obtain ⟨⟨out, Cn⟩, hlc, o1⟩ : ∃ z, lcM g t m gd (wipeS sl own) ds C1 = .ok z ∧ Out (Rep K) K mg E B F1 r1 (newL cb z.1 z.2) Q := by
      cases hl : lcM g t m gd (wipeS sl own) ds C1 with
      | ok z => rw [hl] at o1; exact ⟨z, rfl, o1⟩
      | ex y Cy => rw [hl] at o1; exact False.elim o1
      | no => rw [hl] at o1; exact False.elim o1
    have hs1 := hs.mono e1 e2
    refine ⟨fun i n H2 => n = ds.length - i ∧ i ≤ ds.length ∧ ∃ F2 r2 C2 acc vs out2, Same F1 F2 ∧ Ex r1 r2 ∧ Rel K (upd B p (.lst vs)) F2 r2 H2 C2 ∧ Reps K F2 r2 acc vs ∧ acc.length ≤ i ∧ out = acc ++ out2 ∧ lcM g t m gd (wipeS sl own) (ds.drop i) C2 = .ok (out2, Cn),
      ⟨ds.length, by simp, Nat.zero_le _, F1, r1, C1, [], [], out, .refl _, .refl _, hr1.aside hp, .nil, Nat.zero_le _, rfl, hlc⟩, ?_⟩
    rintro i n H2 ⟨rfl, hi, F2, r2, C2, acc, vs, out2, e3, e4, hr2, hacc, hal, ho, h2⟩
    have hJ := hJ (upd B p (.lst vs))
    by_cases hl : i < ds.length
    · have ed : ds[i]? = some ds[i] := List.getElem?_eq_getElem hl
      rw [List.drop_eq_getElem_cons hl] at h2
      unfold lcM at h2
      split at h2
      case isFalse => cases h2
      rename_i hok
      obtain ⟨⟨sl4, C4⟩, hg, h2⟩ := bind_okR h2
      obtain ⟨⟨bt, C5⟩, ht, h2⟩ := bind_okR h2
      refine .inr ⟨hJ.goes i F2 r2 H2 C2 hl e3 e4 hr2 hok, fun H3 => ∃ F2 r2 C2 acc vs out2, Same F1 F2 ∧ Ex r1 r2 ∧ Rel K (upd B p (.lst vs)) F2 r2 H3 C2 ∧ Reps K F2 r2 acc vs ∧ acc.length ≤ i + 1 ∧ out = acc ++ out2 ∧ lcM g t m gd (wipeS sl own) (ds.drop (i + 1)) C2 = .ok (out2, Cn),
        fun H3 h => ⟨ds.length - (i + 1), by omega, rfl, hl, h⟩, fun x H3 y => ?_⟩
      obtain ⟨F3, e5, hr3, hx⟩ := hJ.yields i _ F2 r2 H2 C2 x H3 ed e3 e4 hr2 hok y
      have hs3 : Sls K F3 r2 (wipeS sl own) (wipe s own) := Sls.wipe (hs1.mono (e3.trans e5) e4) own
      refine ⟨upd B p (.lst vs), F3, r2, wipeS sl own, C2, ds[i], hr3, hs3, hx, out_of hg fun F4 r4 H4 s4 e6 e7 hr4 hs4 => ?_⟩
      have ww : ∀ own : List Nat, wipe (wipe s own) own = wipe s own := fun own => by
        have key : ∀ (l : List Nat) (x : Nat) (z : L2.St), z[x]? = some none ∨ z.length ≤ x → (wipe z l)[x]? = some none ∨ (wipe z l).length ≤ x := by
          intro l
          induction l with
          | nil => intro x z h; exact h
          | cons v vs ih =>
            intro x z h
            unfold wipe
            by_cases hv : v = x
            · subst hv
              by_cases hv2 : v < (wipe z vs).length
              · exact .inl (List.getElem?_set_self hv2)
              · exact .inr (by simpa using hv2)
            · rw [List.getElem?_set_ne hv, List.length_set]
              exact ih x z h
        have fix : ∀ (l : List Nat) (z : L2.St), (∀ x ∈ l, z[x]? = some none ∨ z.length ≤ x) → wipe z l = z := by
          intro l
          induction l with
          | nil => intro z _; rfl
          | cons v vs ih =>
            intro z h
            unfold wipe
            rw [ih z fun x hx => h x (List.mem_cons_of_mem _ hx)]
            rcases h v List.mem_cons_self with e | e
            · apply List.ext_getElem?
              intro j
              by_cases hj : v = j
              · subst hj
                rw [List.getElem?_set_self (List.getElem?_eq_some_iff.mp e).1, e]
              · rw [List.getElem?_set_ne hj]
            · rw [List.set_eq_of_length_le e]
        have done : ∀ (l : List Nat) (z : L2.St), ∀ x ∈ l, (wipe z l)[x]? = some none ∨ (wipe z l).length ≤ x := by
          intro l
          induction l with
          | nil => intro z x hx; cases hx
          | cons v vs ih =>
            intro z x hx
            unfold wipe
            by_cases hv : v = x
            · subst hv
              by_cases hv2 : v < (wipe z vs).length
              · exact .inl (List.getElem?_set_self hv2)
              · exact .inr (by simpa using hv2)
            · rw [List.getElem?_set_ne hv, List.length_set]
              exact ih z x ((List.mem_cons.mp hx).resolve_left (Ne.symm hv))
        exact fix own _ (done own s)
      refine ⟨hs4.2.trans (ww own), upd B p (.lst vs), F4, r4, sl4, C4, hr4, hs4.1, out_of ht fun F5 r5 H5 b e8 e9 hr5 hb => ?_⟩
      subst hb
      cases bt with
      | false =>
        rw [if_neg Bool.false_ne_true] at h2 ⊢
        exact ⟨F5, r5, C5, acc, vs, out2, ((e3.trans e5).trans e6).trans e8, (e4.trans e7).trans e9, hr5, hacc.mono ((e5.trans e6).trans e8) (e7.trans e9), by omega, ho, h2⟩
      | true =>
        rw [if_pos rfl] at h2 ⊢
        obtain ⟨⟨ed, C6⟩, hm, h2⟩ := bind_okR h2
        obtain ⟨⟨out3, C7⟩, h3, h2⟩ := bind_okR h2
        cases h2
        refine ⟨upd B p (.lst vs), F5, r5, sl4, C5, hr5, hs4.1.mono e8 e9, out_of hm fun F6 r6 H6 v k1 k2 hr6 hv => ?_⟩
        have hacc6 := hacc.mono (((e5.trans e6).trans e8).trans k1) ((e7.trans e9).trans k2)
        refine ⟨vs, hr6.base p _ upd_same, ?_, F6, r6, C6, acc ++ [ed], vs ++ [v], out3, (((e3.trans e5).trans e6).trans e8).trans k1, ((e4.trans e7).trans e9).trans k2, ?_, hacc6.append (.one hv), by simp; omega, by rw [ho]; simp, h3⟩
        · rw [← hacc.length]
          omega
        · exact hr6.asideSet
    · have ei : i = ds.length := by omega
      subst ei
      rw [List.drop_length] at h2
      unfold lcM at h2
      split at h2
      case isFalse => cases h2
      rename_i hok
      cases h2
      refine .inl ⟨hJ.stops F2 r2 H2 _ e3 e4 hr2 hok, ?_⟩
      rw [List.append_nil] at ho
      subst ho
      have hB : B p = none := Same.free hr1.base hp
      unfold newL at o1
      cases cb with
      | true =>
        rw [if_pos rfl] at o1
        refine o1 F2 (r2 ++ [p]) H2 _ e3 (e4.trans (Ex.app r2 _)) (hr2.asideCell hB ⟨hr2.apart p _ upd_same, vs, hr2.base p _ upd_same, hacc.mono (.refl _) (Ex.app r2 _)⟩) ⟨p, rfl, ?_⟩
        rw [← hr2.len, List.getElem?_append_right (Nat.le_refl _)]
        simp
      | false =>
        rw [if_neg Bool.false_ne_true] at o1
        obtain ⟨k1, k2⟩ := hr2.asideFreeze hB
        exact o1 (upd F2 p (.lst vs)) r2 H2 _ (e3.trans k2) e4 k1 ⟨p, vs, rfl, .inl (.inl upd_same), hacc.mono k2 (.refl _)⟩
theorem ne_lc {cb : Bool} {elt : Expr} {ifs : List Expr} {scope : Scope} (own : List (Str × Nat)) {mi : MI} {g : MT} {t : MG Bool} {m : ME} (hc : X.calm = true) (hN : X.N.Nodup) (hi : NI X E tg it mi) (ok : BlkOk X.N X.env.scope scope own)
    (hg : ∀ (s : Shared) (H : Hp) (C : Addr) (cl : List (Str × Addr)) (fp : List Addr), NG (X.blk s H scope (compEnvC scope cl C X.env) fp) EN (own.map (·.2)) tg g)
    (ht : ∀ (s : Shared) (H : Hp) (C : Addr) (cl : List (Str × Addr)) (fp : List Addr), NTs (X.blk s H scope (compEnvC scope cl C X.env) fp) ifs t)
    (he : ∀ (s : Shared) (H : Hp) (C : Addr) (cl : List (Str × Addr)) (fp : List Addr), NE (X.blk s H scope (compEnvC scope cl C X.env) fp) EN elt m)
    (hs : ∀ x, foldedSetIterable it X.env x = pure x := by intro _; rfl) : NE X E (.ListComp elt [⟨tg, it, ifs, 0⟩] scope pos) (mLc cb (own.map (·.2)) mi g t m) :=
  ⟨pe_imp (pe_lc (own := own) hc hN hi.pi ok (fun s H C cl fp => (hg s H C cl fp).pg) (fun s H C cl fp => (ht s H C cl fp).pt) (fun s H C cl fp => (he s H C cl fp).pe) hs) lc_ok⟩
theorem ns_setLc {cb : Bool} (i : Nat) {y : Str} {py spos : Pos} {elt : Expr} {ifs : List Expr} {scope : Scope} (own : List (Str × Nat)) {mi : MI} {g : MT} {t : MG Bool} {m : ME} (hc : X.calm = true) (hN : X.N.Nodup) (hy : X.N[i]? = some y) (hyl : X.env.scope.names.lookup y = some .local)
    (hsw : swapsWith (.ListComp elt [⟨tg, it, ifs, 0⟩] scope pos) (some (.Name y py)) spos.line X.env = pure true) (hi : NI X E tg it mi) (ok : BlkOk X.N X.env.scope scope own)
    (hg : ∀ (s : Shared) (H : Hp) (C : Addr) (cl : List (Str × Addr)) (fp : List Addr), NG (X.blk s H scope (compEnvC scope cl C X.env) fp) EN (own.map (·.2)) tg g)
    (ht : ∀ (s : Shared) (H : Hp) (C : Addr) (cl : List (Str × Addr)) (fp : List Addr), NTs (X.blk s H scope (compEnvC scope cl C X.env) fp) ifs t)
    (he : ∀ (s : Shared) (H : Hp) (C : Addr) (cl : List (Str × Addr)) (fp : List Addr), NE (X.blk s H scope (compEnvC scope cl C X.env) fp) EN elt m)
    (hs : ∀ x, foldedSetIterable it X.env x = pure x := by intro _; rfl) : NS X E (.Assign [.Name y py] (.ListComp elt [⟨tg, it, ifs, 0⟩] scope pos) spos) (sAsg (mLc cb (own.map (·.2)) mi g t m) (gmN i)) :=
  ⟨ps_imp (ps_setLc (own := own) hc hN hy hyl hsw hi.pi ok (fun s H C cl fp => (hg s H C cl fp).pg) (fun s H C cl fp => (ht s H C cl fp).pt) (fun s H C cl fp => (he s H C cl fp).pe) hs) fun De s H q => by
    obtain ⟨B, F, r, sl, C, hr, hs, o⟩ := q
    refine lc_ok (cb := cb) s H _ ⟨B, F, r, sl, C, hr, hs, OutS.bind (P := Rep X.K) o fun x C1 F1 r1 H1 v e1 e2 hr1 hx o1 => ?_⟩
    exact OutS.next o1 hr1 ((hs.mono e1 e2).set hx i)⟩
end
end Nv

namespace Nv
open PySem PySem.Spec PyProof.Rows L2
mutual
/-- all cells that it names are among the first n -/
def closedD (n : Nat) : D → Bool
  | .non => true
  | .bl _ => true
  | .int _ => true
  | .str _ => true
  | .lst ds => closedDs n ds
  | .tup ds => closedDs n ds
  | .cell i => decide (i < n)
  | .edct => true
  | .fn _ => true
  | .exc _ _ ds => closedDs n ds
def closedDs (n : Nat) : List D → Bool
  | [] => true
  | d :: ds => closedD n d && closedDs n ds
end
def closedC (n : Nat) : Cell → Bool
  | .lst ds => closedDs n ds
  | .dk kvs => closedDs n (kvs.map (·.2))
  | .dt kvs => closedDs n (kvs.map (·.2))
  | .fz ds => closedDs n ds
  | .dn kvs => closedDs n (kvs.map (·.2))
  | .obj _ fs => closedDs n (fs.map (·.2))
  | .lk kvs => closedDs n (kvs.map (·.2))
mutual
theorem keyN_closed : ∀ (d : D) {k : NestedKey}, keyN d = some k → closedD 0 d = true
  | .non, _, _ => rfl
  | .bl _, _, _ => rfl
  | .int _, _, _ => rfl
  | .tup ds, k, e => by
    have e : (keysN ds).map NestedKey.tup = some k := e
    cases h : keysN ds with
    | none => rw [h] at e; cases e
    | some ks => exact keysN_closed ds h
  | .str _, _, e => nomatch e
  | .lst _, _, e => nomatch e
  | .cell _, _, e => nomatch e
  | .edct, _, e => nomatch e
  | .fn _, _, e => nomatch e
  | .exc _ _ _, _, e => nomatch e
theorem keysN_closed : ∀ (ds : List D) {ks : List NestedKey}, keysN ds = some ks → closedDs 0 ds = true
  | [], _, _ => rfl
  | d :: ds, ks, e => by
    have e : (keyN d).bind (fun k => (keysN ds).map (k :: ·)) = some ks := e
    cases h : keyN d with
    | none => rw [h] at e; cases e
    | some k =>
      rw [h, Option.bind_some] at e
      cases g : keysN ds with
      | none => rw [g] at e; cases e
      | some ks' =>
        show (closedD 0 d && closedDs 0 ds) = true
        rw [keyN_closed d h, keysN_closed ds g]
        rfl
end
mutual
theorem closed_up {n m : Nat} (h : n ≤ m) : ∀ d : D, closedD n d = true → closedD m d = true
  | .non, _ => rfl
  | .bl _, _ => rfl
  | .int _, _ => rfl
  | .str _, _ => rfl
  | .lst ds, c => closeds_up h ds c
  | .tup ds, c => closeds_up h ds c
  | .cell i, c => decide_eq_true (Nat.lt_of_lt_of_le (of_decide_eq_true c) h)
  | .edct, _ => rfl
  | .fn _, _ => rfl
  | .exc _ _ ds, c => closeds_up h ds c
theorem closeds_up {n m : Nat} (h : n ≤ m) : ∀ ds : List D, closedDs n ds = true → closedDs m ds = true
  | [], _ => rfl
  | d :: ds, c => by
    have c : (closedD n d && closedDs n ds) = true := c
    rw [Bool.and_eq_true] at c
    show (closedD m d && closedDs m ds) = true
    rw [closed_up h d c.1, closeds_up h ds c.2]
    rfl
end
section
variable {K : PySem.W.Frag} {mg : Str → Option Value} {E : XK} {B F F' : Hp} {r r' : List Addr} {H : Hp} {C : Store}
mutual
theorem Rep.closed : ∀ {d : D} {v : V}, Rep K F r d v → closedD r.length d = true
  | .non, _, _ => rfl
  | .bl _, _, _ => rfl
  | .int _, _, _ => rfl
  | .str _, _, _ => rfl
  | .lst ds, _, h => by
    obtain ⟨a, vs, _, _, q⟩ := h
    exact Reps.closed q
  | .tup ds, _, h => by
    obtain ⟨a, vs, _, _, q⟩ := h
    exact Reps.closed q
  | .cell i, _, h => by
    obtain ⟨a, _, q⟩ := h
    exact decide_eq_true (List.getElem?_eq_some_iff.mp q).1
  | .edct, _, _ => rfl
  | .fn _, _, _ => rfl
  | .exc _ _ ds, _, h => by
    obtain ⟨a, C, us, _, _, _, q⟩ := h
    exact Reps.closed q
theorem Reps.closed : ∀ {ds : List D} {vs : List V}, Reps K F r ds vs → closedDs r.length ds = true
  | [], _, _ => rfl
  | d :: ds, _, h => by
    obtain ⟨v, w, _, h1, h2⟩ := h
    unfold closedDs
    rw [Rep.closed h1, Reps.closed h2]
    rfl
end
mutual
theorem Rep.cut {n : Nat} (hr : ∀ (i : Nat) (a : Addr), i < n → r[i]? = some a → r'[i]? = some a) : ∀ {d : D} {v : V}, closedD n d = true → Rep K F r d v → Rep K F r' d v
  | .non, _, _, h => h
  | .bl _, _, _, h => h
  | .int _, _, _, h => h
  | .str _, _, _, h => h
  | .lst ds, _, c, h => by
    obtain ⟨a, vs, e, s, q⟩ := h
    exact ⟨a, vs, e, s, Reps.cut hr c q⟩
  | .tup ds, _, c, h => by
    obtain ⟨a, vs, e, s, q⟩ := h
    exact ⟨a, vs, e, s, Reps.cut hr c q⟩
  | .cell i, _, c, h => by
    obtain ⟨a, e, q⟩ := h
    exact ⟨a, e, hr i a (of_decide_eq_true c) q⟩
  | .edct, _, _, h => h
  | .fn _, _, _, h => h
  | .exc _ _ ds, _, c, h => by
    obtain ⟨a, C, us, e, h1, h2, q⟩ := h
    exact ⟨a, C, us, e, h1, h2, Reps.cut hr c q⟩
theorem Reps.cut {n : Nat} (hr : ∀ (i : Nat) (a : Addr), i < n → r[i]? = some a → r'[i]? = some a) : ∀ {ds : List D} {vs : List V}, closedDs n ds = true → Reps K F r ds vs → Reps K F r' ds vs
  | [], _, _, h => h
  | d :: ds, _, c, h => by
    obtain ⟨v, w, e, h1, h2⟩ := h
    have c : (closedD n d && closedDs n ds) = true := c
    rw [Bool.and_eq_true] at c
    exact ⟨v, w, e, Rep.cut hr c.1 h1, Reps.cut hr c.2 h2⟩
end
theorem CellOk.cut {n : Nat} (hr : ∀ (i : Nat) (a : Addr), i < n → r[i]? = some a → r'[i]? = some a) {a : Addr} {c : Cell} (hc : closedC n c = true) (h : CellOk K F r H a c) : CellOk K F r' H a c := by
  cases c with
  | lst ds =>
    obtain ⟨h1, vs, h2, h3⟩ := h
    exact ⟨h1, vs, h2, Reps.cut hr hc h3⟩
  | dk kvs =>
    obtain ⟨h1, vs, h2, h3, h4⟩ := h
    exact ⟨h1, vs, h2, h3, Reps.cut hr hc h4⟩
  | dt kvs =>
    obtain ⟨h1, vs, h2, h3, h4⟩ := h
    exact ⟨h1, vs, h2, h3, Reps.cut hr hc h4⟩
  | fz ds =>
    obtain ⟨vs, h2, h3⟩ := h
    exact ⟨vs, h2, Reps.cut hr hc h3⟩
  | dn kvs =>
    obtain ⟨h1, xs, h2, h3, h4, h5⟩ := h
    exact ⟨h1, xs, h2, h3, Reps.cut hr hc h4, fun x hx => let ⟨d, k1, k2, k3⟩ := h5 x hx; ⟨d, k1, k2, Rep.cut hr (closed_up (Nat.zero_le _) d (keyN_closed d k1)) k3⟩⟩
  | obj c fs =>
    obtain ⟨h1, C, dx, gs, h2, h3, h4, h5⟩ := h
    exact ⟨h1, C, dx, gs, h2, h3, h4, Reps.cut hr hc h5⟩
  | lk kvs =>
    obtain ⟨o, vs, h2, h3, h4⟩ := h
    exact ⟨o, vs, h2, h3, Reps.cut hr hc h4⟩
theorem CellOk.closed {a : Addr} {c : Cell} (h : CellOk K F r H a c) : closedC r.length c = true := by
  cases c with
  | lst ds => obtain ⟨h1, vs, h2, h3⟩ := h; exact h3.closed
  | dk kvs => obtain ⟨h1, vs, h2, h3, h4⟩ := h; exact h4.closed
  | dt kvs => obtain ⟨h1, vs, h2, h3, h4⟩ := h; exact h4.closed
  | fz ds => obtain ⟨vs, h2, h3⟩ := h; exact h3.closed
  | dn kvs => obtain ⟨h1, xs, h2, h3, h4, h5⟩ := h; exact h4.closed
  | obj c fs => obtain ⟨h1, C, dx, gs, h2, h3, h4, h5⟩ := h; exact h5.closed
  | lk kvs => obtain ⟨o, vs, h2, h3, h4⟩ := h; exact h4.closed
/-- some cells alone: the first n, and those in ks -/
theorem Rel.pick {n : Nat} {ks : List Nat} (h : Rel K B F r' H C) (hn : n ≤ C.length) (hf : ∀ (i : Nat) (c : Cell), i < n → C[i]? = some c → closedC n c = true) (hk : ∀ k ∈ ks, n ≤ k ∧ ∃ c, C[k]? = some c ∧ closedC n c = true) (hd : ks.Nodup) :
    Rel K B F (r'.take n ++ ks.map fun k => r'.getD k 0) H (C.take n ++ ks.map fun k => C.getD k (.fz [])) := by
  have hln : (r'.take n).length = n := by rw [List.length_take, h.len]; omega
  have hcn : (C.take n).length = n := by rw [List.length_take]; omega
  have low : ∀ (i : Nat) (a : Addr), i < n → r'[i]? = some a → (r'.take n ++ ks.map fun k => r'.getD k 0)[i]? = some a := fun i a hi e => by
    rw [List.getElem?_append_left (by omega), List.getElem?_take_of_lt hi]
    exact e
  have src : ∀ (i : Nat) (a : Addr), (r'.take n ++ ks.map fun k => r'.getD k 0)[i]? = some a → (i < n ∧ r'[i]? = some a) ∨ ∃ k, ks[i - n]? = some k ∧ n ≤ i ∧ r'[k]? = some a := fun i a e => by
    by_cases hi : i < n
    · rw [List.getElem?_append_left (by omega), List.getElem?_take_of_lt hi] at e
      exact .inl ⟨hi, e⟩
    · rw [List.getElem?_append_right (by omega), hln, List.getElem?_map] at e
      obtain ⟨k, e1, e2⟩ := map_some e
      obtain ⟨_, c, hc, _⟩ := hk k (List.mem_of_getElem? e1)
      have hkl : k < r'.length := by rw [h.len]; exact (List.getElem?_eq_some_iff.mp hc).1
      refine .inr ⟨k, e1, by omega, ?_⟩
      rw [← e2, List.getD_eq_getElem?_getD, List.getElem?_eq_getElem hkl]
      rfl
  refine ⟨h.froz, h.base, h.apart, fun i a e => ?_, by simp [hln, hcn], fun i c a e1 e2 => ?_, fun i j a e1 e2 => ?_⟩
  · rcases src i a e with ⟨_, e⟩ | ⟨k, _, _, e⟩
    · exact h.offB i a e
    · exact h.offB k a e
  · rcases src i a e2 with ⟨hi, e⟩ | ⟨k, hks, hni, e⟩
    · rw [List.getElem?_append_left (by omega), List.getElem?_take_of_lt hi] at e1
      exact CellOk.cut low (hf i c hi e1) (h.cells i c a e1 e)
    · rw [List.getElem?_append_right (by omega), hcn, List.getElem?_map, hks] at e1
      obtain ⟨_, c', hc, hcl⟩ := hk k (List.mem_of_getElem? hks)
      have e1 : C.getD k (.fz []) = c := Option.some.inj e1
      rw [List.getD_eq_getElem?_getD, hc] at e1
      have e1 : c' = c := e1
      subst e1
      exact CellOk.cut low hcl (h.cells k c' a hc e)
  · rcases src i a e1 with ⟨hi, e⟩ | ⟨k, hks, hni, e⟩
    · rcases src j a e2 with ⟨hj, q⟩ | ⟨l, hls, hnj, q⟩
      · exact h.inj i j a e q
      · have := h.inj i l a e q
        have := (hk l (List.mem_of_getElem? hls)).1
        omega
    · rcases src j a e2 with ⟨hj, q⟩ | ⟨l, hls, hnj, q⟩
      · have := h.inj k j a e q
        have := (hk k (List.mem_of_getElem? hks)).1
        omega
      · have ekl := h.inj k l a e q
        subst ekl
        obtain ⟨h1, e1⟩ := List.getElem?_eq_some_iff.mp hks
        obtain ⟨h2, e2⟩ := List.getElem?_eq_some_iff.mp hls
        have := (List.getElem_inj hd).mp (e1.trans e2.symm)
        omega
/-! the cells that a call leaves behind -/
open Classical in
noncomputable def fin (C : Store) (d : D) (C' : Store) : RE :=
  if C.length ≤ C'.length ∧ ∀ (i : Nat), i < C.length → C'[i]? = C[i]? ∨ ∃ c, C'[i]? = some c ∧ closedC C.length c = true then
    match d with
    | .cell k => if k < C.length then .ok (.cell k, C'.take C.length) else match C'[k]? with
      | some c => if closedC C.length c = true then .ok (.cell C.length, C'.take C.length ++ [c]) else .no
      | none => .no
    | .tup [.cell a, .cell b] => match C'[a]?, C'[b]? with
      | some c, some c2 => if C.length ≤ a ∧ C.length ≤ b ∧ a ≠ b ∧ closedC C.length c = true ∧ closedC C.length c2 = true then .ok (.tup [.cell C.length, .cell (C.length + 1)], C'.take C.length ++ [c, c2]) else .no
      | _, _ => .no
    | d => if closedD C.length d = true then .ok (d, C'.take C.length) else .no
  else .no
theorem fin_ok {C' : Store} {H' : Hp} {d : D} {v : V} {Q : VK} (hr : Rel K B F r H C) (e1 : Same F F') (e2 : Ex r r') (hr' : Rel K B F' r' H' C') (hd : Rep K F' r' d v) (o : Out (Rep K) K mg E B F r (fin C d C') Q) : Q v H' := by
  unfold fin at o
  split at o
  case isFalse => exact False.elim o
  rename_i hc
  have hn := hc.1
  have hcl : ∀ (i : Nat) (c : Cell), i < C.length → C'[i]? = some c → closedC C.length c = true := fun i c hi e => by
    rcases hc.2 i hi with q | ⟨c', q, z⟩
    · rw [q] at e
      obtain ⟨a, _, k⟩ := hr.addrAt e
      rw [← hr.len]
      exact k.closed
    · rw [q] at e
      cases e
      exact z
  have hpre : ∀ (i : Nat) (a : Addr), i < C.length → r'[i]? = some a → ∀ t, (r'.take C.length ++ t)[i]? = some a := fun i a hi e t => by
    rw [List.getElem?_append_left (by rw [List.length_take, hr'.len]; omega), List.getElem?_take_of_lt hi]
    exact e
  have hrr : ∀ t, Ex r (r'.take C.length ++ t) := fun t i a e => by
    have hi : i < C.length := by rw [← hr.len]; exact (List.getElem?_eq_some_iff.mp e).1
    exact hpre i a hi (e2 i a e) t
  have gen : ∀ (o : Out (Rep K) K mg E B F r (if closedD C.length d = true then .ok (d, C'.take C.length) else .no) Q), Q v H' := fun o => by
    split at o
    · rename_i hcd
      have p := hr'.pick (n := C.length) (ks := []) hn hcl (fun _ z => nomatch z) .nil
      rw [List.map_nil, List.append_nil, List.map_nil, List.append_nil] at p
      refine o F' (r'.take C.length) H' v e1 (fun i a e => ?_) p (Rep.cut (fun i a hi e => ?_) hcd hd)
      · have := hrr [] i a e
        rwa [List.append_nil] at this
      · have := hpre i a hi e []
        rwa [List.append_nil] at this
    · exact False.elim o
  split at o
  · rename_i k
    split at o
    · rename_i hk
      refine gen ?_
      rw [if_pos (show closedD C.length (.cell k) = true from decide_eq_true hk)]
      exact o
    · rename_i hk
      split at o
      · rename_i c ec
        split at o
        · rename_i hcc
          have p := hr'.pick (n := C.length) (ks := [k]) hn hcl (fun j hj => by cases List.mem_singleton.mp hj; exact ⟨by omega, c, ec, hcc⟩) (by simp)
          obtain ⟨a, rfl, ha⟩ := hd
          have e3 : C'.getD k (.fz []) = c := by rw [List.getD_eq_getElem?_getD, ec]; rfl
          have e4 : r'.getD k 0 = a := by rw [List.getD_eq_getElem?_getD, ha]; rfl
          simp only [List.map_cons, List.map_nil, e3, e4] at p
          refine o F' (r'.take C.length ++ [a]) H' (.ref a) e1 (hrr [a]) p ⟨a, rfl, ?_⟩
          rw [List.getElem?_append_right (by rw [List.length_take]; omega), List.length_take, hr'.len, Nat.min_eq_left hn, Nat.sub_self]
          rfl
        · exact False.elim o
      · exact False.elim o
  · rename_i x y
    split at o
    · rename_i c c2 ec ec2
      split at o
      · rename_i hcc
        obtain ⟨h1, h2, h3, h4, h5⟩ := hcc
        have p := hr'.pick (n := C.length) (ks := [x, y]) hn hcl (fun j hj => by
          rcases List.mem_cons.mp hj with rfl | hj
          · exact ⟨h1, c, ec, h4⟩
          · cases List.mem_singleton.mp hj; exact ⟨h2, c2, ec2, h5⟩) (by simp [h3])
        obtain ⟨t, vs, rfl, hT, v1, w1, rfl, ⟨a, rfl, ha⟩, v2, w2, rfl, ⟨b, rfl, hb⟩, h6⟩ := hd
        cases (show w2 = [] from h6)
        have e3 : C'.getD x (.fz []) = c := by rw [List.getD_eq_getElem?_getD, ec]; rfl
        have e4 : r'.getD x 0 = a := by rw [List.getD_eq_getElem?_getD, ha]; rfl
        have e5 : C'.getD y (.fz []) = c2 := by rw [List.getD_eq_getElem?_getD, ec2]; rfl
        have e6 : r'.getD y 0 = b := by rw [List.getD_eq_getElem?_getD, hb]; rfl
        simp only [List.map_cons, List.map_nil, e3, e4, e5, e6] at p
        refine o F' (r'.take C.length ++ [a, b]) H' (.ref t) e1 (hrr [a, b]) p ⟨t, _, rfl, hT, .cons ⟨a, rfl, ?_⟩ (.one ⟨b, rfl, ?_⟩)⟩
        · rw [List.getElem?_append_right (by rw [List.length_take]; omega), List.length_take, hr'.len, Nat.min_eq_left hn, Nat.sub_self]
          rfl
        · rw [List.getElem?_append_right (by rw [List.length_take]; omega), List.length_take, hr'.len, Nat.min_eq_left hn, Nat.add_sub_cancel_left]
          rfl
      · exact False.elim o
    · exact False.elim o
  · exact gen o
end
/-- a def's body from its arguments -/
noncomputable def runD (n : Nat) (u : MS) : MF := fun ds C => (u (ds.map some ++ List.replicate (n - ds.length) none) C).bind fun p => match p.1.1 with
  | .nx => fin C .non p.2
  | .rt d => fin C d p.2
  | _ => .no
theorem Sls.start {K : PySem.W.Frag} {F : Hp} {r : List Addr} {N : List Str} {ds : List D} {vs : List V} (h : Reps K F r ds vs) : Sls K F r (ds.map some ++ List.replicate (N.length - ds.length) none) (L2.start N vs) := by
  unfold L2.start
  rw [← h.length]
  refine ⟨by simp [h.length], fun i d e => ?_⟩
  by_cases hi : i < ds.length
  · rw [List.getElem?_append_left (by simpa using hi), List.getElem?_map] at e
    obtain ⟨d', e1, e2⟩ := map_some e
    cases e2
    obtain ⟨v, h1, h2⟩ := h.get e1
    refine ⟨v, ?_, h2⟩
    rw [List.getElem?_append_left (by rw [List.length_map, ← h.length]; exact hi), List.getElem?_map, h1]
    rfl
  · rw [List.getElem?_append_right (by rw [List.length_map]; omega)] at e
    rw [List.getElem?_replicate] at e
    split at e
    · cases e
    · cases e
section
variable {P : Program} {w : World} {K : PySem.W.Frag} {mg : Str → Option Value} {base : Heap}
theorem okD {x qual : Str} {st : Stmt} {f : Addr} {fd : FuncData} {N ps : List Str} {k : Nat} {u : MS} (F : Fun K x qual st f fd) (S : FnScope N ps (defScope st))
    (hb : ∀ (cdv : Value) (A : Around) (outer : List Env) (s : Shared) (H : Hp) (E : XK), Room k (A.deeper (envOfC qual (defScope st) s.heap.objs.size f cdv)) → A.guards = some [] →
      NSs (cxOf (L2.CX P w) P w K mg base N qual (defScope st) f cdv A outer s H E) E (defBody st) u) : FnG P w K mg base (k + 1) f fd ps (spN K mg ps.length (runD N.length u)) := by
  refine fnG_of F S spN_len fun cdv A outer s H vs Q E hr hg h => ⟨_, (hb cdv A outer s H E hr hg).ps, ?_⟩
  obtain ⟨B, F, r, C, ds, hr, hd, hl, o⟩ := h
  refine ⟨B, F, r, _, C, hr, Sls.start hd, ?_⟩
  unfold runD at o
  cases hu : u (ds.map some ++ List.replicate (N.length - ds.length) none) C with
  | ok p =>
    obtain ⟨⟨fl, sl'⟩, C'⟩ := p
    rw [hu, R.bind_ok] at o
    intro F' r' H' e1 e2 hr'
    cases fl with
    | nx => exact fun s' _ => fin_ok (d := .non) hr e1 e2 hr' rfl o
    | rt d => exact fun v hv => fin_ok hr e1 e2 hr' hv o
    | bk => exact False.elim o
    | ct => exact False.elim o
  | ex y Cy => rw [hu] at o; exact o
  | no => rw [hu] at o; exact o
end
end Nv

namespace Nv
open PySem PySem.Spec PyProof.Rows L2

/-! the law's end -/
theorem Rel.begin (K : PySem.W.Frag) (H : Hp) : Rel K (fun _ => none) H [] H [] where
  froz := .refl H
  base := fun _ _ z => nomatch z
  apart := fun _ _ z => nomatch z
  offB := fun i a z => by simp at z
  len := rfl
  cells := fun i c a z _ => by simp at z
  inj := fun i j a z _ => by simp at z
theorem law_end {P : Program} {w : World} {K : PySem.W.Frag} {mg mb : Str → Option Value} {k : Nat} {fa a : Addr} {fd : FuncData} {x : Str} {mf : MF} {s₁ : Shared} {vs : List Value} {ns : List Int} {C' : Store}
    (KX : K.In s₁.heap) (hns : s₁.heap.Ns mainGlobals mg) (hb : s₁.heap.Ns builtinsNs mb) (hbb : ∀ x : Str, x ≠ "__name__" → mb x = bootBuiltins x) (hlim : s₁.heap.NoLimit) (hg : s₁.gens = #[])
    (ha : s₁.heap.get? a = some { cls := .type "list", data := .seq vs.toArray }) (hi : IntsAre vs ns) (hl : ns.length ≤ sizeLine) (hr : Room k callerA)
    (F : ∀ base : Heap, K.In base → base.Ns mainGlobals mg → FnG P w K mg base k fa fd [x] (spN K mg 1 mf)) (hbind : ∀ (s : Shared) (u : Value), BindsTo s fd ⟨[u], []⟩ [(x, u)])
    (hm : mf [.lst (ns.map D.int)] [] = .ok (.bl true, C')) :
    codeAny (model P w) callerA (.call (.ref fa) ⟨[.ref a], []⟩) (fun r s' => r = .ok (.ret (.bool true)) ∧ OldK s₁.heap s'.heap ∧ s'.os = s₁.os ∧ AllBare s'.gens) s₁ := by
  have rv := vals_ints hi
  have lenV := hi.length
  have go : ∀ H : Hp, Only H → SqL K H a (ns.map V.int) → HOk P w H s₁.heap → (∀ b, H b ≠ none → b = a) → (H a ≠ none → K.lookup a = none) →
      codeAny (model P w) callerA (.call (.ref fa) ⟨[.ref a], []⟩) (fun r s' => r = .ok (.ret (.bool true)) ∧ OldK s₁.heap s'.heap ∧ s'.os = s₁.os ∧ AllBare s'.gens) s₁ := by
    intro H hO hS hok hA hK
    have only : ∀ {b : Addr} {u : HO}, H b = some u → b = a := fun {b u} q => hA b (by rw [q]; simp)
    have nsK : ∀ {b : Addr} {m : Str → Option Value}, s₁.heap.Ns b m → (hidT s₁.heap H).Ns b m := fun {b m} ⟨o, es, ep, e, d, r⟩ => by
      refine ⟨o, es, ep, hidT_get e ?_, d, r⟩
      cases q : H b with
      | none => rfl
      | some u =>
        cases only q
        rw [ha] at e
        cases e
        have d' : Data.seq vs.toArray _ = Data.dict es ep := d
        cases d'
    have hKb : K.In (hidT s₁.heap H) := fun b o e => by
      refine hidT_get (KX b o e) ?_
      cases q : H b with
      | none => rfl
      | some u =>
        cases only q
        rw [hK (by rw [q]; simp)] at e
        cases e
    have hM : Mod K mg (hidT s₁.heap H) := ⟨hKb, nsK hns, ⟨mb, nsK hb, hbb⟩, let ⟨mc, h1, h2⟩ := hlim; ⟨mc, nsK h1, h2⟩⟩
    have nomem : ∀ {b : Addr}, b ∉ frs [] := fun {b} hb => absurd (show b ∈ ([] : List Addr) from hb) (by simp)
    have e0 : Env0 P w K mg (hidT s₁.heap H) callerA [] s₁ H := ⟨rfl, hM, fun b o e => of_hidT e, Nat.le_of_eq (hidT_size _ _), trivial, fun b hb => (nomem hb).elim, hok, .of_eq hg⟩
    have hsp : spN K mg 1 mf [.ref a] H (fun v _ => v = .bl true) (fun _ _ _ => False) := by
      refine ⟨fun _ => none, H, [], [], [.lst (ns.map D.int)], Rel.begin K H, ⟨.ref a, [], rfl, ⟨a, ns.map V.int, rfl, hS, Reps.ofInts ns⟩, rfl⟩, rfl, ?_⟩
      rw [hm]
      exact fun F' r' H' v _ _ _ hv => hv
    refine codeAny_mono ((F _ hKb (nsK hns)).run callerA [] s₁ H ⟨[.ref a], []⟩ [.ref a] [.ref a] _ _ hr rfl e0 (hbind s₁ (.ref a)) (.cons rfl .nil) hsp) fun r s' h => ?_
    cases r with
    | error e =>
      obtain ⟨_, _, _, _, _, _, _, _, _, _, _, _, z⟩ := (show L2.CX P w [] H s₁ (fun _ _ _ => False) e s' from h)
      exact z.elim
    | ok fl =>
      cases fl with
      | next => exact False.elim h
      | brk => exact False.elim h
      | cont => exact False.elim h
      | ret u =>
        obtain ⟨v, H', os, bare, un, hok', r', q⟩ := h
        cases (show v = .bl true from q)
        cases (show u = Value.bool true from r')
        refine ⟨rfl, OldK.of_keep fun b o e => ?_, os, bare⟩
        cases q : H b with
        | none => exact un.keep b o e q nomem (by simp)
        | some u =>
          rcases hO b with z | ⟨ob, xs, z⟩
          · rw [q] at z; cases z
          · obtain ⟨e1, _⟩ := hok b _ z
            obtain ⟨e2, _⟩ := hok' b _ (un.frzs b ob _ z)
            rw [e] at e1
            cases e1
            exact e2
  cases hk : K.lookup a with
  | some o =>
    have e := KX a o hk
    rw [ha] at e
    cases e
    exact go (fun _ => none) (fun _ => .inl rfl) (.inr ⟨_, vs.toArray, _, hk, rfl, rfl, rfl, by rw [List.size_toArray, lenV]; exact hl, by simpa using rv⟩) (fun b u z => nomatch (show (none : Option HO) = some u from z)) (fun b z => absurd rfl z) fun z => absurd rfl z
  | none =>
    refine go (fun b => if b = a then some (.frz { cls := .type "list", data := .seq vs.toArray } (.lst (ns.map V.int))) else none) (fun b => ?_) (.inl (.inr ⟨{ cls := .type "list", data := .seq vs.toArray }, if_pos rfl⟩)) (fun b u z => ?_) (fun b z => ?_) fun _ => hk
    · by_cases hb : b = a
      · exact .inr ⟨_, _, if_pos hb⟩
      · exact .inl (if_neg hb)
    · by_cases hb : b = a
      · cases (if_pos hb).symm.trans z
        subst hb
        exact ⟨ha, by rw [List.length_map]; exact hl, vs, _, rv, ha⟩
      · cases (if_neg hb).symm.trans z
    · by_cases hb : b = a
      · exact hb
      · exact absurd (if_neg hb) z
theorem walkG {l : PySem.W.OpenLaw} {n k : Nat} {q : Program} {loose : List Str} {XP : (Str → Option Value) → Heap → Prop} {YP : World → Heap → Prop} {d : DefRec} {K : Params → PySem.W.Frag} {mf : MF} {x : Str}
    (hn : l.most = some n) (hn2 : n ≤ sizeLine) (hdf : d.params.defaults = []) (hr : Room k callerA) (hY : ∀ (w : World) (h : Heap), YP w h → (K w.params).In h)
    (F : ∀ (w : World) (mg : Str → Option Value) (fa : Addr) (h : Heap), (K w.params).In h → h.Ns mainGlobals mg → mg d.name = some (.ref fa) →
      ∃ fd : FuncData, (∀ (s : Shared) (u : Value), BindsTo s fd ⟨[u], []⟩ [(x, u)]) ∧ ∀ base : Heap, (K w.params).In base → base.Ns mainGlobals mg → FnG l.prog w (K w.params) mg base k fa fd [x] (spN (K w.params) mg 1 mf))
    (hm : ∀ ns : List Int, ns.length ≤ n → ∃ C', mf [.lst (ns.map D.int)] [] = .ok (.bl true, C')) :
    PySem.W.WalkO q loose XP YP l.row.toRowW d [] (fun f vs => PySem.call f vs) := by
  refine Att.attach_call hn hdf fun w s₀ s₁ mg mb fa o pm cd doc a vs ns G Y ho hd hcd hmg hobj hints hlen hg => ?_
  obtain ⟨fd, hb, hF⟩ := F w mg fa _ (hY w _ Y) G.T.g hmg
  obtain ⟨C', hm⟩ := hm ns hlen
  exact law_end (hY w _ Y) G.T.g G.T.b G.T.builtins G.T.nolimit hg hobj hints (Nat.le_trans hlen hn2) hr hF hb hm

/-! freezing -/
def frzL (f : D → Store → Option (D × Store)) : List D → Store → Option (List D × Store)
  | [], C => some ([], C)
  | d :: ds, C => (f d C).bind fun p => (frzL f ds p.2).bind fun q => some (p.1 :: q.1, q.2)
def frz : Nat → D → Store → Option (D × Store)
  | 0, x, C => some (x, C)
  | n + 1, x, C => match x with
    | .cell k => match C[k]? with
      | some (.lst ds) => (frzL (frz n) ds (C.set k (.fz ds))).bind fun q => some (.lst q.1, q.2)
      | some (.fz ds) => (frzL (frz n) ds C).bind fun q => some (.lst q.1, q.2)
      | _ => none
    | .tup ds => (frzL (frz n) ds C).bind fun q => some (.tup q.1, q.2)
    | .lst ds => (frzL (frz n) ds C).bind fun q => some (.lst q.1, q.2)
    | x => some (x, C)
section
variable {K : PySem.W.Frag} {mg : Str → Option Value} {E : XK} {B F F' H : Hp} {r r' : List Addr} {C : Store} {Q : VK} {X : Cx} {e : Expr} {m : ME}
theorem frzL_ok {f : D → Store → Option (D × Store)} (hf : ∀ (F : Hp) (C C' : Store) (x x' : D) (v : V), Rel K B F r H C → Rep K F r x v → f x C = some (x', C') → ∃ F', Same F F' ∧ Rel K B F' r H C' ∧ Rep K F' r x' v) :
    ∀ (ds ds' : List D) (F : Hp) (C C' : Store) (vs : List V), Rel K B F r H C → Reps K F r ds vs → frzL f ds C = some (ds', C') → ∃ F', Same F F' ∧ Rel K B F' r H C' ∧ Reps K F' r ds' vs
  | [], ds', F, C, C', vs, hr, hd, h => by cases h; exact ⟨F, .refl F, hr, hd⟩
  | d :: ds, ds', F, C, C', vs, hr, hd, h => by
    obtain ⟨v, w, rfl, h1, h2⟩ := hd
    unfold frzL at h
    obtain ⟨⟨d1, C1⟩, k1, h⟩ := bind_some h
    obtain ⟨⟨d2, C2⟩, k2, h⟩ := bind_some h
    cases h
    obtain ⟨F1, q1, q2, q3⟩ := hf F C C1 d d1 v hr h1 k1
    obtain ⟨F2, q4, q5, q6⟩ := frzL_ok hf ds d2 F1 C1 C2 w q2 (h2.mono q1 (.refl _)) k2
    exact ⟨F2, q1.trans q4, q5, .cons (q3.mono q4 (.refl _)) q6⟩
theorem frz_ok : ∀ (n : Nat) (F : Hp) (C C' : Store) (x x' : D) (v : V), Rel K B F r H C → Rep K F r x v → frz n x C = some (x', C') → ∃ F', Same F F' ∧ Rel K B F' r H C' ∧ Rep K F' r x' v
  | 0, F, C, C', x, x', v, hr, hx, h => by cases h; exact ⟨F, .refl F, hr, hx⟩
  | n + 1, F, C, C', x, x', v, hr, hx, h => by
    have ih := frz_ok n
    cases x with
    | cell k =>
      have h : (match C[k]? with
      | some (.lst ds) => (frzL (frz n) ds (C.set k (.fz ds))).bind fun q => some (.lst q.1, q.2)
      | some (.fz ds) => (frzL (frz n) ds C).bind fun q => some (.lst q.1, q.2)
      | _ => none) = some (x', C') := h
      obtain ⟨a, rfl, h1⟩ := hx
      split at h
      · rename_i ds hc
        obtain ⟨⟨ds', C1⟩, k1, h⟩ := bind_some h
        cases h
        obtain ⟨h2, vs, h3, h4⟩ := hr.cells k _ a hc h1
        obtain ⟨q1, q2⟩ := hr.kill h1 h2 h3 h4
        obtain ⟨F', q3, q4, q5⟩ := frzL_ok ih ds ds' _ _ _ vs q1 (h4.mono q2 (.refl _)) k1
        exact ⟨F', q2.trans q3, q4, a, vs, rfl, .inl (.inl (q3 _ _ upd_same)), q5⟩
      · rename_i ds hc
        obtain ⟨⟨ds', C1⟩, k1, h⟩ := bind_some h
        cases h
        obtain ⟨vs, h3, h4⟩ := hr.cells k _ a hc h1
        obtain ⟨F', q3, q4, q5⟩ := frzL_ok ih ds ds' _ _ _ vs hr h4 k1
        exact ⟨F', q3, q4, a, vs, rfl, .inl (.inl (q3 _ _ h3)), q5⟩
      · cases h
    | tup ds =>
      obtain ⟨⟨ds', C1⟩, k1, h⟩ := bind_some (show ((frzL (frz n) ds C).bind fun q => some (.tup q.1, q.2)) = some (x', C') from h)
      cases h
      obtain ⟨a, vs, rfl, h1, h2⟩ := hx
      obtain ⟨F', q3, q4, q5⟩ := frzL_ok ih ds ds' _ _ _ vs hr h2 k1
      exact ⟨F', q3, q4, a, vs, rfl, Same.tup q3 h1, q5⟩
    | lst ds =>
      obtain ⟨⟨ds', C1⟩, k1, h⟩ := bind_some (show ((frzL (frz n) ds C).bind fun q => some (.lst q.1, q.2)) = some (x', C') from h)
      cases h
      obtain ⟨a, vs, rfl, h1, h2⟩ := hx
      obtain ⟨F', q3, q4, q5⟩ := frzL_ok ih ds ds' _ _ _ vs hr h2 k1
      exact ⟨F', q3, q4, a, vs, rfl, Same.seq q3 h1, q5⟩
    | non => cases h; exact ⟨F, .refl F, hr, hx⟩
    | bl b => cases h; exact ⟨F, .refl F, hr, hx⟩
    | int b => cases h; exact ⟨F, .refl F, hr, hx⟩
    | str b => cases h; exact ⟨F, .refl F, hr, hx⟩
    | edct => cases h; exact ⟨F, .refl F, hr, hx⟩
    | fn b => cases h; exact ⟨F, .refl F, hr, hx⟩
    | exc c f b => cases h; exact ⟨F, .refl F, hr, hx⟩
/-- frozen, the cells of the value's making let go -/
noncomputable def mFz (n : Nat) (m : ME) : ME := fun sl C => (m sl C).bind fun p => match frz n p.1 p.2 with
  | some q => fin C q.1 q.2
  | none => .no
theorem ne_fz (n : Nat) (he : NE X E e m) : NE X E e (mFz n m) := ⟨pe_imp he.pe fun s H Q q => by
    obtain ⟨B, F, r, sl, C, hr, hs, o⟩ := q
    refine ⟨B, F, r, sl, C, hr, hs, ?_⟩
    unfold mFz at o
    cases hm : m sl C with
    | ok p =>
      obtain ⟨d, C1⟩ := p
      rw [hm, R.bind_ok] at o
      intro F' r' H' v e1 e2 hr' hd
      simp only at o
      split at o
      · rename_i z hz
        obtain ⟨d2, C2⟩ := z
        obtain ⟨F2, q1, q2, q3⟩ := frz_ok n F' C1 C2 d d2 v hr' hd hz
        exact fin_ok hr (e1.trans q1) e2 q2 q3 o
      · exact False.elim o
    | ex y Cy => rw [hm] at o; exact o
    | no => rw [hm] at o; exact o⟩
end
end Nv

namespace Nv
open PySem PySem.Spec PyProof.Rows L2
section
variable {X : Cx} {E : XK} {a b c e : Expr} {es : List Expr} {m ma mb mc : ME} {mas : MG (List D)} {pos p1 : Pos}
/-- a op b op' c -/
def mCh (g g' : D → D → Store → RE) (ma mb mc : ME) : ME := fun sl C => (ma sl C).bind fun p => (mb sl p.2).bind fun q => (g p.1 q.1 q.2).bind fun t => match t.1 with
  | .bl true => (mc sl t.2).bind fun z => g' q.1 z.1 z.2
  | .bl false => .ok (.bl false, t.2)
  | _ => .no
theorem chain_ok {r1 r2 : R2} {g g' : D → D → Store → RE} (hg : OpN X.K X.mg E r1 g) (hg' : OpN X.K X.mg E r2 g') :
    ∀ s H Q, LG (Rep X.K) X.K X.mg E (mCh g g' ma mb mc) s H Q → tChain r1 r2 (LG (Rep X.K) X.K X.mg E ma) (LG (Rep X.K) X.K X.mg E mb) (LG (Rep X.K) X.K X.mg E mc) s H Q := fun s H Q q => by
  obtain ⟨B, F, r, sl, C, hr, hs, o⟩ := q
  refine ⟨B, F, r, sl, C, hr, hs, Out.bind (P := Rep X.K) o fun x C1 F1 r1 H1 v e1 e2 hr1 hx o1 => ?_⟩
  refine ⟨B, F1, r1, sl, C1, hr1, hs.mono e1 e2, Out.bind (P := Rep X.K) o1 fun y C2 F2 r2' H2 u e3 e4 hr2 hy o2 => ?_⟩
  refine hg B F2 r2' H2 C2 x y v u _ hr2 (hx.mono e3 e4) hy (Out.bind (P := Rep X.K) o2 fun z C3 F3 r3 H3 w e5 e6 hr3 hz o3 => ?_)
  cases z with
  | bl k =>
    refine ⟨k, hz, ?_⟩
    cases k with
    | false =>
      rw [if_neg Bool.false_ne_true]
      exact out_ok (d := .bl false) hr3 rfl o3
    | true =>
      rw [if_pos rfl]
      refine ⟨B, F3, r3, sl, C3, hr3, ((hs.mono e1 e2).mono e3 e4).mono e5 e6, Out.bind (P := Rep X.K) o3 fun t C4 F4 r4 H4 w4 e7 e8 hr4 ht o4 => ?_⟩
      exact hg' B F4 r4 H4 C4 y t u w4 Q hr4 ((hy.mono e5 e6).mono e7 e8) ht o4
  | _ => exact False.elim o3
theorem ne_ch {op op' : CmpOp} {r1 r2 : R2} {g g' : D → D → Store → RE} (ho : OpR X (compareOp op) r1) (ho' : OpR X (compareOp op') r2) (hg : OpN X.K X.mg E r1 g) (hg' : OpN X.K X.mg E r2 g') (ha : NE X E a ma) (hb : NE X E b mb) (hc : NE X E c mc) (hmk : lastMarks [op, op'] [b, c] = false := by with_unfolding_all rfl) :
    NE X E (.Compare a [op, op'] [b, c] pos) (mCh g g' ma mb mc) := ⟨pe_imp (pe_chain ho ho' ha.pe hb.pe hc.pe hmk) (chain_ok hg hg')⟩
/-- a constant of the module -/
def GlobC (mg : Str → Option Value) (K : PySem.W.Frag) (x : Str) (d : D) : Prop := ∃ u v, mg x = some u ∧ RelV v u ∧ ∀ F r, Rep K F r d v
theorem ne_glob {x : Str} {d : D} (h : GlobC X.mg X.K x d) (hg : Gl X x := by rfl) (hd : (x == ("__debug__" : Str)) = false := by decide) : NE X E (.Name x pos) (mC d) := by
  obtain ⟨u, v, h1, h2, h3⟩ := h
  exact ne_c (pe_glob hg h1 h2 hd) h3
end

/-! defs by their names -/
def Cal (P : Program) (w : World) (K : PySem.W.Frag) (mg : Str → Option Value) (base : Heap) (x : Str) (k n : Nat) (mf : MF) : Prop :=
  ∃ f fd ps, FnG P w K mg base k f fd ps (spN K mg n mf) ∧ mg x = some (.ref f) ∧ PySem.W.keepIn K (.ref f) = true ∧ L2.Binds K fd ps []
def DefAt (K : PySem.W.Frag) (mg : Str → Option Value) (x : Str) (st : Stmt) (ps : List Str) : Prop := ∃ f fd, Fun K x x st f fd ∧ mg x = some (.ref f) ∧ L2.Binds K fd ps []
section
variable {P : Program} {w : World} {K : PySem.W.Frag} {mg : Str → Option Value} {base : Heap}
theorem Cal.mono {x : Str} {j k n : Nat} {mf : MF} (h : Cal P w K mg base x j n mf) (hjk : j ≤ k) : Cal P w K mg base x k n mf := by
  obtain ⟨f, fd, ps, h1, h2⟩ := h
  exact ⟨f, fd, ps, h1.mono hjk, h2⟩
theorem Cal.of {x : Str} {st : Stmt} {N ps : List Str} {k : Nat} {u : MS} (h : DefAt K mg x st ps) (S : FnScope N ps (defScope st))
    (hb : ∀ (f : Addr) (cdv : Value) (A : Around) (outer : List Env) (s : Shared) (H : Hp) (E : XK), Room k (A.deeper (envOfC x (defScope st) s.heap.objs.size f cdv)) → A.guards = some [] →
      NSs (cxOf (L2.CX P w) P w K mg base N x (defScope st) f cdv A outer s H E) E (defBody st) u) : Cal P w K mg base x (k + 1) ps.length (runD N.length u) := by
  obtain ⟨f, fd, h1, h2, h3⟩ := h
  exact ⟨f, fd, ps, okD h1 S fun cdv A outer s H E hr hg => hb f cdv A outer s H E hr hg, h2, h1.kp, h3⟩
end
section
variable {X : Cx} {E : XK} {e : Expr} {es : List Expr} {mas : MG (List D)} {pos p1 : Pos}
theorem ne_cal {x : Str} {k n : Nat} {mf : MF} (h : Cal X.prog X.w X.K X.mg X.base x k n mf) (hr : Room k X.A) (hgd : X.A.guards = some []) (hx : Passes (L2.CX X.prog X.w) X E) (ha : NA X E (e :: es) mas) (hg : Gl X x := by rfl)
    (hdb : (x == ("__debug__" : Str)) = false := by decide) (he : starEach (e :: es) X.env = (false, eval e X.env) :: starEach es X.env := by rfl) (hpl : (backTo pos (starEach es X.env)).any (·.1) = false := by rfl) : NE X E (.Call (.Name x p1) (e :: es) [] pos) (mF n mf mas) := by
  obtain ⟨f, fd, ps, h1, h2, h3, h4⟩ := h
  exact ne_call h1 hr hgd h2 h3 h4 hx ha hg hdb he hpl
end
theorem Cal.zero {P : Program} {w : World} {K : PySem.W.Frag} {mg : Str → Option Value} {base : Heap} {x : Str} {st : Stmt} {ps : List Str} {k : Nat} (h : DefAt K mg x st ps) : Cal P w K mg base x k ps.length (fun _ _ => .no) := by
  obtain ⟨f, fd, h1, h2, h3⟩ := h
  exact ⟨f, fd, ps, ⟨spN_len, fun A outer s H args us vs Q E _ _ _ _ _ h => by
    obtain ⟨_, _, _, _, _, _, _, _, o⟩ := h
    exact False.elim o⟩, h2, h1.kp, h3⟩
theorem pass_cx {P : Program} {w : World} {K : PySem.W.Frag} {mg : Str → Option Value} {base : Heap} {N : List Str} {qual : Str} {scope : Scope} {f : Addr} {cd : Value} {A : Around} {outer : List Env} {s : Shared} {H : Hp} {E : XK} :
    Passes (L2.CX P w) (cxOf (L2.CX P w) P w K mg base N qual scope f cd A outer s H E) E := passes_call (takes_of rfl rfl rfl rfl) fun _ _ _ _ h => h
theorem own_cx {P : Program} {w : World} {K : PySem.W.Frag} {mg : Str → Option Value} {base : Heap} {N : List Str} {qual : Str} {scope : Scope} {f : Addr} {cd : Value} {A : Around} {outer : List Env} {s : Shared} {H : Hp} {E : XK} :
    PassesOwn (model P w) (cxOf (L2.CX P w) P w K mg base N qual scope f cd A outer s H E).A (cxOf (L2.CX P w) P w K mg base N qual scope f cd A outer s H E).env (cxOf (L2.CX P w) P w K mg base N qual scope f cd A outer s H E).xe := passes_of (X := cxOf (L2.CX P w) P w K mg base N qual scope f cd A outer s H E) rfl
end Nv

namespace Nv
open PySem PySem.Spec PyProof.Rows L2
/-! the cells that a block made go, and some names with them -/
def slOk (n : Nat) (sl : Sl) : Bool := sl.all fun o => match o with
  | some d => closedD n d
  | none => true
open Classical in
noncomputable def sGc (ks : List Nat) (u : MS) : MS := fun sl C => (u sl C).bind fun p => match p.1.1 with
  | .nx => if C.length ≤ p.2.length ∧ (∀ (i : Nat), i < C.length → p.2[i]? = C[i]? ∨ ∃ c, p.2[i]? = some c ∧ closedC C.length c = true) ∧ slOk C.length (wipeS p.1.2 ks) = true then .ok ((.nx, wipeS p.1.2 ks), p.2.take C.length) else .no
  | .ct => if C.length ≤ p.2.length ∧ (∀ (i : Nat), i < C.length → p.2[i]? = C[i]? ∨ ∃ c, p.2[i]? = some c ∧ closedC C.length c = true) ∧ slOk C.length (wipeS p.1.2 ks) = true then .ok ((.ct, wipeS p.1.2 ks), p.2.take C.length) else .no
  | _ => .ok p
section
variable {K : PySem.W.Frag} {mg : Str → Option Value} {E : XK} {B F F' : Hp} {r r' : List Addr} {H H' : Hp} {C C1 : Store} {De : Ends} {s : L2.St} {sl sl1 : Sl}
theorem wipeS_sub : ∀ (ks : List Nat) (sl : Sl) (i : Nat) (d : D), (wipeS sl ks)[i]? = some (some d) → sl[i]? = some (some d) := by
  intro ks
  induction ks with
  | nil => intro sl i d h; exact h
  | cons k ks ih =>
    intro sl i d h
    unfold wipeS at h
    by_cases hk : k = i
    · subst hk
      rw [List.getElem?_set] at h
      split at h
      · split at h <;> cases h
      · exact ih _ _ _ h
    · rw [List.getElem?_set_ne hk] at h
      exact ih _ _ _ h
theorem wipeS_len : ∀ (ks : List Nat) (sl : Sl), (wipeS sl ks).length = sl.length := by
  intro ks
  induction ks with
  | nil => intro sl; rfl
  | cons k ks ih => intro sl; unfold wipeS; rw [List.length_set, ih]
theorem slOk_get {n : Nat} {sl : Sl} {i : Nat} {d : D} (h : slOk n sl = true) (e : sl[i]? = some (some d)) : closedD n d = true := by
  unfold slOk at h
  rw [List.all_eq_true] at h
  exact h _ (List.mem_of_getElem? e)
theorem gc_core {ks : List Nat} (hr : Rel K B F r H C) (hn : C.length ≤ C1.length) (hc : ∀ (i : Nat), i < C.length → C1[i]? = C[i]? ∨ ∃ c, C1[i]? = some c ∧ closedC C.length c = true) (hsl : slOk C.length (wipeS sl1 ks) = true)
    (e1 : Same F F') (e2 : Ex r r') (hr' : Rel K B F' r' H' C1) : ∃ r2, Ex r r2 ∧ Rel K B F' r2 H' (C1.take C.length) ∧ ∀ s, Sls K F' r' sl1 s → Sls K F' r2 (wipeS sl1 ks) s := by
  have hcl : ∀ (i : Nat) (c : Cell), i < C.length → C1[i]? = some c → closedC C.length c = true := fun i c hi e => by
    rcases hc i hi with q | ⟨c', q, z⟩
    · rw [q] at e
      obtain ⟨a, _, k⟩ := hr.addrAt e
      rw [← hr.len]
      exact k.closed
    · rw [q] at e
      cases e
      exact z
  have p := hr'.pick (n := C.length) (ks := []) hn hcl (fun _ z => nomatch z) .nil
  rw [List.map_nil, List.append_nil, List.map_nil, List.append_nil] at p
  have hcut : ∀ (i : Nat) (a : Addr), i < C.length → r'[i]? = some a → (r'.take C.length)[i]? = some a := fun i a hi e => by
    rw [List.getElem?_take_of_lt hi]
    exact e
  refine ⟨r'.take C.length, fun i a e => ?_, p, fun s hs => ?_⟩
  · have hi : i < C.length := by rw [← hr.len]; exact (List.getElem?_eq_some_iff.mp e).1
    exact hcut i a hi (e2 i a e)
  · refine ⟨by rw [wipeS_len]; exact hs.1, fun i d e => ?_⟩
    obtain ⟨v, h1, h2⟩ := hs.2 i d (wipeS_sub _ _ _ _ e)
    exact ⟨v, h1, Rep.cut hcut (slOk_get hsl e) h2⟩
variable {X : Cx} {st : List Stmt} {u : MS}
theorem nss_gc (ks : List Nat) (h : NSs X E st u) : NSs X E st (sGc ks u) := ⟨pss_imp h.ps fun De s H q => by
    obtain ⟨B, F, r, sl, C, hr, hs, o⟩ := q
    refine ⟨B, F, r, sl, C, hr, hs, ?_⟩
    unfold sGc at o
    cases hu : u sl C with
    | ok p =>
      obtain ⟨⟨f, sl1⟩, C1⟩ := p
      rw [hu, R.bind_ok] at o
      cases f with
      | nx =>
        simp only at o
        split at o
        · rename_i hc
          obtain ⟨h1, h2, h3⟩ := hc
          intro F' r' H' k1 k2 k3 s' hs'
          obtain ⟨r2, g1, g2, g3⟩ := gc_core hr h1 h2 h3 k1 k2 k3
          exact o F' r2 H' k1 g1 g2 s' (g3 s' hs')
        · exact False.elim o
      | ct =>
        simp only at o
        split at o
        · rename_i hc
          obtain ⟨h1, h2, h3⟩ := hc
          intro F' r' H' k1 k2 k3 s' hs'
          obtain ⟨r2, g1, g2, g3⟩ := gc_core hr h1 h2 h3 k1 k2 k3
          exact o F' r2 H' k1 g1 g2 s' (g3 s' hs')
        · exact False.elim o
      | rt d => exact o
      | bk => exact o
    | ex x Cx => rw [hu] at o; exact o
    | no => rw [hu] at o; exact o⟩
end
/-! a def that leaves its cells where they are -/
def runK (n : Nat) (u : MS) : MF := fun ds C => (u (ds.map some ++ List.replicate (n - ds.length) none) C).bind fun p => match p.1.1 with
  | .nx => .ok (.non, p.2)
  | .rt d => .ok (d, p.2)
  | _ => .no
section
variable {P : Program} {w : World} {K : PySem.W.Frag} {mg : Str → Option Value} {base : Heap}
theorem okDK {x qual : Str} {st : Stmt} {f : Addr} {fd : FuncData} {N ps : List Str} {k : Nat} {u : MS} (F : Fun K x qual st f fd) (S : FnScope N ps (defScope st))
    (hb : ∀ (cdv : Value) (A : Around) (outer : List Env) (s : Shared) (H : Hp) (E : XK), Room k (A.deeper (envOfC qual (defScope st) s.heap.objs.size f cdv)) → A.guards = some [] →
      NSs (cxOf (L2.CX P w) P w K mg base N qual (defScope st) f cdv A outer s H E) E (defBody st) u) : FnG P w K mg base (k + 1) f fd ps (spN K mg ps.length (runK N.length u)) := by
  refine fnG_of F S spN_len fun cdv A outer s H vs Q E hr hg h => ⟨_, (hb cdv A outer s H E hr hg).ps, ?_⟩
  obtain ⟨B, F, r, C, ds, hr, hd, hl, o⟩ := h
  refine ⟨B, F, r, _, C, hr, Sls.start hd, ?_⟩
  unfold runK at o
  cases hu : u (ds.map some ++ List.replicate (N.length - ds.length) none) C with
  | ok p =>
    obtain ⟨⟨fl, sl'⟩, C'⟩ := p
    rw [hu, R.bind_ok] at o
    intro F' r' H' e1 e2 hr'
    cases fl with
    | nx => exact fun s' _ => o F' r' H' .non e1 e2 hr' rfl
    | rt d => exact fun v hv => o F' r' H' v e1 e2 hr' hv
    | bk => exact False.elim o
    | ct => exact False.elim o
  | ex y Cy => rw [hu] at o; exact o
  | no => rw [hu] at o; exact o
theorem Cal.ofK {x : Str} {st : Stmt} {N ps : List Str} {k : Nat} {u : MS} (h : DefAt K mg x st ps) (S : FnScope N ps (defScope st))
    (hb : ∀ (f : Addr) (cdv : Value) (A : Around) (outer : List Env) (s : Shared) (H : Hp) (E : XK), Room k (A.deeper (envOfC x (defScope st) s.heap.objs.size f cdv)) → A.guards = some [] →
      NSs (cxOf (L2.CX P w) P w K mg base N x (defScope st) f cdv A outer s H E) E (defBody st) u) : Cal P w K mg base x (k + 1) ps.length (runK N.length u) := by
  obtain ⟨f, fd, h1, h2, h3⟩ := h
  exact ⟨f, fd, ps, okDK h1 S fun cdv A outer s H E hr hg => hb f cdv A outer s H E hr hg, h2, h1.kp, h3⟩
end
end Nv

namespace Nv
open PySem PySem.Spec PyProof.Rows L2
section
variable {K : PySem.W.Frag} {mg : Str → Option Value} {E : XK} {B F H : Hp} {r : List Addr} {C : Store} {Q : VK} {X : Cx} {a b e : Expr} {es : List Expr} {m ma mb mo : ME} {mas : MG (List D)} {pos p1 p2 p3 : Pos}
/-! (a, b, ..) = a list -/
def gLstT (K : PySem.W.Frag) (n : Nat) (t : TGs) : TG := fun v σ H Q => ∃ a xs, v = .ref a ∧ SqL K H a xs ∧ xs.length = n ∧ t xs σ H Q
theorem pg_lst {es : List Expr} {k n : Nat} {t : TGs} (hc : X.calm = true) (h : PGs X es t) (hn : (assignEach es X.env).length = n := by rfl) (hst : (assignEach es X.env).findIdx? (·.1) = none := by rfl) : PG X (.Tuple es k pos) (gLstT X.K n t) :=
  ⟨fun pins s σ H v u Q I r hw => by
    obtain ⟨a, xs, rfl, hq, hl, hw⟩ := hw
    cases r
    obtain ⟨its, rv, p, hz⟩ := I.list hq
    have hlen := rv.length
    rw [assign_Tuple]
    refine wpAny_bind (wpAny_standAt ?_)
    unfold unpack
    rw [hst, show (assignEach es X.env).length = its.toArray.size from by rw [hn, List.size_toArray]; omega]
    refine wpAny_bind (wpAny_holding (PySem.W.kun_itemsOf (I.ok.hd hc) p.isList fun h' hx => ?_))
    have I1 : Inv X pins σ H { s with heap := h' } := I.kept (t' := s.toks) fun b o q => hx b o (Nat.ne_of_lt (Heap.lt_size q)) q
    exact h.run pins _ σ H xs its Q I1 rv hw⟩
/-! (a, b, ..) = a tuple or a list -/
theorem pg_or {tg : Expr} {t t' : TG} (h : PG X tg t) (h' : PG X tg t') : PG X tg (fun v σ H Q => t v σ H Q ∨ t' v σ H Q) := ⟨fun pins s σ H v u Q I r hw => hw.elim (h.run pins s σ H v u Q I r) (h'.run pins s σ H v u Q I r)⟩
def gmSq (n : Nat) (gs : List D → Sl → Store → R (Sl × Store)) : MT := fun d sl C => match tupOf d with
  | some ds => if ds.length = n then gs ds sl C else .no
  | none => match lstOf C d with
    | some ds => if ds.length = n then gs ds sl C else .no
    | none => .no
theorem ng_sq {own : List Nat} {tgs : List Expr} {k n : Nat} {gs : List D → Sl → Store → R (Sl × Store)} (hc : X.calm = true) (h : NGs X E own tgs gs) (hn : (assignEach tgs X.env).length = n := by rfl)
    (hst : (assignEach tgs X.env).findIdx? (·.1) = none := by rfl) : NG X E own (.Tuple tgs k pos) (gmSq n gs) := ⟨pg_imp (pg_or (pg_tup hc h.pg hn hst) (pg_lst hc h.pg hn hst)) fun v s H Q q => by
    obtain ⟨B, F, r, sl, C, d, hr, hs, hd, o⟩ := q
    unfold gmSq at o
    split at o
    · rename_i ds e
      split at o
      · rename_i hl
        obtain ⟨a, vs, rfl, h2, h3⟩ := tupOf_ok hr hd e
        exact .inl ⟨a, vs, rfl, h2, by rw [← h3.length]; exact hl, B, F, r, sl, C, ds, hr, hs, h3, o⟩
      · exact False.elim o
    · split at o
      · rename_i ds e
        split at o
        · rename_i hl
          obtain ⟨a, vs, rfl, h2, h3⟩ := lstOf_ok hr hd e
          exact .inr ⟨a, vs, rfl, h2, by rw [← h3.length]; exact hl, B, F, r, sl, C, ds, hr, hs, h3, o⟩
        · exact False.elim o
      · exact False.elim o⟩
/-! a constant of the module that is a tuple -/
theorem gc_tup {x : Str} {a : Addr} {od : Option Addr} {its : Array Value} {n : Nat} {osl : Array (Option Value)} {ds : List D} {vs : List V} (hm : mg x = some (.ref a)) (l : K.lookup a = some ⟨.type "tuple", od, .seq its n, osl⟩)
    (hz : its.size ≤ sizeLine) (hv : Vals vs its.toList) (hr : ∀ (F : Hp) (r : List Addr), Reps K F r ds vs) : GlobC mg K x (.tup ds) :=
  ⟨.ref a, .ref a, hm, rfl, fun F r => ⟨a, vs, rfl, .inr ⟨_, its, n, l, rfl, rfl, hz, hv⟩, hr F r⟩⟩
end
end Nv

namespace Nv
open PySem PySem.Spec PyProof.Rows L2
section
variable {K : PySem.W.Frag} {mg : Str → Option Value} {E : XK} {B F H : Hp} {r : List Addr} {C : Store} {Q : VK} {X : Cx} {a b e o value : Expr} {es : List Expr} {m ma mb mo mv : ME} {mas : MG (List D)} {pos p1 p2 p3 : Pos}
/-! dicts whose keys are tuples of whole numbers and texts, asked by a tuple that is written there -/
def keyOf : D → Option Key
  | .int i => some (.inl i)
  | .str x => some (.inr x)
  | _ => none
theorem keyOf_ok {d : D} {v : V} {k : Key} (h : Rep K F r d v) (e : keyOf d = some k) : v = kV k := by
  cases d with
  | int i => cases e; exact h
  | str x => cases e; exact h
  | _ => cases e
section
variable {κ : Type} [DecidableEq κ]
def valD (kvs : List (κ × D)) (k : κ) : Option D := (kvs.find? fun kv => decide (kv.1 = k)).map (·.2)
def putD (kvs : List (κ × D)) (k : κ) (v : D) : List (κ × D) :=
  if (kvs.any fun kv => decide (kv.1 = k)) = true then kvs.map (fun kv => if kv.1 = k then (kv.1, v) else kv) else kvs ++ [(k, v)]
theorem val_ok {k : κ} : ∀ {kvs : List (κ × D)} {ws : List (κ × V)}, kvs.map (·.1) = ws.map (·.1) → Reps K F r (kvs.map (·.2)) (ws.map (·.2)) → ∀ {d : D}, valD kvs k = some d → ∃ v, valV ws k = some v ∧ Rep K F r d v
  | [], _, _, _, d, e => by cases e
  | kv :: kvs, [], h, _, _, _ => by cases h
  | kv :: kvs, w :: ws, h, hr, d, e => by
    obtain ⟨v, vs, e1, h1, h2⟩ := hr
    rw [List.map_cons, List.cons.injEq] at e1
    rw [List.map_cons, List.map_cons, List.cons.injEq] at h
    unfold valD valV at *
    rw [List.find?_cons] at e ⊢
    by_cases hk : kv.1 = k
    · rw [decide_eq_true hk] at e
      rw [decide_eq_true (h.1.symm.trans hk)]
      cases e
      exact ⟨w.2, rfl, by rw [e1.1]; exact h1⟩
    · rw [decide_eq_false hk] at e
      rw [decide_eq_false (fun q => hk (h.1.trans q))]
      exact val_ok h.2 (by rw [e1.2]; exact h2) e
theorem putD_keys {k : κ} {d : D} {v : V} {kvs : List (κ × D)} {ws : List (κ × V)} (h : kvs.map (·.1) = ws.map (·.1)) : (putD kvs k d).map (·.1) = (putK ws k v).map (·.1) := by
  have ha : (kvs.any fun kv => decide (kv.1 = k)) = (ws.any fun kv => decide (kv.1 = k)) := by
    rw [show (kvs.any fun kv => decide (kv.1 = k)) = (kvs.map (·.1)).any fun q => decide (q = k) from by rw [List.any_map]; rfl,
      show (ws.any fun kv => decide (kv.1 = k)) = (ws.map (·.1)).any fun q => decide (q = k) from by rw [List.any_map]; rfl, h]
  unfold putD putK
  rw [ha]
  split
  · rw [List.map_map, List.map_map]
    have e1 : ((·.1) ∘ fun kv : κ × D => if kv.1 = k then (kv.1, d) else kv) = (·.1) := funext fun kv => by
      show (if kv.1 = k then (kv.1, d) else kv).1 = kv.1
      split <;> rfl
    have e2 : ((·.1) ∘ fun kv : κ × V => if kv.1 = k then (kv.1, v) else kv) = (·.1) := funext fun kv => by
      show (if kv.1 = k then (kv.1, v) else kv).1 = kv.1
      split <;> rfl
    rw [e1, e2, h]
  · rw [List.map_append, List.map_append, h]
    rfl
theorem put_map {k : κ} {d : D} {v : V} (hd : Rep K F r d v) : ∀ {kvs : List (κ × D)} {ws : List (κ × V)}, kvs.map (·.1) = ws.map (·.1) → Reps K F r (kvs.map (·.2)) (ws.map (·.2)) →
    Reps K F r ((kvs.map fun kv => if kv.1 = k then (kv.1, d) else kv).map (·.2)) ((ws.map fun kv => if kv.1 = k then (kv.1, v) else kv).map (·.2))
  | [], [], _, _ => rfl
  | [], _ :: _, h, _ => by cases h
  | kv :: kvs, [], h, _ => by cases h
  | kv :: kvs, w :: ws, h, hr => by
    obtain ⟨x, xs, e1, h1, h2⟩ := hr
    rw [List.map_cons, List.cons.injEq] at e1
    rw [List.map_cons, List.map_cons, List.cons.injEq] at h
    refine ⟨(if w.1 = k then (w.1, v) else w).2, _, rfl, ?_, put_map hd h.2 (by rw [e1.2]; exact h2)⟩
    show Rep K F r (if kv.1 = k then (kv.1, d) else kv).2 (if w.1 = k then (w.1, v) else w).2
    by_cases hk : kv.1 = k
    · rw [if_pos hk, if_pos (h.1.symm.trans hk)]
      exact hd
    · rw [if_neg hk, if_neg (fun q => hk (h.1.trans q))]
      show Rep K F r kv.2 w.2
      rw [e1.1]
      exact h1
theorem putD_reps {k : κ} {d : D} {v : V} {kvs : List (κ × D)} {ws : List (κ × V)} (h : kvs.map (·.1) = ws.map (·.1)) (hr : Reps K F r (kvs.map (·.2)) (ws.map (·.2))) (hd : Rep K F r d v) :
    Reps K F r ((putD kvs k d).map (·.2)) ((putK ws k v).map (·.2)) := by
  have ha : (kvs.any fun kv => decide (kv.1 = k)) = (ws.any fun kv => decide (kv.1 = k)) := by
    rw [show (kvs.any fun kv => decide (kv.1 = k)) = (kvs.map (·.1)).any fun q => decide (q = k) from by rw [List.any_map]; rfl,
      show (ws.any fun kv => decide (kv.1 = k)) = (ws.map (·.1)).any fun q => decide (q = k) from by rw [List.any_map]; rfl, h]
  unfold putD putK
  rw [ha]
  split
  · exact put_map hd h hr
  · rw [List.map_append, List.map_append]
    exact hr.append ⟨v, [], rfl, hd, rfl⟩
end
end
end Nv

namespace Nv
open PySem PySem.Spec PyProof.Rows L2
theorem lstAt_lst {C : Store} {k : Nat} {ds : List D} (h : C[k]? = some (.lst ds)) : lstAt C k = some ds := by unfold lstAt; rw [h]
theorem mutAt_lst {C : Store} {k : Nat} {ds : List D} (h : C[k]? = some (.lst ds)) : mutAt C k = some ds := by unfold mutAt; rw [h]
theorem get_set_self {C : Store} {k : Nat} {c d : Cell} (h : C[k]? = some c) : (C.set k d)[k]? = some d := List.getElem?_set_self (List.getElem?_eq_some_iff.mp h).1
/-- all cells but k stay -/
def Upd (k : Nat) (C C' : Store) : Prop := C'.length = C.length ∧ ∀ i, i ≠ k → C'[i]? = C[i]?
theorem Upd.refl (k : Nat) (C : Store) : Upd k C C := ⟨rfl, fun _ _ => rfl⟩
theorem Upd.trans {k : Nat} {C C1 C2 : Store} (a : Upd k C C1) (b : Upd k C1 C2) : Upd k C C2 := ⟨b.1.trans a.1, fun i hi => (b.2 i hi).trans (a.2 i hi)⟩
theorem Upd.set (k : Nat) (C : Store) (c : Cell) : Upd k C (C.set k c) := ⟨by simp, fun i hi => List.getElem?_set_ne (Ne.symm hi)⟩
/-! fin -/
theorem closedD_mono {n m : Nat} (h : n ≤ m) (d : D) : closedD n d = true → closedD m d = true := closed_up h d
theorem closedDs_mono {n m : Nat} (h : n ≤ m) (ds : List D) : closedDs n ds = true → closedDs m ds = true := closeds_up h ds
@[simp] theorem closedDs_ints (n : Nat) : ∀ l : List Int, closedDs n (l.map D.int) = true
  | [] => rfl
  | x :: l => by simp [closedDs, closedD, closedDs_ints n l]
@[simp] theorem closedDs_strs (n : Nat) : ∀ l : List Str, closedDs n (l.map D.str) = true
  | [] => rfl
  | x :: l => by simp [closedDs, closedD, closedDs_strs n l]
@[simp] theorem closedDs_bls (n : Nat) : ∀ l : List Bool, closedDs n (l.map D.bl) = true
  | [] => rfl
  | x :: l => by simp [closedDs, closedD, closedDs_bls n l]
theorem fin_cond {C C' : Store} {k : Nat} {c : Cell} (u : Upd k C C') (hk : C'[k]? = some c ∧ closedC C.length c = true ∨ C.length ≤ k) : C.length ≤ C'.length ∧ ∀ (i : Nat), i < C.length → C'[i]? = C[i]? ∨ ∃ c, C'[i]? = some c ∧ closedC C.length c = true :=
  ⟨by rw [u.1]; exact Nat.le_refl _, fun i hi => by
    by_cases h : i = k
    · subst h
      rcases hk with hk | hk
      · exact .inr ⟨c, hk⟩
      · omega
    · exact .inl (u.2 i h)⟩
def flatR : D → Bool
  | .cell _ => false
  | .tup _ => false
  | _ => true
/-- a value that is no cell -/
theorem fin_val {C C' : Store} {d : D} (hc : C.length ≤ C'.length ∧ ∀ (i : Nat), i < C.length → C'[i]? = C[i]? ∨ ∃ c, C'[i]? = some c ∧ closedC C.length c = true) (hf : flatR d = true) (hd : closedD C.length d = true) :
    fin C d C' = .ok (d, C'.take C.length) := by
  unfold fin
  rw [if_pos hc]
  cases d with
  | cell k => cases hf
  | tup ds => cases hf
  | _ => simp only [hd, if_true]
theorem same_cond (C X : Store) : C.length ≤ (C ++ X).length ∧ ∀ (i : Nat), i < C.length → (C ++ X)[i]? = C[i]? ∨ ∃ c, (C ++ X)[i]? = some c ∧ closedC C.length c = true :=
  ⟨by simp, fun i hi => .inl (List.getElem?_append_left hi)⟩
theorem fin_pure {C : Store} (X : Store) {d : D} (hf : flatR d = true) (hd : closedD 0 d = true) : fin C d (C ++ X) = .ok (d, C) := by
  rw [fin_val (same_cond C X) hf (closedD_mono (Nat.zero_le _) d hd), List.take_left']
  rfl
theorem fin_pure0 {C : Store} {d : D} (hf : flatR d = true) (hd : closedD 0 d = true) : fin C d C = .ok (d, C) := by
  have := fin_pure (C := C) [] hf hd
  rwa [List.append_nil] at this
/-- the cell that comes at C's end -/
theorem fin_cell {C : Store} {X Y : Store} {c : Cell} (hc : closedC 0 c = true) : fin C (.cell (C.length + X.length)) (C ++ X ++ c :: Y) = .ok (.cell C.length, C ++ [c]) := by
  have hcl : closedC C.length c = true := by
    cases c with
    | lst ds => exact closedDs_mono (Nat.zero_le _) ds hc
    | dk ds => exact closedDs_mono (Nat.zero_le _) _ hc
    | dt ds => exact closedDs_mono (Nat.zero_le _) _ hc
    | fz ds => exact closedDs_mono (Nat.zero_le _) ds hc
    | dn ds => exact closedDs_mono (Nat.zero_le _) _ hc
    | obj c ds => exact closedDs_mono (Nat.zero_le _) _ hc
    | lk ds => exact closedDs_mono (Nat.zero_le _) _ hc
  have e : C ++ X ++ c :: Y = C ++ (X ++ c :: Y) := by simp
  unfold fin
  rw [e, if_pos (same_cond C _)]
  have e2 : (C ++ (X ++ c :: Y))[C.length + X.length]? = some c := by
    rw [List.getElem?_append_right (by omega), List.getElem?_append_right (by omega)]
    simp
  simp only [e2, hcl, if_true]
  rw [if_neg (by omega), List.take_left']
  rfl
theorem fin_cell0 {C : Store} {c : Cell} (hc : closedC 0 c = true) : fin C (.cell C.length) (C ++ [c]) = .ok (.cell C.length, C ++ [c]) := by
  have := fin_cell (C := C) (X := []) (Y := []) hc
  simpa using this
/-! frozen results -/
theorem frzL_id {f : D → Store → Option (D × Store)} (C : Store) : ∀ ds : List D, (∀ d ∈ ds, f d C = some (d, C)) → frzL f ds C = some (ds, C)
  | [], _ => rfl
  | d :: ds, h => by
    unfold frzL
    rw [h d List.mem_cons_self, Option.bind_some, frzL_id C ds fun x hx => h x (List.mem_cons_of_mem _ hx)]
    rfl
theorem closed_mem {n : Nat} : ∀ {ds : List D} {d : D}, closedDs n ds = true → d ∈ ds → closedD n d = true
  | x :: ds, d, h, hm => by
    unfold closedDs at h
    rw [Bool.and_eq_true] at h
    rcases List.mem_cons.mp hm with rfl | hm
    · exact h.1
    · exact closed_mem h.2 hm
theorem frz_id : ∀ (n : Nat) (C : Store) (d : D), closedD 0 d = true → frz n d C = some (d, C)
  | 0, _, _, _ => rfl
  | n + 1, C, d, h => by
    cases d with
    | cell k => simp [closedD] at h
    | tup ds =>
      show (frzL (frz n) ds C).bind _ = _
      rw [frzL_id C ds fun x hx => frz_id n C x (closed_mem h hx)]
      rfl
    | lst ds =>
      show (frzL (frz n) ds C).bind _ = _
      rw [frzL_id C ds fun x hx => frz_id n C x (closed_mem h hx)]
      rfl
    | _ => rfl
end Nv

namespace Nv
open PySem PySem.Spec PyProof.Rows L2
/-! what holds of a mirror's end -/
def W {S : Type} (o : R (S × Store)) (Q : S → Store → Prop) : Prop := ∃ a C, o = .ok (a, C) ∧ Q a C
def WS (o : RS) (Q : Fl → Sl → Store → Prop) : Prop := ∃ f sl C, o = .ok ((f, sl), C) ∧ Q f sl C
section
variable {S S2 : Type} {Q : S → Store → Prop} {QD : D → Store → Prop} {QB : Bool → Store → Prop} {QL : List D → Store → Prop} {QS : Fl → Sl → Store → Prop} {sl : Sl} {C C1 C2 : Store} {m ma mb mc : ME} {t ta tb : MG Bool} {mas : MG (List D)} {u u1 u2 : MS}
theorem W.ok {a : S} (h : Q a C) : W (.ok (a, C)) Q := ⟨a, C, rfl, h⟩
theorem W.of {o : R (S × Store)} {a : S} (e : o = .ok (a, C)) (h : Q a C) : W o Q := ⟨a, C, e, h⟩
theorem W.imp {o : R (S × Store)} {Q' : S → Store → Prop} (h : W o Q) (hq : ∀ a C, Q a C → Q' a C) : W o Q' := by
  obtain ⟨a, C, e, q⟩ := h
  exact ⟨a, C, e, hq a C q⟩
theorem W.bind {o : R (S2 × Store)} {k : S2 × Store → R (S × Store)} (h : W o fun a C => W (k (a, C)) Q) : W (o.bind k) Q := by
  obtain ⟨a, C, e, b, C', e', q⟩ := h
  exact ⟨b, C', by rw [e]; exact e', q⟩
theorem W.bindS {o : R (S2 × Store)} {k : S2 × Store → RS} (h : W o fun a C => WS (k (a, C)) QS) : WS (o.bind k) QS := by
  obtain ⟨a, C, e, f, sl, C', e', q⟩ := h
  exact ⟨f, sl, C', by rw [e]; exact e', q⟩
theorem WS.bindS {o : RS} {k : (Fl × Sl) × Store → RS} (h : WS o fun f sl C => WS (k ((f, sl), C)) QS) : WS (o.bind k) QS := by
  obtain ⟨f, sl, C, e, g, sl', C', e', q⟩ := h
  exact ⟨g, sl', C', by rw [e]; exact e', q⟩
theorem WS.bind {o : RS} {k : (Fl × Sl) × Store → R (S × Store)} (h : WS o fun f sl C => W (k ((f, sl), C)) Q) : W (o.bind k) Q := by
  obtain ⟨f, sl, C, e, b, C', e', q⟩ := h
  exact ⟨b, C', by rw [e]; exact e', q⟩
theorem WS.ok {f : Fl} (h : QS f sl C) : WS (.ok ((f, sl), C)) QS := ⟨f, sl, C, rfl, h⟩
theorem WS.imp {o : RS} {Q' : Fl → Sl → Store → Prop} (h : WS o QS) (hq : ∀ f sl C, QS f sl C → Q' f sl C) : WS o Q' := by
  obtain ⟨f, sl, C, e, q⟩ := h
  exact ⟨f, sl, C, e, hq f sl C q⟩
/-! expressions -/
theorem w_var {i : Nat} {d : D} (e : sl[i]? = some (some d)) (h : QD d C) : W (mVar i sl C) QD := ⟨d, C, by unfold mVar; rw [e], h⟩
theorem w_c {d : D} (h : QD d C) : W (mC d sl C) QD := ⟨d, C, rfl, h⟩
theorem w_2 {g : D → D → Store → RE} (h : W (ma sl C) fun x C1 => W (mb sl C1) fun y C2 => W (g x y C2) QD) : W (m2 g ma mb sl C) QD := W.bind (h.imp fun _ _ h => W.bind h)
theorem w_1 {g : D → Store → RE} (h : W (ma sl C) fun x C1 => W (g x C1) QD) : W (m1 g ma sl C) QD := W.bind h
theorem w_T (h : W (m sl C) fun x C1 => ∃ b, x = .bl b ∧ QB b C1) : W (mT m sl C) QB := W.bind (h.imp fun x C h => by
  obtain ⟨b, rfl, q⟩ := h
  exact W.ok q)
theorem w_tAnd (h : W (ta sl C) fun b C1 => if b = true then W (tb sl C1) QB else QB false C1) : W (tAndM ta tb sl C) QB := W.bind (h.imp fun b C h => by
  cases b with
  | true => exact h
  | false => exact W.ok h)
theorem w_tOr (h : W (ta sl C) fun b C1 => if b = true then QB true C1 else W (tb sl C1) QB) : W (tOrM ta tb sl C) QB := W.bind (h.imp fun b C h => by
  cases b with
  | false => exact h
  | true => exact W.ok h)
theorem w_tNot (h : W (ta sl C) fun b C1 => QB (!b) C1) : W (tNotM ta sl C) QB := W.bind (h.imp fun b C h => W.ok h)
theorem w_and (h : W (ma sl C) fun x C1 => ∃ b, x = .bl b ∧ if b = true then W (mb sl C1) QD else QD (.bl false) C1) : W (mAnd ma mb sl C) QD := W.bind (h.imp fun x C h => by
  obtain ⟨b, rfl, h⟩ := h
  cases b with
  | true => exact h
  | false => exact W.ok h)
theorem w_or (h : W (ma sl C) fun x C1 => ∃ b, x = .bl b ∧ if b = true then QD (.bl true) C1 else W (mb sl C1) QD) : W (mOr ma mb sl C) QD := W.bind (h.imp fun x C h => by
  obtain ⟨b, rfl, h⟩ := h
  cases b with
  | false => exact h
  | true => exact W.ok h)
theorem w_not (h : W (ma sl C) fun x C1 => ∃ b, x = .bl b ∧ QD (.bl (!b)) C1) : W (mNot ma sl C) QD := W.bind (h.imp fun x C h => by
  obtain ⟨b, rfl, h⟩ := h
  exact W.ok h)
theorem w_if (h : W (t sl C) fun b C1 => if b = true then W (ma sl C1) QD else W (mb sl C1) QD) : W (mIf t ma mb sl C) QD := W.bind (h.imp fun b C h => by
  cases b with
  | true => exact h
  | false => exact h)
theorem w_ch {g g' : D → D → Store → RE} (h : W (ma sl C) fun x C1 => W (mb sl C1) fun y C2 => W (g x y C2) fun z C3 => ∃ b, z = .bl b ∧ if b = true then W (mc sl C3) fun w C4 => W (g' y w C4) QD else QD (.bl false) C3) : W (mCh g g' ma mb mc sl C) QD :=
  W.bind (h.imp fun _ _ h => W.bind (h.imp fun _ _ h => W.bind (h.imp fun z C3 h => by
    obtain ⟨b, rfl, h⟩ := h
    cases b with
    | true => exact W.bind h
    | false => exact W.ok h)))
theorem w_aNil (h : QL [] C) : W (aNil sl C) QL := W.ok h
theorem w_aCons (h : W (ma sl C) fun x C1 => W (mas sl C1) fun xs C2 => QL (x :: xs) C2) : W (aCons ma mas sl C) QL := W.bind (h.imp fun _ _ h => W.bind (h.imp fun _ _ h => W.ok h))
theorem w_newF {ds : List D} (h : QD (.lst ds) C) : W (newL false ds C) QD := W.ok h
theorem w_newC {ds : List D} (h : QD (.cell C.length) (C ++ [.lst ds])) : W (newL true ds C) QD := W.ok h
theorem w_lst {c : Bool} (h : W (mas sl C) fun xs C1 => xs.length ≤ sizeLine ∧ W (newL c xs C1) QD) : W (mLst c mas sl C) QD := W.bind (h.imp fun xs C1 h => by
  simp only [if_pos h.1]
  exact h.2)
theorem w_tup (h : W (mas sl C) fun xs C1 => xs.length ≤ sizeLine ∧ QD (.tup xs) C1) : W (mTup mas sl C) QD := W.bind (h.imp fun xs C1 h => by
  simp only [if_pos h.1]
  exact W.ok h.2)
theorem w_cb {g : List D → Store → RE} (h : W (mas sl C) fun xs C1 => W (g xs C1) QD) : W (mCB g mas sl C) QD := W.bind h
theorem w_F {n : Nat} {mf : MF} (h : W (mas sl C) fun xs C1 => xs.length = n ∧ W (mf xs C1) QD) : W (mF n mf mas sl C) QD := W.bind (h.imp fun xs C1 h => by
  simp only [if_pos h.1]
  exact h.2)
theorem w_rep {c : Bool} (h : W (mas sl C) fun xs C1 => xs.length ≤ sizeLine ∧ W (mb sl C1) fun y C2 => ∃ k, y = .int k ∧ lowI k = true ∧ xs.length * k.toNat ≤ sizeLine ∧ W (newL c (List.replicate k.toNat xs).flatten C2) QD) : W (mRep c mas mb sl C) QD :=
  W.bind (h.imp fun xs C1 h => by
    simp only [if_pos h.1]
    refine W.bind (h.2.imp fun y C2 h => ?_)
    obtain ⟨k, rfl, h1, h2, h3⟩ := h
    simp only [intOf, if_pos (And.intro h1 h2)]
    exact h3)
theorem w_sl {c : Bool} {ml mh : MG (Option Int)} (h : W (ma sl C) fun x C1 => W (ml sl C1) fun l C2 => W (mh sl C2) fun u C3 => W (gSl c x l u C3) QD) : W (mSl c ma ml mh sl C) QD := W.bind (h.imp fun _ _ h => W.bind (h.imp fun _ _ h => W.bind h))
theorem w_oNone {QO : Option Int → Store → Prop} (h : QO none C) : W (oNone sl C) QO := W.ok h
theorem w_oSome {QO : Option Int → Store → Prop} (h : W (m sl C) fun x C1 => ∃ i, x = .int i ∧ QO (some i) C1) : W (oSome m sl C) QO := W.bind (h.imp fun x C1 h => by
  obtain ⟨i, rfl, h⟩ := h
  exact W.ok h)
theorem w_mt {chk : Store → D → Bool} {g : D → List D → Store → RE} (h : W (ma sl C) fun x C1 => chk C1 x = true ∧ W (mas sl C1) fun xs C2 => W (g x xs C2) QD) : W (mMt chk g ma mas sl C) QD := W.bind (h.imp fun x C1 h => by
  simp only [if_pos h.1]
  exact W.bind h.2)
theorem w_mt0 {chk : Store → D → Bool} {g : D → List D → Store → RE} (h : W (ma sl C) fun x C1 => chk C1 x = true ∧ W (g x [] C1) QD) : W (mMt0 chk g ma sl C) QD := W.bind (h.imp fun x C1 h => by
  simp only [if_pos h.1]
  exact h.2)
/-! statements -/
theorem w_nil (h : QS .nx sl C) : WS (sNil sl C) QS := WS.ok h
def thenS (u2 : MS) (QS : Fl → Sl → Store → Prop) : Fl → Sl → Store → Prop := fun f sl C => match f with
  | .nx => WS (u2 sl C) QS
  | f => QS f sl C
theorem w_seq (h : WS (u1 sl C) (thenS u2 QS)) : WS (sSeq u1 u2 sl C) QS := WS.bindS (h.imp fun f sl C h => by
  cases f with
  | nx => exact h
  | rt d => exact WS.ok h
  | bk => exact WS.ok h
  | ct => exact WS.ok h)
theorem w_then (h : WS (u2 sl C) QS) : thenS u2 QS .nx sl C := h
theorem w_thenR {d : D} (h : QS (.rt d) sl C) : thenS u2 QS (.rt d) sl C := h
theorem w_thenB (h : QS .bk sl C) : thenS u2 QS .bk sl C := h
theorem w_thenC (h : QS .ct sl C) : thenS u2 QS .ct sl C := h
theorem w_bk (h : QS .bk sl C) : WS (sBk sl C) QS := WS.ok h
theorem w_ct (h : QS .ct sl C) : WS (sCt sl C) QS := WS.ok h
theorem w_drop (h : W (m sl C) fun _ C1 => QS .nx sl C1) : WS (sDrop m sl C) QS := W.bindS (h.imp fun _ _ h => WS.ok h)
theorem w_ret (h : W (m sl C) fun x C1 => QS (.rt x) sl C1) : WS (sRet m sl C) QS := W.bindS (h.imp fun _ _ h => WS.ok h)
theorem w_retN (h : QS (.rt .non) sl C) : WS (sRetN sl C) QS := WS.ok h
theorem w_sif (h : W (t sl C) fun b C1 => if b = true then WS (u1 sl C1) QS else WS (u2 sl C1) QS) : WS (sIf t u1 u2 sl C) QS := W.bindS (h.imp fun b C h => by
  cases b with
  | true => exact h
  | false => exact h)
theorem w_asg {g : MT} (h : W (m sl C) fun x C1 => W (g x sl C1) fun sl2 C2 => QS .nx sl2 C2) : WS (sAsg m g sl C) QS := W.bindS (h.imp fun _ _ h => W.bindS (h.imp fun _ _ h => WS.ok h))
theorem w_gmN {i : Nat} {d : D} {Q : Sl → Store → Prop} (h : Q (sl.set i (some d)) C) : W (gmN i d sl C) Q := W.ok h
theorem w_gmNil {Q : Sl → Store → Prop} (h : Q sl C) : W (gmNil [] sl C) Q := W.ok h
theorem w_gmCons {g : MT} {gs : List D → Sl → Store → R (Sl × Store)} {d : D} {ds : List D} {Q : Sl → Store → Prop} (h : W (g d sl C) fun sl1 C1 => W (gs ds sl1 C1) Q) : W (gmCons g gs (d :: ds) sl C) Q := W.bind h
theorem w_gmTup {n : Nat} {gs : List D → Sl → Store → R (Sl × Store)} {ds : List D} {Q : Sl → Store → Prop} (hl : ds.length = n) (h : W (gs ds sl C) Q) : W (gmTup n gs (.tup ds) sl C) Q := by
  unfold gmTup tupOf
  simp only [if_pos hl]
  exact h
theorem w_par {i j : Nat} (h : W (mas sl C) fun xs C1 => ∃ x y, xs = [x, y] ∧ QS .nx ((sl.set i (some x)).set j (some y)) C1) : WS (sPar i j mas sl C) QS := W.bindS (h.imp fun xs C1 h => by
  obtain ⟨x, y, rfl, h⟩ := h
  exact WS.ok h)
theorem w_aug {i : Nat} {g : D → D → Store → RE} {x : D} (e : sl[i]? = some (some x)) (h : W (m sl C) fun y C1 => W (g x y C1) fun z C2 => QS .nx (sl.set i (some z)) C2) : WS (sAug i g m sl C) QS := by
  unfold sAug
  rw [e]
  exact W.bindS (h.imp fun _ _ h => W.bindS (h.imp fun _ _ h => WS.ok h))
theorem w_gmSub {mo mi : ME} {d : D} {Q : Sl → Store → Prop} (h : W (mo sl C) fun o C1 => W (mi sl C1) fun i C2 => W (gSet o i d C2) fun _ C3 => Q sl C3) : W (gmSub mo mi d sl C) Q := W.bind (h.imp fun _ _ h => W.bind (h.imp fun _ _ h => W.bind (h.imp fun _ _ h => W.ok h)))
/-! operations -/
theorem w_addI {c : Bool} {i j : Int} (h : QD (.int (i + j)) C) : W (gAdd c (.int i) (.int j) C) QD := W.ok h
theorem w_addL {c : Bool} {a b : List D} (hl : a.length + b.length ≤ sizeLine) (h : W (newL c (a ++ b) C) QD) : W (gAdd c (.lst a) (.lst b) C) QD := by
  show W (if a.length + b.length ≤ sizeLine then newL c (a ++ b) C else .no) QD
  rw [if_pos hl]
  exact h
theorem w_subI {i j : Int} (h : QD (.int (i - j)) C) : W (gSub (.int i) (.int j) C) QD := W.ok h
theorem w_negI {i : Int} (h : QD (.int (-i)) C) : W (gNeg (.int i) C) QD := W.ok h
theorem w_mulI {i j : Int} (hs : smallI i = true ∨ smallI j = true ∨ (bigI i = true ∧ bigI j = true)) (h : QD (.int (i * j)) C) : W (gMul (.int i) (.int j) C) QD := by
  refine W.of (a := .int (i * j)) (C := C) ?_ h
  show (if (smallI i || smallI j || (bigI i && bigI j)) = true then R.ok (D.int (i * j), C) else .no) = _
  rw [if_pos]
  rcases hs with h | h | ⟨h1, h2⟩
  · rw [h]; simp
  · rw [h]; simp
  · rw [h1, h2]; simp
theorem w_divI {i j : Int} (h0 : 0 < j) (h1 : j ≤ 10 ^ 60) (h : QD (.int (i / j)) C) : W (gDiv (.int i) (.int j) C) QD := by
  refine W.of (a := .int (i / j)) (C := C) ?_ h
  show (if 0 < j ∧ j ≤ 10 ^ 60 then R.ok (D.int (i / j), C) else .no) = _
  rw [if_pos ⟨h0, h1⟩]
theorem w_modI {i j : Int} (h0 : 0 < j) (h : QD (.int (i % j)) C) : W (gMod (.int i) (.int j) C) QD := by
  refine W.of (a := .int (i % j)) (C := C) ?_ h
  show (if 0 < j then R.ok (D.int (i % j), C) else .no) = _
  rw [if_pos h0]
theorem w_powI {i j : Int} (h0 : 0 ≤ j) (h1 : j ≤ 1000) (h2 : -powLine < i) (h3 : i < powLine) (h : QD (.int (i ^ j.toNat)) C) : W (gPow (.int i) (.int j) C) QD := by
  refine W.of (a := .int (i ^ j.toNat)) (C := C) ?_ h
  show (if 0 ≤ j ∧ j ≤ 1000 ∧ -powLine < i ∧ i < powLine then R.ok (D.int (i ^ j.toNat), C) else .no) = _
  rw [if_pos ⟨h0, h1, h2, h3⟩]
theorem w_ltI {i j : Int} (h : QD (.bl (decide (i < j))) C) : W (gLt (.int i) (.int j) C) QD := W.ok h
theorem w_leI {i j : Int} (h : QD (.bl (decide (i ≤ j))) C) : W (gLe (.int i) (.int j) C) QD := W.ok h
theorem w_gtI {i j : Int} (h : QD (.bl (decide (j < i))) C) : W (gGt (.int i) (.int j) C) QD := W.ok h
theorem w_geI {i j : Int} (h : QD (.bl (decide (j ≤ i))) C) : W (gGe (.int i) (.int j) C) QD := W.ok h
theorem w_eqI {i j : Int} (h : QD (.bl (decide (i = j))) C) : W (gEq (.int i) (.int j) C) QD := by
  refine W.of (a := .bl (decide (i = j))) (C := C) ?_ h
  show (if (SeqAt.shaped (.int i) && SeqAt.shaped (.int j)) = true then R.ok (D.bl (PyData.eqv (.int i) (.int j)), C) else .no) = _
  have e : (SeqAt.shaped (.int i) && SeqAt.shaped (.int j)) = true := rfl
  simp only [e, if_true]
  show R.ok (D.bl (i == j), C) = _
  rw [show (i == j) = decide (i = j) from by rw [Bool.eq_iff_iff]; simp]
theorem w_neI {i j : Int} (h : QD (.bl (!decide (i = j))) C) : W (gNe (.int i) (.int j) C) QD := by
  refine W.of (a := .bl (!decide (i = j))) (C := C) ?_ h
  show (if (SeqAt.shaped (.int i) && SeqAt.shaped (.int j)) = true then R.ok (D.bl (!PyData.eqv (.int i) (.int j)), C) else .no) = _
  have e : (SeqAt.shaped (.int i) && SeqAt.shaped (.int j)) = true := rfl
  simp only [e, if_true]
  show R.ok (D.bl (!(i == j)), C) = _
  rw [show (i == j) = decide (i = j) from by rw [Bool.eq_iff_iff]; simp]
theorem w_eqS {i j : Str} (h : QD (.bl (decide (i = j))) C) : W (gEq (.str i) (.str j) C) QD := W.ok h
theorem w_neS {i j : Str} (h : QD (.bl (!decide (i = j))) C) : W (gNe (.str i) (.str j) C) QD := W.ok h
/-- of values -/
theorem w_eqP {x y : D} {p q : PyData} (hx : toP C x = some p) (hy : toP C y = some q) (hp : SeqAt.shaped p = true) (hq : SeqAt.shaped q = true) (hn : ∀ a, x ≠ .str a) (h : QD (.bl (PyData.eqv p q)) C) : W (gEq x y C) QD := by
  refine W.of (a := .bl (PyData.eqv p q)) (C := C) ?_ h
  unfold gEq
  split
  · exact absurd rfl (hn _)
  · unfold gEq0
    simp only [hx, hy, hp, hq]
    rfl
theorem w_neP {x y : D} {p q : PyData} (hx : toP C x = some p) (hy : toP C y = some q) (hp : SeqAt.shaped p = true) (hq : SeqAt.shaped q = true) (hn : ∀ a, x ≠ .str a) (h : QD (.bl (!PyData.eqv p q)) C) : W (gNe x y C) QD := by
  refine W.of (a := .bl (!PyData.eqv p q)) (C := C) ?_ h
  unfold gNe
  split
  · exact absurd rfl (hn _)
  · unfold gNe0
    simp only [hx, hy, hp, hq]
    rfl
theorem w_eqB {a b : Bool} (h : QD (.bl (decide (a = b))) C) : W (gEq (.bl a) (.bl b) C) QD := by
  refine w_eqP rfl rfl rfl rfl (fun a e => by cases e) ?_
  have : PyData.eqv (.bool a) (.bool b) = decide (a = b) := by cases a <;> cases b <;> decide
  rwa [this]
theorem w_neB {a b : Bool} (h : QD (.bl (!decide (a = b))) C) : W (gNe (.bl a) (.bl b) C) QD := by
  refine w_neP rfl rfl rfl rfl (fun a e => by cases e) ?_
  have : PyData.eqv (.bool a) (.bool b) = decide (a = b) := by cases a <;> cases b <;> decide
  rwa [this]
theorem w_ixL {ds : List D} {i : Int} {d : D} (e : atI ds i = some d) (h : QD d C) : W (gIx (.lst ds) (.int i) C) QD := by
  refine W.of (a := d) (C := C) ?_ h
  show (match (some ds).bind (fun ds => atI ds i) with
      | some d => R.ok (d, C)
      | none => .no) = _
  rw [Option.bind_some, e]
theorem w_ixT {ds : List D} {i : Int} {d : D} (e : atI ds i = some d) (h : QD d C) : W (gIx (.tup ds) (.int i) C) QD := by
  refine W.of (a := d) (C := C) ?_ h
  show (match (some ds).bind (fun ds => atI ds i) with
      | some d => R.ok (d, C)
      | none => .no) = _
  rw [Option.bind_some, e]
theorem w_ixC {k : Nat} {ds : List D} {i : Int} {d : D} (hk : C[k]? = some (.lst ds)) (e : atI ds i = some d) (h : QD d C) : W (gIx (.cell k) (.int i) C) QD := by
  refine W.of (a := d) (C := C) ?_ h
  show (match (lstAt C k).bind (fun ds => atI ds i) with
      | some d => R.ok (d, C)
      | none => .no) = _
  rw [lstAt_lst hk, Option.bind_some, e]
theorem w_set {k n : Nat} {ds : List D} {i : Int} {d : D} {Q : Unit → Store → Prop} (hk : C[k]? = some (.lst ds)) (e : ixN ds.length i = some n) (h : Q () (C.set k (.lst (ds.set n d)))) : W (gSet (.cell k) (.int i) d C) Q := by
  refine W.of (a := ()) (C := C.set k (.lst (ds.set n d))) ?_ h
  show (match (mutAt C k).map (fun ds => (k, ds)), some i with
    | some (k, xs), some j => match ixN xs.length j with
      | some n => R.ok ((), C.set k (.lst (xs.set n d)))
      | none => .no
    | _, _ => .no) = _
  rw [mutAt_lst hk]
  simp only [Option.map_some, e]
theorem w_append {k : Nat} {ds : List D} {d : D} (hk : C[k]? = some (.lst ds)) (hl : ds.length < sizeLine) (h : QD .non (C.set k (.lst (ds ++ [d])))) : W (gAppend (.cell k) [d] C) QD := by
  refine W.of (a := .non) (C := C.set k (.lst (ds ++ [d]))) ?_ h
  show (match (mutAt C k).map (fun ds => (k, ds)), [d] with
    | some (i, xs), [y] => if xs.length < sizeLine then R.ok (D.non, C.set i (.lst (xs ++ [y]))) else .no
    | _, _ => .no) = _
  rw [mutAt_lst hk]
  simp only [Option.map_some, if_pos hl]
theorem w_chkC {k : Nat} {ds : List D} (hk : C[k]? = some (.lst ds)) : isL C (.cell k) = true := by
  unfold isL
  show (lstAt C k).isSome = true
  rw [lstAt_lst hk]
  rfl
theorem w_lenL {ds : List D} (h : QD (.int ds.length) C) : W (on1 gLen [.lst ds] C) QD := W.ok h
theorem w_lenT {ds : List D} (h : QD (.int ds.length) C) : W (on1 gLen [.tup ds] C) QD := W.ok h
theorem w_lenC {k : Nat} {ds : List D} (hk : C[k]? = some (.lst ds)) (h : QD (.int ds.length) C) : W (on1 gLen [.cell k] C) QD := by
  refine W.of (a := .int ds.length) (C := C) ?_ h
  show (match lstAt C k with
    | some ds => R.ok (D.int ds.length, C)
    | none => .no) = _
  rw [lstAt_lst hk]
theorem w_max2 {i j : Int} (h : QD (.int (max i j)) C) : W (on2 gMax2 [.int i, .int j] C) QD := W.ok h
theorem w_min2 {i j : Int} (h : QD (.int (min i j)) C) : W (on2 gMin2 [.int i, .int j] C) QD := W.ok h
theorem w_intI {i : Int} (h : QD (.int i) C) : W (on1 gInt [.int i] C) QD := W.ok h
theorem w_intB {b : Bool} (h : QD (.int (if b then 1 else 0)) C) : W (on1 gInt [.bl b] C) QD := W.ok h
theorem w_rg {c : Bool} {i j : Int} (hl : (lowI i && lowI j) = true) (h : W (newL c (rangeD i j) C) QD) : W (gRg c (.int i) (.int j) C) QD := by
  show W (if (lowI i && lowI j) = true then newL c (rangeD i j) C else .no) QD
  rw [if_pos hl]
  exact h
/-! a def -/
theorem w_run {n : Nat} {ds : List D} (h : WS (u (ds.map some ++ List.replicate (n - ds.length) none) C) fun f _ C' => match f with
    | .nx => W (fin C .non C') QD
    | .rt d => W (fin C d C') QD
    | _ => False) : W (runD n u ds C) QD := WS.bind (h.imp fun f sl C' h => by
  cases f with
  | nx => exact h
  | rt d => exact h
  | bk => exact h.elim
  | ct => exact h.elim)
end
end Nv

namespace Nv
open PySem PySem.Spec PyProof.Rows L2
/-! more steps -/
section
variable {S S2 : Type} {Q : S → Store → Prop} {QD : D → Store → Prop} {QB : Bool → Store → Prop} {QL : List D → Store → Prop} {QS : Fl → Sl → Store → Prop} {sl : Sl} {C C1 C2 : Store} {m ma mb mc : ME} {t ta tb : MG Bool} {mas : MG (List D)} {u u1 u2 : MS}
theorem ite_t {A B : Prop} {b : Bool} (e : b = true) (h : A) : if b = true then A else B := by rw [if_pos e]; exact h
theorem ite_f {A B : Prop} {b : Bool} (e : b = false) (h : B) : if b = true then A else B := by rw [if_neg (by rw [e]; decide)]; exact h
theorem bl_b {b : Bool} {P : Bool → Prop} (h : P b) : ∃ b', D.bl b = .bl b' ∧ P b' := ⟨b, rfl, h⟩
theorem int_i {i : Int} {P : Int → Prop} (h : P i) : ∃ i', D.int i = .int i' ∧ P i' := ⟨i, rfl, h⟩
theorem par_2 {x y : D} {P : D → D → Prop} (h : P x y) : ∃ x' y', [x, y] = [x', y'] ∧ P x' y' := ⟨x, y, rfl, h⟩
theorem fin_set1 {k : Nat} {c : Cell} {d : D} (hc : closedC C.length c = true) (hf : flatR d = true) (hd : closedD 0 d = true) (h : QD d (C.set k c)) : W (fin C d (C.set k c)) QD := by
  by_cases hk : k < C.length
  · refine W.of (fin_val (fin_cond (k := k) (Upd.set k C c) (.inl ⟨List.getElem?_set_self hk, hc⟩)) hf (closedD_mono (Nat.zero_le _) d hd)) ?_
    rw [show C.length = (C.set k c).length by simp, List.take_length]
    exact h
  · refine W.of (fin_val (fin_cond (k := k) (c := c) (Upd.set k C c) (.inr (Nat.le_of_not_lt hk))) hf (closedD_mono (Nat.zero_le _) d hd)) ?_
    rw [show C.length = (C.set k c).length by simp, List.take_length]
    exact h
theorem fin_same {d : D} (hf : flatR d = true) (hd : closedD 0 d = true) (h : QD d C) : W (fin C d C) QD := W.of (fin_pure0 hf hd) h
end
end Nv

namespace Nv
open PySem PySem.Spec PyProof.Rows L2
section
variable {QD : D → Store → Prop} {QS : Fl → Sl → Store → Prop} {QK : Wk → Store → Prop} {sl : Sl} {C : Store} {m : ME} {t : MG Bool} {mas : MG (List D)} {u : MS} {g : MT} {gd : Gd} {ds : List D} {c : Bool} {own : List Nat} {mi : MI}
def forQ (P : Sl → Store → Prop) (QS : Fl → Sl → Store → Prop) : Fl → Sl → Store → Prop := fun f sl C => match f with
  | .nx => P sl C
  | .ct => P sl C
  | .bk => QS .nx sl C
  | .rt d => QS (.rt d) sl C
theorem w_forM (Inv : Nat → Sl → Store → Prop) (hg : ∀ i sl C, Inv i sl C → okG gd C)
    (step : ∀ i d sl C, ds[i]? = some d → Inv i sl C → W (g d sl C) fun sl1 C1 => WS (u sl1 C1) (forQ (Inv (i + 1)) QS))
    (hend : ∀ sl C, Inv ds.length sl C → QS .nx sl C) (h0 : Inv 0 sl C) : WS (forM g u gd ds sl C) QS := by
  suffices h : ∀ (n : Nat) (es : List D) sl C, es = ds.drop n → n ≤ ds.length → Inv n sl C → WS (forM g u gd es sl C) QS from h 0 ds sl C rfl (Nat.zero_le _) h0
  intro n es
  induction es generalizing n with
  | nil =>
    intro sl C e hn hi
    have : n = ds.length := by
      have := congrArg List.length e
      simp at this
      omega
    subst this
    unfold forM
    rw [if_pos (hg _ _ _ hi)]
    exact WS.ok (hend _ _ hi)
  | cons d es ih =>
    intro sl C e hn hi
    have hd : ds[n]? = some d := by
      have := congrArg (fun l => l[0]?) e
      simp at this
      exact this.symm
    have hn2 : n < ds.length := (List.getElem?_eq_some_iff.mp hd).1
    have he : es = ds.drop (n + 1) := by
      have := congrArg List.tail e
      simpa using this
    unfold forM
    rw [if_pos (hg _ _ _ hi)]
    refine W.bindS ((step n d sl C hd hi).imp fun sl1 C1 h => WS.bindS (h.imp fun f sl2 C2 h => ?_))
    cases f with
    | nx => exact ih (n + 1) sl2 C2 he hn2 h
    | ct => exact ih (n + 1) sl2 C2 he hn2 h
    | bk => exact WS.ok h
    | rt d => exact WS.ok h
theorem w_sFor (h : W (mi sl C) fun k C1 => WS (forM g u k.2 k.1 sl C1) QS) : WS (sFor mi g u sl C) QS := W.bindS (h.imp fun _ _ h => h)
theorem w_iLst (h : W (m sl C) fun x C1 => ∃ k, lstG C1 x = some k ∧ QK k C1) : W (iLst m sl C) QK := W.bind (h.imp fun x C1 h => by
  obtain ⟨k, e, h⟩ := h
  simp only [e]
  exact W.ok h)
theorem w_iRg1 (h : W (mas sl C) fun xs C1 => ∃ j, xs = [.int j] ∧ lowI j = true ∧ QK (rgD 0 j, []) C1) : W (iRg1 mas sl C) QK := W.bind (h.imp fun x C1 h => by
  obtain ⟨j, rfl, e, h⟩ := h
  simp only [e, if_true]
  exact W.ok h)
theorem w_iEn (h : W (mas sl C) fun xs C1 => ∃ x, xs = [x] ∧ ∃ k, lstG C1 x = some k ∧ QK (enumD 0 k.1, k.2) C1) : W (iEn mas sl C) QK := W.bind (h.imp fun x C1 h => by
  obtain ⟨x, rfl, k, e, h⟩ := h
  simp only [e]
  exact W.ok h)
theorem w_iZp (h : W (mas sl C) fun xs C1 => ∃ x y, xs = [x, y] ∧ ∃ k, lstG C1 x = some k ∧ ∃ l, lstG C1 y = some l ∧ QK (pairs k.1 l.1, k.2 ++ l.2) C1) : W (iZp mas sl C) QK := W.bind (h.imp fun x C1 h => by
  obtain ⟨x, y, rfl, k, e, l, e2, h⟩ := h
  simp only [e, e2]
  exact W.ok h)
theorem w_iTp (h : W (m sl C) fun x C1 => ∃ ds, x = .tup ds ∧ QK (ds, []) C1) : W (iTp m sl C) QK := W.bind (h.imp fun x C1 h => by
  obtain ⟨ds, rfl, h⟩ := h
  exact W.ok h)
theorem tup_t {ds : List D} {P : List D → Prop} (h : P ds) : ∃ ds', D.tup ds = .tup ds' ∧ P ds' := ⟨ds, rfl, h⟩
theorem lstG_l {ds : List D} {P : Wk → Prop} (h : P (ds, [])) : ∃ k, lstG C (.lst ds) = some k ∧ P k := ⟨_, rfl, h⟩
theorem lstG_c {k : Nat} {ds : List D} {P : Wk → Prop} (hk : C[k]? = some (.lst ds)) (h : P (ds, [(k, ds)])) : ∃ k', lstG C (.cell k) = some k' ∧ P k' := ⟨(ds, [(k, ds)]), by unfold lstG; simp only [hk], h⟩
theorem one_1 {x : D} {P : D → Prop} (h : P x) : ∃ x', [x] = [x'] ∧ P x' := ⟨x, rfl, h⟩
theorem one_i {i : Int} {P : Int → Prop} (h : P i) : ∃ i', [D.int i] = [.int i'] ∧ P i' := ⟨i, rfl, h⟩
theorem le0 : ([] : List D).length ≤ sizeLine := by simp [sizeLine]
theorem le1 {a0 : D} : [a0].length ≤ sizeLine := by simp [sizeLine]
theorem le2 {a0 a1 : D} : [a0, a1].length ≤ sizeLine := by simp [sizeLine]
theorem le3 {a0 a1 a2 : D} : [a0, a1, a2].length ≤ sizeLine := by simp [sizeLine]
theorem le4 {a0 a1 a2 a3 : D} : [a0, a1, a2, a3].length ≤ sizeLine := by simp [sizeLine]
theorem le5 {a0 a1 a2 a3 a4 : D} : [a0, a1, a2, a3, a4].length ≤ sizeLine := by simp [sizeLine]
theorem le6 {a0 a1 a2 a3 a4 a5 : D} : [a0, a1, a2, a3, a4, a5].length ≤ sizeLine := by simp [sizeLine]
theorem le7 {a0 a1 a2 a3 a4 a5 a6 : D} : [a0, a1, a2, a3, a4, a5, a6].length ≤ sizeLine := by simp [sizeLine]
theorem le8 {a0 a1 a2 a3 a4 a5 a6 a7 : D} : [a0, a1, a2, a3, a4, a5, a6, a7].length ≤ sizeLine := by simp [sizeLine]
theorem len_and {l : List D} {n : Nat} {P : Prop} (h : l.length = n) (p : P) : l.length = n ∧ P := ⟨h, p⟩
theorem le_and {l : List D} {n : Nat} {P : Prop} (h : l.length ≤ n) (p : P) : l.length ≤ n ∧ P := ⟨h, p⟩
theorem low_and {i : Int} {P : Prop} (h : lowI i = true) (p : P) : lowI i = true ∧ P := ⟨h, p⟩
theorem isL_and {x : D} {P : Prop} (h : isL C x = true) (p : P) : isL C x = true ∧ P := ⟨h, p⟩
theorem isS_and {x : D} {P : Prop} (h : isS C x = true) (p : P) : isS C x = true ∧ P := ⟨h, p⟩
theorem W.calm {S : Type} {Q : S → Store → Prop} {o : R (S × Store)} (h : W o Q) : W (R.calm o) Q := by
  obtain ⟨a, C, rfl, q⟩ := h
  exact ⟨a, C, rfl, q⟩
theorem w_lcM {Q : List D → Store → Prop} (Inv : Nat → List D → Store → Prop) (hg : ∀ i acc C, Inv i acc C → okG gd C)
    (step : ∀ i d acc C, ds[i]? = some d → Inv i acc C → W (g d sl C) fun sl1 C1 => W (t sl1 C1) fun b C2 => if b = true then W (m sl1 C2) fun e C3 => Inv (i + 1) (acc ++ [e]) C3 else Inv (i + 1) acc C2)
    (hend : ∀ zs C, Inv ds.length zs C → Q zs C) (h0 : Inv 0 [] C) : W (lcM g t m gd sl ds C) Q := by
  suffices h : ∀ (n : Nat) (es acc : List D) C, es = ds.drop n → n ≤ ds.length → Inv n acc C → W (lcM g t m gd sl es C) fun zs C' => Q (acc ++ zs) C' by
    have := h 0 ds [] C rfl (Nat.zero_le _) h0
    simpa using this
  intro n es
  induction es generalizing n with
  | nil =>
    intro acc C e hn hi
    have : n = ds.length := by
      have := congrArg List.length e
      simp at this
      omega
    subst this
    unfold lcM
    rw [if_pos (hg _ _ _ hi)]
    refine W.ok ?_
    rw [List.append_nil]
    exact hend _ _ hi
  | cons d es ih =>
    intro acc C e hn hi
    have hd : ds[n]? = some d := by
      have := congrArg (fun l => l[0]?) e
      simp at this
      exact this.symm
    have hn2 : n < ds.length := (List.getElem?_eq_some_iff.mp hd).1
    have he : es = ds.drop (n + 1) := by
      have := congrArg List.tail e
      simpa using this
    unfold lcM
    rw [if_pos (hg _ _ _ hi)]
    refine W.bind ((step n d acc C hd hi).imp fun sl1 C1 h => W.bind (h.imp fun b C2 h => ?_))
    cases b with
    | false => exact ih (n + 1) acc C2 he hn2 h
    | true =>
      refine W.bind (W.imp h fun e C3 h => W.bind ((ih (n + 1) (acc ++ [e]) C3 he hn2 h).imp fun zs C4 h => W.ok ?_))
      simpa using h
theorem w_mLc (h : W (mi sl C) fun k C1 => k.1.length ≤ sizeLine ∧ W (lcM g t m k.2 (wipeS sl own) k.1 C1) fun zs C2 => W (newL c zs C2) QD) : W (mLc c own mi g t m sl C) QD := W.bind (h.imp fun k C1 h => by
  simp only [if_pos h.1]
  exact W.bind (W.calm h.2))
theorem w_tTrue {QB : Bool → Store → Prop} (h : QB true C) : W (tTrue sl C) QB := W.ok h
/-- a comprehension that maps, with no store in play -/
theorem w_lcMap {Q : List D → Store → Prop} {f : Nat → D → D} (step : ∀ i d, ds[i]? = some d → W (g d sl C) fun sl1 C1 => W (m sl1 C1) fun e C3 => e = f i d ∧ C3 = C) (q : Q (ds.mapIdx f) C) : W (lcM g tTrue m [] sl ds C) Q := by
  refine w_lcM (fun i acc C' => C' = C ∧ acc = (ds.take i).mapIdx f) (fun _ _ _ _ => okG_nil _) (fun i d acc C' hd h => ?_) (fun zs C' h => ?_) ⟨rfl, rfl⟩
  · obtain ⟨rfl, rfl⟩ := h
    refine (step i d hd).imp fun sl1 C1 h => w_tTrue ?_
    rw [if_pos rfl]
    refine h.imp fun e C3 h => ?_
    obtain ⟨rfl, rfl⟩ := h
    refine ⟨rfl, ?_⟩
    have hl := (List.getElem?_eq_some_iff.mp hd).1
    rw [List.take_succ, hd]
    simp [List.mapIdx_append, Nat.min_eq_left (Nat.le_of_lt hl)]
  · obtain ⟨rfl, rfl⟩ := h
    rwa [List.take_length]
theorem rgD_get {n i : Nat} {d : D} (h : (rgD 0 n)[i]? = some d) : i < n ∧ d = .int i := by
  unfold rgD at h
  rw [List.getElem?_map, Option.map_eq_some_iff] at h
  obtain ⟨a, h1, rfl⟩ := h
  rw [List.getElem?_eq_some_iff] at h1
  obtain ⟨h2, h3⟩ := h1
  rw [List.getElem_range] at h3
  rw [List.length_range] at h2
  subst h3
  exact ⟨by omega, by simp⟩
theorem rgD_len (n : Nat) : (rgD 0 n).length = n := by simp [rgD]
theorem ixN_int {i : Int} {m : Nat} (h0 : 0 ≤ i) (h : i < m) : ixN m i = some i.toNat := by
  unfold ixN
  rw [if_pos h0, if_pos h]
theorem ixN_nat {n m : Nat} (h : n < m) : ixN m (n : Int) = some n := by
  rw [ixN_int (by omega) (by omega)]
  simp
theorem atI_nat {ds : List D} {n : Nat} {d : D} (h : ds[n]? = some d) : atI ds (n : Int) = some d := by
  have hl := (List.getElem?_eq_some_iff.mp h).1
  unfold atI
  rw [ixN_nat hl, Option.bind_some, h]
theorem cl_nil {n : Nat} : ∀ c ∈ ([] : Store), closedC n c = true := fun c h => nomatch h
theorem cl_cons {n : Nat} {c : Cell} {C : Store} (h : closedC n c = true) (t : ∀ c ∈ C, closedC n c = true) : ∀ d ∈ c :: C, closedC n d = true := fun d hd => by
  rcases List.mem_cons.mp hd with rfl | hd
  · exact h
  · exact t d hd
theorem app_cond {C1 X : Store} (hl : C1.length = C.length) (hc : ∀ c ∈ C1, closedC C.length c = true) : C.length ≤ (C1 ++ X).length ∧ ∀ (i : Nat), i < C.length → (C1 ++ X)[i]? = C[i]? ∨ ∃ c, (C1 ++ X)[i]? = some c ∧ closedC C.length c = true := ⟨by simp; omega, fun i hi => by
    have h1 : i < C1.length := by omega
    exact .inr ⟨C1[i], by rw [List.getElem?_append_left h1, List.getElem?_eq_getElem h1], hc _ (List.getElem_mem h1)⟩⟩
theorem app_take {C1 X : Store} (hl : C1.length = C.length) : (C1 ++ X).take C.length = C1 := by rw [← hl, List.take_left]
theorem fin_fz {C1 X : Store} {d : D} (hl : C1.length = C.length) (hc : ∀ c ∈ C1, closedC C.length c = true) (hf : ∀ a b, d ≠ .tup [.cell a, .cell b]) (hd : closedD 0 d = true) (h : QD d C1) : W (fin C d (C1 ++ X)) QD := by
  refine W.of (a := d) (C := C1) ?_ h
  unfold fin
  rw [if_pos (app_cond hl hc)]
  split
  · simp [closedD] at hd
  · rename_i a b
    exact absurd rfl (hf a b)
  · rw [if_pos (closedD_mono (Nat.zero_le _) d hd), app_take hl]
theorem w_fz1 {n : Nat} (h : W (m sl C) fun d C1 => ∃ (xs : List D) (C' : Store), d = .cell C.length ∧ C1 = C' ++ [.lst xs] ∧ C'.length = C.length ∧ (∀ c ∈ C', closedC C.length c = true) ∧ closedDs 0 xs = true ∧ QD (.lst xs) C') : W (mFz (n + 1) m sl C) QD := by
  refine W.bind (h.imp fun d C1 h => ?_)
  obtain ⟨xs, C', rfl, rfl, hl, hc, h1, q⟩ := h
  have e1 : (C' ++ [Cell.lst xs])[C.length]? = some (.lst xs) := by rw [← hl]; simp
  have e2 : (C' ++ [Cell.lst xs]).set C.length (.fz xs) = C' ++ [.fz xs] := by rw [← hl]; simp
  have f1 : frz (n + 1) (.cell C.length) (C' ++ [Cell.lst xs]) = some (.lst xs, C' ++ [.fz xs]) := by
    unfold frz
    simp only [e1, e2]
    rw [frzL_id _ xs fun x hx => frz_id n _ x (closed_mem h1 hx)]
    rfl
  simp only [f1]
  exact fin_fz hl hc (fun a b e => by cases e) h1 q
theorem w_ite {A B : Prop} {b : Bool} (h1 : b = true → A) (h2 : b = false → B) : if b = true then A else B := by
  cases b with
  | true => exact h1 rfl
  | false => exact h2 rfl
theorem setI_map (l : List Int) (n : Nat) (x : Int) : (l.map D.int).set n (.int x) = (l.set n x).map D.int := by simp
/-! kinds, sums, equal values -/
theorem w_isiT {T t : String} {x : D} (ht : tyC C x = some t) (hb : isB t T = true) (q : QD (.bl true) C) : W (gIsi T x C) QD := by
  refine W.of (a := .bl true) (C := C) ?_ q
  unfold gIsi
  rw [ht]
  simp only [hb]
theorem w_isiF {T t : String} {x : D} (ht : tyC C x = some t) (hb : isB t T = false) (q : QD (.bl false) C) : W (gIsi T x C) QD := by
  refine W.of (a := .bl false) (C := C) ?_ q
  unfold gIsi
  rw [ht]
  simp only [hb]
theorem w_isiLT {T : List String} {t : String} {x : D} (ht : tyC C x = some t) (hb : T.any (isB t) = true) (q : QD (.bl true) C) : W (gIsiL T x C) QD := by
  refine W.of (a := .bl true) (C := C) ?_ q
  unfold gIsiL
  rw [ht]
  simp only [hb]
theorem w_isiLF {T : List String} {t : String} {x : D} (ht : tyC C x = some t) (hb : T.any (isB t) = false) (q : QD (.bl false) C) : W (gIsiL T x C) QD := by
  refine W.of (a := .bl false) (C := C) ?_ q
  unfold gIsiL
  rw [ht]
  simp only [hb]
theorem w_all {bs : List Bool} (q : QD (.bl (bs.all id)) C) : W (on1 gAll [.lst (bs.map D.bl)] C) QD := by
  refine W.of (a := .bl (bs.all id)) (C := C) ?_ q
  show (match (some (bs.map D.bl)).bind blsOf with
    | some bs => R.ok (D.bl (bs.all id), C)
    | none => .no) = _
  rw [Option.bind_some, blsOf_map]
theorem toPs_int (C : Store) : ∀ l : List Int, toPs C (l.map D.int) = some (l.map PyData.int)
  | [] => rfl
  | x :: l => by
    show (match toP C (.int x), toPs C (l.map D.int) with
      | some p, some ps => some (p :: ps)
      | _, _ => none) = _
    rw [toPs_int C l]
    rfl
theorem toP_ints (C : Store) (l : List Int) : toP C (.lst (l.map D.int)) = some (.list (l.map PyData.int)) := by
  show (toPs C (l.map D.int)).map PyData.list = _
  rw [toPs_int]
  rfl
theorem depth_ints : ∀ l : List Int, PyData.depthAll (l.map PyData.int) = 0
  | [] => rfl
  | x :: l => by
    show max 0 (PyData.depthAll (l.map PyData.int)) = 0
    rw [depth_ints l]
    rfl
theorem lay_ints : ∀ l : List Int, PyData.canLayAll0 (l.map PyData.int) = true
  | [] => rfl
  | x :: l => by
    show (true && PyData.canLayAll0 (l.map PyData.int)) = true
    rw [lay_ints l]
    rfl
theorem shaped_ints (l : List Int) : SeqAt.shaped (.list (l.map PyData.int)) = true := by
  show (PyData.canLayAll0 (l.map PyData.int) && decide (PyData.depthAll (l.map PyData.int) + 1 ≤ 64)) = true
  rw [lay_ints, depth_ints]
  rfl
theorem eqvAll_ints : ∀ l m : List Int, PyData.eqvAll (l.map PyData.int) (m.map PyData.int) = decide (l = m)
  | [], [] => rfl
  | [], _ :: _ => rfl
  | _ :: _, [] => rfl
  | x :: l, y :: m => by
    show ((x == y) && PyData.eqvAll (l.map PyData.int) (m.map PyData.int)) = _
    rw [eqvAll_ints l m, Bool.eq_iff_iff]
    simp
theorem w_eqLI {l m : List Int} (q : QD (.bl (decide (l = m))) C) : W (gEq (.lst (l.map D.int)) (.lst (m.map D.int)) C) QD := by
  refine w_eqP (toP_ints _ _) (toP_ints _ _) (shaped_ints _) (shaped_ints _) (fun a e => by cases e) ?_
  show QD (.bl (PyData.eqvAll _ _)) C
  rwa [eqvAll_ints]
theorem w_neLI {l m : List Int} (q : QD (.bl (!decide (l = m))) C) : W (gNe (.lst (l.map D.int)) (.lst (m.map D.int)) C) QD := by
  refine w_neP (toP_ints _ _) (toP_ints _ _) (shaped_ints _) (shaped_ints _) (fun a e => by cases e) ?_
  show QD (.bl (!PyData.eqvAll _ _)) C
  rwa [eqvAll_ints]
theorem w_inS {neg : Bool} {x : Str} {l : List Str} (q : QD (.bl (if neg then !(l.any fun y => y == x) else l.any fun y => y == x)) C) : W (gIn neg (.str x) (.lst (l.map D.str)) C) QD := by
  refine W.of (a := .bl _) (C := C) ?_ q
  have h1 : (l.map D.str).all flatD = true := by simp [flatD]
  have h2 : inF (.str x) (l.map D.str) = l.any fun y => y == x := by
    unfold inF
    rw [List.any_map]
    rfl
  show (if (flatD (.str x) && (l.map D.str).all flatD) = true then R.ok (D.bl (if neg then !inF (.str x) (l.map D.str) else inF (.str x) (l.map D.str)), C) else .no) = _
  rw [h1, h2]
  rfl
theorem w_inI {neg : Bool} {x : Int} {l : List Int} (q : QD (.bl (if neg then !(l.any fun y => y == x) else l.any fun y => y == x)) C) : W (gIn neg (.int x) (.lst (l.map D.int)) C) QD := by
  refine W.of (a := .bl _) (C := C) ?_ q
  have h1 : (l.map D.int).all flatD = true := by simp [flatD]
  have h2 : inF (.int x) (l.map D.int) = l.any fun y => y == x := by
    unfold inF
    rw [List.any_map]
    rfl
  show (if (flatD (.int x) && (l.map D.int).all flatD) = true then R.ok (D.bl (if neg then !inF (.int x) (l.map D.int) else inF (.int x) (l.map D.int)), C) else .no) = _
  rw [h1, h2]
  rfl
/-! comprehensions over literals and ranges -/
theorem w_lcNil {Q : List D → Store → Prop} (h : Q [] C) : W (lcM g t m [] sl [] C) Q := by
  unfold lcM
  rw [if_pos (okG_nil _)]
  exact W.ok h
theorem w_lcCons {Q : List D → Store → Prop} {d : D} (h : W (g d sl C) fun sl1 C1 => W (t sl1 C1) fun b C2 => if b = true then W (m sl1 C2) fun e C3 => W (lcM g t m [] sl ds C3) fun zs C4 => Q (e :: zs) C4 else W (lcM g t m [] sl ds C2) Q) : W (lcM g t m [] sl (d :: ds) C) Q := by
  unfold lcM
  rw [if_pos (okG_nil _)]
  refine W.bind (h.imp fun sl1 C1 h => W.bind (h.imp fun b C2 h => ?_))
  cases b with
  | false => exact h
  | true => exact W.bind (W.imp h fun e C3 h => W.bind (h.imp fun zs C4 h => W.ok h))
theorem mapIdx_const {A B : Type} (b : B) (l : List A) : (l.mapIdx fun _ _ => b) = List.replicate l.length b := by
  apply List.ext_getElem
  · simp
  · intro i h1 h2
    simp
theorem w_lcTrue {Q : List D → Store → Prop} (step : ∀ (i : Nat) (d : D), ds[i]? = some d → W (g d sl C) fun sl1 C1 => W (m sl1 C1) fun e C3 => e = .bl true ∧ C3 = C) (q : Q ((List.replicate ds.length true).map D.bl) C) : W (lcM g tTrue m [] sl ds C) Q := by
  refine w_lcMap (f := fun _ _ => .bl true) step ?_
  rw [mapIdx_const]
  rwa [List.map_replicate] at q
theorem all_true (n : Nat) : (List.replicate n true).all id = true := by simp
theorem w_lcIx {Q : List D → Store → Prop} {p : Nat → Bool} {f : Nat → D} (step : ∀ (i : Nat) (d : D), ds[i]? = some d → W (g d sl C) fun sl1 C1 => W (t sl1 C1) fun b C2 => b = p i ∧ C2 = C ∧ (p i = true → W (m sl1 C) fun e C3 => e = f i ∧ C3 = C)) (q : Q (((List.range ds.length).filter p).map f) C) : W (lcM g t m [] sl ds C) Q := by
  refine w_lcM (fun i acc C' => C' = C ∧ acc = ((List.range i).filter p).map f) (fun _ _ _ _ => okG_nil _) (fun i d acc C' hd h => ?_) (fun zs C' h => ?_) ⟨rfl, rfl⟩
  · obtain ⟨rfl, rfl⟩ := h
    refine (step i d hd).imp fun sl1 C1 h => h.imp fun b C2 h => ?_
    obtain ⟨rfl, rfl, h⟩ := h
    rw [List.range_succ, List.filter_append, List.map_append]
    by_cases hp : p i = true
    · rw [if_pos hp]
      refine (h hp).imp fun e C3 h => ?_
      obtain ⟨rfl, rfl⟩ := h
      exact ⟨rfl, by simp [hp]⟩
    · rw [if_neg hp]
      exact ⟨rfl, by simp [hp]⟩
  · obtain ⟨rfl, rfl⟩ := h
    exact q
theorem w_lcMapIx {Q : List D → Store → Prop} {f : Nat → D} (step : ∀ (i : Nat) (d : D), ds[i]? = some d → W (g d sl C) fun sl1 C1 => W (m sl1 C1) fun e C3 => e = f i ∧ C3 = C) (q : Q ((List.range ds.length).map f) C) : W (lcM g tTrue m [] sl ds C) Q := by
  refine w_lcMap (f := fun i _ => f i) step ?_
  have e : (ds.mapIdx fun i _ => f i) = (List.range ds.length).map f := by
    apply List.ext_getElem
    · simp
    · intro i h1 h2
      simp
  rwa [e]
theorem pairsLen (xs ys : List D) : (pairs xs ys).length = min xs.length ys.length := by simp [pairs]
theorem enumGet {xs : List D} {i : Nat} {d : D} (h : (enumD 0 xs)[i]? = some d) : ∃ a, d = .tup [.int i, a] ∧ xs[i]? = some a := by
  rw [enumD_get] at h
  rw [Option.map_eq_some_iff] at h
  obtain ⟨a, h, rfl⟩ := h
  exact ⟨a, by simp, h⟩
/-- a list that stands in a cell or is frozen -/
inductive IsLst (C : Store) : D → List D → Prop where
  | f (ds : List D) : IsLst C (.lst ds) ds
  | c (k : Nat) (ds : List D) (h : C[k]? = some (.lst ds)) : IsLst C (.cell k) ds
theorem IsLst.ty {x : D} {ds : List D} (h : IsLst C x ds) : tyC C x = some "list" := by
  cases h with
  | f => rfl
  | c k ds h => unfold tyC; simp only [h]
theorem IsLst.len {x : D} {ds : List D} (h : IsLst C x ds) (q : QD (.int ds.length) C) : W (on1 gLen [x] C) QD := by
  cases h with
  | f => exact w_lenL q
  | c k ds h => exact w_lenC h q
theorem IsLst.it {x : D} {ds : List D} (h : IsLst C x ds) : ∃ g, lstG C x = some (ds, g) ∧ okG g C := by
  cases h with
  | f => exact ⟨[], rfl, okG_nil _⟩
  | c k ds h => exact ⟨[(k, ds)], by unfold lstG; simp only [h], fun p hp => by cases List.mem_singleton.mp hp; exact h⟩
theorem okG.app {g1 g2 : Gd} (h1 : okG g1 C) (h2 : okG g2 C) : okG (g1 ++ g2) C := fun p hp => (List.mem_append.mp hp).elim (h1 p) (h2 p)
/-! repr of small things -/
def smI (i : Int) : Prop := -999999999999 ≤ i ∧ i ≤ 999999999999
theorem short_int {i : Int} (h : smI i) : PyData.intsShort 13 (.int i) = true := by
  simp only [PyData.intsShort, decide_eq_true_eq]
  have h1 := h.1
  have h2 := h.2
  exact PyData.shown_int_le2 (by omega) (by omega)
theorem log_int {i : Int} (h : smI i) : i.natAbs.log2 < 40 := by
  by_cases h0 : i.natAbs = 0
  · rw [h0]; decide
  · rw [Nat.log2_lt h0]
    have := h.1
    have := h.2
    omega
theorem show_ints : ∀ {l : List Int}, (∀ x ∈ l, smI x) → PyData.showableAll (l.map PyData.int) = true
  | [], _ => rfl
  | x :: l, h => by
    show (decide (x.natAbs.log2 < 1920) && PyData.showableAll (l.map PyData.int)) = true
    rw [show_ints fun y hy => h y (List.mem_cons_of_mem _ hy), decide_eq_true (Nat.lt_trans (log_int (h x List.mem_cons_self)) (by decide))]
    rfl
theorem toP_two (xs ys : List Int) : toP C (.tup [.lst (xs.map D.int), .lst (ys.map D.int)]) = some (.tuple [.list (xs.map PyData.int), .list (ys.map PyData.int)]) := by
  show (match toP C (.lst (xs.map D.int)), (match toP C (.lst (ys.map D.int)), (some [] : Option (List PyData)) with
    | some p, some ps => some (p :: ps)
    | _, _ => none) with
    | some p, some ps => some (p :: ps)
    | _, _ => none).map PyData.tuple = _
  rw [toP_ints, toP_ints]
  rfl
theorem w_isC {x y : D} {b : Bool} (e : gIs x y C = .ok (.bl b, C)) (q : QD (.bl b) C) : W (gIs x y C) QD := W.of e q
theorem w_isNotC {x y : D} {b : Bool} (e : gIsNot x y C = .ok (.bl b, C)) (q : QD (.bl b) C) : W (gIsNot x y C) QD := W.of e q
/-! stores of closed cells -/
def ClS (C : Store) : Prop := ∀ c ∈ C, closedC 0 c = true
theorem closedC_mono {n m : Nat} (h : n ≤ m) (c : Cell) (hc : closedC n c = true) : closedC m c = true := by
  cases c with
  | lst ds => exact closedDs_mono h ds hc
  | dk ds => exact closedDs_mono h _ hc
  | dt ds => exact closedDs_mono h _ hc
  | fz ds => exact closedDs_mono h ds hc
  | dn ds => exact closedDs_mono h _ hc
  | obj c ds => exact closedDs_mono h _ hc
  | lk ds => exact closedDs_mono h _ hc
theorem ClS.at {C : Store} (h : ClS C) (n : Nat) : ∀ c ∈ C, closedC n c = true := fun c hc => closedC_mono (Nat.zero_le _) c (h c hc)
theorem ClS.nil : ClS [] := fun c h => nomatch h
theorem ClS.cons {C : Store} {c : Cell} (h : closedC 0 c = true) (t : ClS C) : ClS (c :: C) := cl_cons h t
theorem ClS.app {C X : Store} (h : ClS C) (t : ClS X) : ClS (C ++ X) := fun c hc => (List.mem_append.mp hc).elim (h c) (t c)
theorem ClS.set {C : Store} {k : Nat} {c : Cell} (h : ClS C) (hc : closedC 0 c = true) : ClS (C.set k c) := fun d hd => by
  rcases List.mem_or_eq_of_mem_set hd with hd | rfl
  · exact h d hd
  · exact hc
theorem ClS.one {c : Cell} (h : closedC 0 c = true) : ClS [c] := cl_cons h cl_nil
theorem w_slL {ds : List D} {c : Bool} {a b : Option Int} (q : W (newL c (cutD ds a b) C) QD) : W (gSl c (.lst ds) a b C) QD := q
/-! targets, reversed slices, counts, whiles -/
theorem w_gmSqT {n : Nat} {gs : List D → Sl → Store → R (Sl × Store)} {Q : Sl → Store → Prop} (hl : ds.length = n) (h : W (gs ds sl C) Q) : W (gmSq n gs (.tup ds) sl C) Q := by
  unfold gmSq tupOf
  simp only [if_pos hl]
  exact h
theorem w_gmSqL {n : Nat} {gs : List D → Sl → Store → R (Sl × Store)} {Q : Sl → Store → Prop} (hl : ds.length = n) (h : W (gs ds sl C) Q) : W (gmSq n gs (.lst ds) sl C) Q := by
  unfold gmSq tupOf lstOf
  simp only [if_pos hl]
  exact h
/-- a while: what each turn keeps, and how many turns may be left -/
theorem w_while {t : MG Bool} {u : MS} (Inv : Nat → Sl → Store → Prop)
    (step : ∀ k sl C, Inv k sl C → W (t sl C) fun b C1 => if b = true then 0 < k ∧ WS (u sl C1) (forQ (Inv (k - 1)) QS) else QS .nx sl C1)
    (k : Nat) {n : Nat} (hn : k < n) (h0 : Inv k sl C) : WS (whileM t u n sl C) QS := by
  induction n generalizing k sl C with
  | zero => omega
  | succ n ih =>
    unfold whileM
    refine W.bindS ((step k sl C h0).imp fun b C1 h => ?_)
    cases b with
    | false => exact WS.ok h
    | true =>
      obtain ⟨hk, h⟩ := h
      refine WS.bindS (WS.imp h fun f sl2 C2 h => ?_)
      cases f with
      | nx => exact ih (k - 1) (by omega) h
      | ct => exact ih (k - 1) (by omega) h
      | bk => exact WS.ok h
      | rt d => exact WS.ok h
theorem w_iRg2 (h : W (mas sl C) fun xs C1 => ∃ i j, xs = [.int i, .int j] ∧ (lowI i && lowI j) = true ∧ QK (rgD i j, []) C1) : W (iRg2 mas sl C) QK := W.bind (h.imp fun x C1 h => by
  obtain ⟨i, j, rfl, e, h⟩ := h
  simp only [e, if_true]
  exact W.ok h)
theorem w_iRg3 (h : W (mas sl C) fun xs C1 => ∃ i j, xs = [.int i, .int j, .int (-1)] ∧ (lowI i && lowI j) = true ∧ QK (rgDown i j, []) C1) : W (iRg3 mas sl C) QK := W.bind (h.imp fun x C1 h => by
  obtain ⟨i, j, rfl, e, h⟩ := h
  simp only [e, and_self, if_true]
  exact W.ok h)
theorem rgD_get2 {a : Int} {n i : Nat} {d : D} (h : (rgD a (a + n))[i]? = some d) : i < n ∧ d = .int (a + i) := by
  unfold rgD at h
  rw [List.getElem?_map, Option.map_eq_some_iff] at h
  obtain ⟨k, h1, rfl⟩ := h
  rw [List.getElem?_eq_some_iff] at h1
  obtain ⟨h2, h3⟩ := h1
  rw [List.getElem_range] at h3
  rw [List.length_range] at h2
  subst h3
  exact ⟨by omega, rfl⟩
theorem rgD_len2 (a : Int) (n : Nat) : (rgD a (a + n)).length = n := by
  unfold rgD
  rw [List.length_map, List.length_range]
  omega
end
end Nv

namespace Nv
open PySem PySem.Spec PyProof.Rows L2
/-! stores that end in known cells -/
section
variable {A X : Store} {k i : Nat} {c d : Cell}
theorem at_app : (A ++ X)[A.length + k]? = X[k]? := by rw [List.getElem?_append_right (by omega)]; simp
theorem at_app0 : (A ++ X)[A.length]? = X[0]? := by rw [List.getElem?_append_right (by omega)]; simp
theorem at_lo (h : A[i]? = some c) : (A ++ X)[i]? = some c := by rw [List.getElem?_append_left (List.getElem?_eq_some_iff.mp h).1, h]
theorem set_app : (A ++ X).set (A.length + k) c = A ++ X.set k c := by rw [List.set_append_right _ _ (by omega)]; simp
theorem set_app0 : (A ++ X).set A.length c = A ++ X.set 0 c := by rw [List.set_append_right _ _ (by omega)]; simp
end
section
variable {QD : D → Store → Prop} {QB : Bool → Store → Prop} {QL : List D → Store → Prop} {QS : Fl → Sl → Store → Prop} {QK : Wk → Store → Prop} {sl : Sl} {C A X : Store} {m : ME} {t : MG Bool} {mas : MG (List D)} {u : MS} {g : MT} {gd : Gd} {ds : List D} {c : Bool} {own : List Nat} {mi : MI}
/-! lists that are cells or frozen -/
theorem IsLst.ix {x : D} {i : Int} {d : D} (h : IsLst C x ds) (e : atI ds i = some d) (q : QD d C) : W (gIx x (.int i) C) QD := by
  cases h with
  | f => exact w_ixL e q
  | c k ds h => exact w_ixC h e q
theorem IsLst.app {x : D} (h : IsLst C x ds) : IsLst (C ++ X) x ds := by
  cases h with
  | f => exact .f _
  | c k ds h => exact .c _ _ (at_lo h)
theorem IsLst.isL {x : D} (h : IsLst C x ds) : isL C x = true := by
  cases h with
  | f => rfl
  | c k ds h => exact w_chkC h
theorem IsLst.itA {x : D} (h : IsLst C x ds) : ∃ g, lstG C x = some (ds, g) ∧ ∀ X, okG g (C ++ X) := by
  cases h with
  | f => exact ⟨[], rfl, fun _ => okG_nil _⟩
  | c k ds h => exact ⟨[(k, ds)], by unfold lstG; simp only [h], fun X p hp => by cases List.mem_singleton.mp hp; exact at_lo h⟩
theorem IsLst.list {x : D} (h : IsLst C x ds) (q : W (newL c ds C) QD) : W (on1 (gList c) [x] C) QD := by
  have e : seqOf C x = some ds := by
    cases h with
    | f => rfl
    | c k ds h => exact lstAt_lst h
  show W (match seqOf C x with
    | some ds => newL c ds C
    | none => .no) QD
  rw [e]
  exact q
theorem w_listL (q : W (newL c ds C) QD) : W (on1 (gList c) [.lst ds] C) QD := (IsLst.f ds).list q
/-! data alike: lists may be cells -/
inductive Alk (C : Store) : Nat → D → D → Prop
  | int (n : Nat) (i : Int) : Alk C (n + 1) (.int i) (.int i)
  | str (n : Nat) (i : Str) : Alk C (n + 1) (.str i) (.str i)
  | bl (n : Nat) (i : Bool) : Alk C (n + 1) (.bl i) (.bl i)
  | non (n : Nat) : Alk C (n + 1) .non .non
  | lst (n : Nat) (x y : D) (xs ys : List D) (hx : IsLst C x xs) (hy : IsLst C y ys) (hl : xs.length = ys.length) (ll : ys.length ≤ 1000000) (h : ∀ (i : Nat) (a b : D), xs[i]? = some a → ys[i]? = some b → Alk C n a b) : Alk C (n + 1) x y
  | tup (n : Nat) (xs ys : List D) (hl : xs.length = ys.length) (ll : ys.length ≤ 1000000) (h : ∀ (i : Nat) (a b : D), xs[i]? = some a → ys[i]? = some b → Alk C n a b) : Alk C (n + 1) (.tup xs) (.tup ys)
theorem Alk.map {A : Type} {f : A → D} {n : Nat} {x y : D} {l : List A} (h : ∀ a ∈ l, Alk C n (f a) (f a)) (hx : IsLst C x (l.map f)) (hy : IsLst C y (l.map f)) (ll : l.length ≤ 1000000) : Alk C (n + 1) x y := by
  refine .lst _ _ _ _ _ hx hy rfl (by simpa using ll) fun i a b ha hb => ?_
  rw [ha] at hb
  cases hb
  rw [List.getElem?_map, Option.map_eq_some_iff] at ha
  obtain ⟨z, hz, rfl⟩ := ha
  exact h z (List.mem_of_getElem? hz)
theorem Alk.ints {n : Nat} {x y : D} {l : List Int} (hx : IsLst C x (l.map D.int)) (hy : IsLst C y (l.map D.int)) (ll : l.length ≤ 1000000) : Alk C (n + 2) x y := Alk.map (fun a _ => .int _ a) hx hy ll
theorem forall2 {P : D → D → Prop} {a b : D} {xs ys : List D} (h : P a b) (t : ∀ (i : Nat) (a b : D), xs[i]? = some a → ys[i]? = some b → P a b) : ∀ (i : Nat) (x y : D), (a :: xs)[i]? = some x → (b :: ys)[i]? = some y → P x y := by
  intro i x y hx hy
  cases i with
  | zero => cases hx; cases hy; exact h
  | succ i => exact t i x y hx hy
theorem forall0 {P : D → D → Prop} : ∀ (i : Nat) (x y : D), ([] : List D)[i]? = some x → ([] : List D)[i]? = some y → P x y := fun i x y h => nomatch h
theorem Alk.tup2 {n : Nat} {a b a' b' : D} (h1 : Alk C n a a') (h2 : Alk C n b b') : Alk C (n + 1) (.tup [a, b]) (.tup [a', b']) := .tup _ _ _ rfl (by simp) (forall2 h1 (forall2 h2 forall0))
/-! what repr shows -/
structure Shw (x : D) (w dp : Nat) (p : PyData) : Prop where
  to : ∀ C, toP C x = some p
  sh : p.showable = true
  la : p.canLay0 = true
  de : p.depth ≤ dp
  we : p.weight ≤ w
  si : p.intsShort 13 = true
theorem toPs_map {A : Type} {f : A → D} {p : A → PyData} (h : ∀ a C, toP C (f a) = some (p a)) (C : Store) : ∀ l : List A, toPs C (l.map f) = some (l.map p)
  | [] => rfl
  | x :: l => by
    show (match toP C (f x), toPs C (l.map f) with
      | some p, some ps => some (p :: ps)
      | _, _ => none) = _
    rw [h, toPs_map h C l]
    rfl
theorem Shw.int {i : Int} (h : smI i) : Shw (.int i) 41 0 (.int i) where
  to := fun _ => rfl
  sh := by
    have := show_ints (l := [i]) (fun x hx => by cases List.mem_singleton.mp hx; exact h)
    have this : ((PyData.int i).showable && true) = true := this
    rwa [Bool.and_true] at this
  la := rfl
  de := Nat.le_refl _
  we := by
    show (if i == 0 then 0 else i.natAbs.log2 + 1) ≤ 41
    have := log_int h
    split <;> omega
  si := short_int h
theorem depthAll_le {n : Nat} : ∀ {l : List PyData}, (∀ x ∈ l, x.depth ≤ n) → PyData.depthAll l ≤ n
  | [], _ => Nat.zero_le _
  | x :: l, h => by
    show max x.depth (PyData.depthAll l) ≤ n
    exact Nat.max_le.mpr ⟨h x List.mem_cons_self, depthAll_le fun y hy => h y (List.mem_cons_of_mem _ hy)⟩
theorem weightAll_le {n : Nat} : ∀ {l : List PyData}, (∀ x ∈ l, x.weight ≤ n) → PyData.weightAll l ≤ (n + 1) * l.length
  | [], _ => Nat.le_refl _
  | x :: l, h => by
    show x.weight + 1 + PyData.weightAll l ≤ (n + 1) * (l.length + 1)
    have h1 := h x List.mem_cons_self
    have h2 := weightAll_le fun y hy => h y (List.mem_cons_of_mem x hy)
    rw [Nat.mul_succ]
    omega
theorem showAll {l : List PyData} (h : ∀ x ∈ l, x.showable = true) : PyData.showableAll l = true := by
  induction l with
  | nil => rfl
  | cons x l ih =>
    show (x.showable && PyData.showableAll l) = true
    rw [h x List.mem_cons_self, ih fun y hy => h y (List.mem_cons_of_mem _ hy)]
    rfl
theorem layAll {l : List PyData} (h : ∀ x ∈ l, x.canLay0 = true) : PyData.canLayAll0 l = true := by
  induction l with
  | nil => rfl
  | cons x l ih =>
    show (x.canLay0 && PyData.canLayAll0 l) = true
    rw [h x List.mem_cons_self, ih fun y hy => h y (List.mem_cons_of_mem _ hy)]
    rfl
theorem shortAll {l : List PyData} (h : ∀ x ∈ l, x.intsShort 13 = true) : PyData.intsShortAll 13 l = true := by
  induction l with
  | nil => rfl
  | cons x l ih =>
    show (x.intsShort 13 && PyData.intsShortAll 13 l) = true
    rw [h x List.mem_cons_self, ih fun y hy => h y (List.mem_cons_of_mem _ hy)]
    rfl
theorem Shw.map {A : Type} {f : A → D} {p : A → PyData} {l : List A} {w dp : Nat} (hp : ∀ a C, toP C (f a) = some (p a)) (h : ∀ a ∈ l, Shw (f a) w dp (p a)) : Shw (.lst (l.map f)) ((w + 1) * l.length) (dp + 1) (.list (l.map p)) where
  to := fun C => by
    show (toPs C (l.map f)).map PyData.list = _
    rw [toPs_map hp]
    rfl
  sh := showAll fun x hx => by obtain ⟨a, ha, rfl⟩ := List.mem_map.mp hx; exact (h a ha).sh
  la := layAll fun x hx => by obtain ⟨a, ha, rfl⟩ := List.mem_map.mp hx; exact (h a ha).la
  de := Nat.succ_le_succ (depthAll_le fun x hx => by obtain ⟨a, ha, rfl⟩ := List.mem_map.mp hx; exact (h a ha).de)
  we := by
    have := weightAll_le (n := w) (l := l.map p) fun x hx => by obtain ⟨a, ha, rfl⟩ := List.mem_map.mp hx; exact (h a ha).we
    rw [List.length_map] at this
    exact this
  si := shortAll fun x hx => by obtain ⟨a, ha, rfl⟩ := List.mem_map.mp hx; exact (h a ha).si
theorem Shw.ints {l : List Int} (h : ∀ x ∈ l, smI x) : Shw (.lst (l.map D.int)) (42 * l.length) 1 (.list (l.map PyData.int)) := Shw.map (fun _ _ => rfl) fun a ha => Shw.int (h a ha)
theorem Shw.tup2 {a b : D} {p q : PyData} {w1 w2 d1 d2 : Nat} (h1 : Shw a w1 d1 p) (h2 : Shw b w2 d2 q) : Shw (.tup [a, b]) (w1 + w2 + 2) (max d1 d2 + 1) (.tuple [p, q]) where
  to := fun C => by
    show (match toP C a, (match toP C b, (some [] : Option (List PyData)) with
      | some p, some ps => some (p :: ps)
      | _, _ => none) with
      | some p, some ps => some (p :: ps)
      | _, _ => none).map PyData.tuple = _
    rw [h1.to, h2.to]
    rfl
  sh := by show (p.showable && (q.showable && true)) = true; rw [h1.sh, h2.sh]; rfl
  la := by show (p.canLay0 && (q.canLay0 && true)) = true; rw [h1.la, h2.la]; rfl
  de := by
    show max p.depth (max q.depth 0) + 1 ≤ _
    have := h1.de
    have := h2.de
    omega
  we := by
    show p.weight + 1 + (q.weight + 1 + 0) ≤ _
    have := h1.we
    have := h2.we
    omega
  si := by show (p.intsShort 13 && (q.intsShort 13 && true)) = true; rw [h1.si, h2.si]; rfl
/-- the store as it was, then new cells; two of them come out -/
theorem fin_two0 {Y : Store} {a b : Cell} {j k : Nat} (hk : Y[j]? = some a) (hk2 : Y[k]? = some b) (hjk : j ≠ k) (ha : closedC 0 a = true) (hb : closedC 0 b = true) (h : QD (.tup [.cell C.length, .cell (C.length + 1)]) (C ++ [a, b])) :
    W (fin C (.tup [.cell (C.length + j), .cell (C.length + k)]) (C ++ Y)) QD := by
  refine W.of (a := .tup [.cell C.length, .cell (C.length + 1)]) (C := C ++ [a, b]) ?_ h
  unfold fin
  rw [if_pos (same_cond C Y)]
  simp only [at_app, hk, hk2]
  rw [if_pos ⟨by omega, by omega, by omega, closedC_mono (Nat.zero_le _) _ ha, closedC_mono (Nat.zero_le _) _ hb⟩, List.take_left' rfl]
/-- .. one of them -/
theorem fin_one0 {Y : Store} {a : Cell} {k : Nat} (hk : Y[k]? = some a) (ha : closedC 0 a = true) (h : QD (.cell C.length) (C ++ [a])) : W (fin C (.cell (C.length + k)) (C ++ Y)) QD := by
  refine W.of (a := .cell C.length) (C := C ++ [a]) ?_ h
  unfold fin
  rw [if_pos (same_cond C Y)]
  simp only [at_app, hk]
  rw [if_neg (by omega), if_pos (closedC_mono (Nat.zero_le _) _ ha), List.take_left' rfl]
theorem w_forNil (h : QS .nx sl C) : WS (forM g u [] [] sl C) QS := by
  unfold forM
  rw [if_pos (okG_nil _)]
  exact WS.ok h
theorem w_forCons {d : D} (h : W (g d sl C) fun sl1 C1 => WS (u sl1 C1) (forQ (fun sl2 C2 => WS (forM g u [] ds sl2 C2) QS) QS)) : WS (forM g u [] (d :: ds) sl C) QS := by
  unfold forM
  rw [if_pos (okG_nil _)]
  refine W.bindS (h.imp fun sl1 C1 h => WS.bindS (h.imp fun f sl2 C2 h => ?_))
  cases f with
  | nx => exact h
  | ct => exact h
  | bk => exact WS.ok h
  | rt d => exact WS.ok h
theorem w_forq {P : Sl → Store → Prop} (h : P sl C) : forQ P QS .nx sl C := h
theorem w_forqC {P : Sl → Store → Prop} (h : P sl C) : forQ P QS .ct sl C := h
theorem w_forqR {P : Sl → Store → Prop} {d : D} (h : QS (.rt d) sl C) : forQ P QS (.rt d) sl C := h
theorem w_forqB {P : Sl → Store → Prop} (h : QS .nx sl C) : forQ P QS .bk sl C := h
theorem w_inT {neg : Bool} {x : Str} {l : List Str} (q : QD (.bl (if neg then !(l.any fun y => y == x) else l.any fun y => y == x)) C) : W (gIn neg (.str x) (.tup (l.map D.str)) C) QD := by
  refine W.of (a := .bl _) (C := C) ?_ q
  have h1 : (l.map D.str).all flatD = true := by simp [flatD]
  have h2 : inF (.str x) (l.map D.str) = l.any fun y => y == x := by
    unfold inF
    rw [List.any_map]
    rfl
  show (if (flatD (.str x) && (l.map D.str).all flatD) = true then R.ok (D.bl (if neg then !inF (.str x) (l.map D.str) else inF (.str x) (l.map D.str)), C) else .no) = _
  rw [h1, h2]
  rfl
theorem low_of {i : Int} (h1 : -1000000 ≤ i) (h2 : i ≤ 1000000) : lowI i = true := by
  unfold lowI
  rw [Bool.and_eq_true]
  exact ⟨decide_eq_true (by omega), decide_eq_true (by omega)⟩
theorem len_le {l : List D} (h : l.length ≤ 10000000) : l.length ≤ sizeLine := Nat.le_trans h (by decide)
theorem atI_map {A : Type} {f : A → D} {l : List A} {i : Int} {x : A} (h0 : 0 ≤ i) (h : l[i.toNat]? = some x) : atI (l.map f) i = some (f x) := by
  have hl := (List.getElem?_eq_some_iff.mp h).1
  unfold atI
  rw [ixN_int h0 (by simp; omega), Option.bind_some, List.getElem?_map, h]
  rfl
/-! a cut of a list -/
theorem cutD_map {A : Type} (f : A → D) (l : List A) (a b : Option Int) : cutD (l.map f) a b = ((l.drop (HT.sIx l.length 0 a)).take (HT.sIx l.length l.length b - HT.sIx l.length 0 a)).map f := by
  unfold cutD
  rw [List.length_map, ← List.map_drop, ← List.map_take]
theorem closedDs_map {A : Type} {f : A → D} {n : Nat} (h : ∀ a, closedD n (f a) = true) : ∀ l : List A, closedDs n (l.map f) = true
  | [] => rfl
  | x :: l => by
    show (closedD n (f x) && closedDs n (l.map f)) = true
    rw [h, closedDs_map h l]
    rfl
/-! and, or of values with no effect -/
theorem w_andV {ma mb : ME} {a b : Bool} (h : W (ma sl C) fun x C1 => x = .bl a ∧ C1 = C) (h2 : W (mb sl C) fun x C1 => x = .bl b ∧ C1 = C) (q : QD (.bl (a && b)) C) : W (mAnd ma mb sl C) QD := by
  refine w_and (h.imp fun x C1 h => ?_)
  obtain ⟨rfl, rfl⟩ := h
  refine ⟨a, rfl, ?_⟩
  cases a with
  | true => rw [if_pos rfl]; exact h2.imp fun x C1 h => by obtain ⟨rfl, rfl⟩ := h; exact q
  | false => rw [if_neg Bool.false_ne_true]; exact q
theorem w_orV {ma mb : ME} {a b : Bool} (h : W (ma sl C) fun x C1 => x = .bl a ∧ C1 = C) (h2 : W (mb sl C) fun x C1 => x = .bl b ∧ C1 = C) (q : QD (.bl (a || b)) C) : W (mOr ma mb sl C) QD := by
  refine w_or (h.imp fun x C1 h => ?_)
  obtain ⟨rfl, rfl⟩ := h
  refine ⟨a, rfl, ?_⟩
  cases a with
  | true => rw [if_pos rfl]; exact q
  | false => rw [if_neg Bool.false_ne_true]; exact h2.imp fun x C1 h => by obtain ⟨rfl, rfl⟩ := h; exact q
theorem w_tAndV {ta tb : MG Bool} {a b : Bool} (h : W (ta sl C) fun x C1 => x = a ∧ C1 = C) (h2 : W (tb sl C) fun x C1 => x = b ∧ C1 = C) (q : QB (a && b) C) : W (tAndM ta tb sl C) QB := by
  refine w_tAnd (h.imp fun x C1 h => ?_)
  obtain ⟨rfl, rfl⟩ := h
  cases x with
  | true => rw [if_pos rfl]; exact h2.imp fun x C1 h => by obtain ⟨rfl, rfl⟩ := h; exact q
  | false => rw [if_neg Bool.false_ne_true]; exact q
theorem w_tOrV {ta tb : MG Bool} {a b : Bool} (h : W (ta sl C) fun x C1 => x = a ∧ C1 = C) (h2 : W (tb sl C) fun x C1 => x = b ∧ C1 = C) (q : QB (a || b) C) : W (tOrM ta tb sl C) QB := by
  refine w_tOr (h.imp fun x C1 h => ?_)
  obtain ⟨rfl, rfl⟩ := h
  cases x with
  | true => rw [if_pos rfl]; exact q
  | false => rw [if_neg Bool.false_ne_true]; exact h2.imp fun x C1 h => by obtain ⟨rfl, rfl⟩ := h; exact q
/-! equal pairs of lists -/
theorem eqv_two (a b c d : List Int) : PyData.eqv (.tuple [.list (a.map PyData.int), .list (b.map PyData.int)]) (.tuple [.list (c.map PyData.int), .list (d.map PyData.int)]) = (decide (a = c) && decide (b = d)) := by
  show (PyData.eqvAll _ _ && (PyData.eqvAll _ _ && true)) = _
  rw [eqvAll_ints, eqvAll_ints, Bool.and_true]
theorem shaped_two (a b : List Int) : SeqAt.shaped (.tuple [.list (a.map PyData.int), .list (b.map PyData.int)]) = true := by
  show ((PyData.canLayAll0 _ && (PyData.canLayAll0 _ && true)) && decide (max (PyData.depthAll _ + 1) (max (PyData.depthAll _ + 1) 0) + 1 ≤ 64)) = true
  rw [lay_ints, lay_ints, depth_ints, depth_ints]
  decide
theorem w_eqSt {a b c d : List Int} (q : QD (.bl (decide (a = c) && decide (b = d))) C) : W (gEq (.tup [.lst (a.map D.int), .lst (b.map D.int)]) (.tup [.lst (c.map D.int), .lst (d.map D.int)]) C) QD := by
  refine w_eqP (toP_two _ _) (toP_two _ _) (shaped_two _ _) (shaped_two _ _) (fun a e => by cases e) ?_
  rwa [eqv_two]
/-! ends with closed values -/
theorem fin_closed1 {C1 Y : Store} {d : D} (hl : C1.length = C.length) (hc : ClS C1) (hd : closedD 0 d = true) (h : QD d C1) : W (fin C d (C1 ++ Y)) QD := by
  refine W.of (a := d) (C := C1) ?_ h
  unfold fin
  rw [if_pos (app_cond hl (hc.at _))]
  split
  · simp [closedD] at hd
  · simp [closedD, closedDs] at hd
  · rw [if_pos (closedD_mono (Nat.zero_le _) d hd), app_take hl]
theorem fin_closed {Y : Store} {d : D} (hd : closedD 0 d = true) (h : QD d C) : W (fin C d (C ++ Y)) QD := by
  refine W.of (a := d) (C := C) ?_ h
  unfold fin
  rw [if_pos (same_cond C Y)]
  split
  · simp [closedD] at hd
  · simp [closedD, closedDs] at hd
  · rw [if_pos (closedD_mono (Nat.zero_le _) d hd), List.take_left' rfl]
theorem fin_closed0 {d : D} (hd : closedD 0 d = true) (h : QD d C) : W (fin C d C) QD := by
  have := fin_closed (Y := []) hd h
  rwa [List.append_nil] at this
theorem fin_closed10 {C1 : Store} {d : D} (hl : C1.length = C.length) (hc : ClS C1) (hd : closedD 0 d = true) (h : QD d C1) : W (fin C d C1) QD := by
  have := fin_closed1 (Y := []) hl hc hd h
  rwa [List.append_nil] at this
/-- a value without cells stays as it is; the new cells go -/
theorem w_fzV {n : Nat} (h : W (m sl C) fun d C' => ∃ C1 Y, C' = C1 ++ Y ∧ C1.length = C.length ∧ ClS C1 ∧ closedD 0 d = true ∧ QD d C1) : W (mFz n m sl C) QD := by
  refine W.bind (h.imp fun d C' h => ?_)
  obtain ⟨C1, Y, rfl, hl, hc, hd, q⟩ := h
  simp only [frz_id n _ d hd]
  exact fin_closed1 hl hc hd q
/-! blocks whose cells go -/
def gcQ (n : Nat) (ks : List Nat) (QS : Fl → Sl → Store → Prop) : Fl → Sl → Store → Prop := fun f sl1 C1 => match f with
  | .nx => ∃ C2 Y, C1 = C2 ++ Y ∧ C2.length = n ∧ ClS C2 ∧ slOk n (wipeS sl1 ks) = true ∧ QS .nx (wipeS sl1 ks) C2
  | .ct => ∃ C2 Y, C1 = C2 ++ Y ∧ C2.length = n ∧ ClS C2 ∧ slOk n (wipeS sl1 ks) = true ∧ QS .ct (wipeS sl1 ks) C2
  | f => QS f sl1 C1
theorem w_gc {ks : List Nat} (h : WS (u sl C) (gcQ C.length ks QS)) : WS (sGc ks u sl C) QS := WS.bindS (WS.imp h fun f sl1 C1 h => by
  cases f with
  | nx =>
    obtain ⟨C2, Y, rfl, hl, hc, hs, q⟩ := h
    have e : C.length ≤ (C2 ++ Y).length ∧ (∀ (i : Nat), i < C.length → (C2 ++ Y)[i]? = C[i]? ∨ ∃ c, (C2 ++ Y)[i]? = some c ∧ closedC C.length c = true) ∧ slOk C.length (wipeS sl1 ks) = true := ⟨(app_cond hl (hc.at _)).1, (app_cond hl (hc.at _)).2, hs⟩
    simp only [if_pos e]
    refine WS.ok ?_
    rw [app_take hl]
    exact q
  | ct =>
    obtain ⟨C2, Y, rfl, hl, hc, hs, q⟩ := h
    have e : C.length ≤ (C2 ++ Y).length ∧ (∀ (i : Nat), i < C.length → (C2 ++ Y)[i]? = C[i]? ∨ ∃ c, (C2 ++ Y)[i]? = some c ∧ closedC C.length c = true) ∧ slOk C.length (wipeS sl1 ks) = true := ⟨(app_cond hl (hc.at _)).1, (app_cond hl (hc.at _)).2, hs⟩
    simp only [if_pos e]
    refine WS.ok ?_
    rw [app_take hl]
    exact q
  | rt d => exact WS.ok h
  | bk => exact WS.ok h)
theorem gc_nil {ks : List Nat} (hs : slOk 0 (wipeS sl ks) = true) (q : QS .nx (wipeS sl ks) []) : gcQ ([] : Store).length ks QS .nx sl C := ⟨[], C, rfl, rfl, ClS.nil, hs, q⟩
theorem gc_r {n : Nat} {ks : List Nat} {d : D} (q : QS (.rt d) sl C) : gcQ n ks QS (.rt d) sl C := q
theorem gc_b {n : Nat} {ks : List Nat} (q : QS .bk sl C) : gcQ n ks QS .bk sl C := q
theorem w_runK {n : Nat} {ds : List D} (h : WS (u (ds.map some ++ List.replicate (n - ds.length) none) C) fun f _ C' => match f with
    | .nx => QD .non C'
    | .rt d => QD d C'
    | _ => False) : W (runK n u ds C) QD := WS.bind (h.imp fun f sl C' h => by
  cases f with
  | nx => exact W.ok h
  | rt d => exact W.ok h
  | bk => exact h.elim
  | ct => exact h.elim)
theorem rgD_length (a b : Int) : (rgD a b).length = (b - a).toNat := by simp [rgD]
theorem rgDown_length (a b : Int) : (rgDown a b).length = (a - b).toNat := by simp [rgDown]
/-- frozen: a pair of new lists -/
theorem w_fzS {n : Nat} (h : W (m sl C) fun d C1 => ∃ (xs ys : List D), d = .tup [.cell C.length, .cell (C.length + 1)] ∧ C1 = C ++ [.lst xs, .lst ys] ∧ closedDs 0 xs = true ∧ closedDs 0 ys = true ∧ QD (.tup [.lst xs, .lst ys]) C) : W (mFz (n + 2) m sl C) QD := by
  refine W.bind (h.imp fun d C1 h => ?_)
  obtain ⟨xs, ys, rfl, rfl, h1, h2, q⟩ := h
  have e1 : (C ++ [Cell.lst xs, Cell.lst ys])[C.length]? = some (.lst xs) := at_app0
  have e2 : (C ++ [Cell.lst xs, Cell.lst ys]).set C.length (.fz xs) = C ++ [.fz xs, .lst ys] := set_app0
  have e3 : (C ++ [Cell.fz xs, Cell.lst ys])[C.length + 1]? = some (.lst ys) := at_app
  have e4 : (C ++ [Cell.fz xs, Cell.lst ys]).set (C.length + 1) (.fz ys) = C ++ [.fz xs, .fz ys] := set_app
  have f1 : frz (n + 1) (.cell C.length) (C ++ [Cell.lst xs, Cell.lst ys]) = some (.lst xs, C ++ [.fz xs, .lst ys]) := by
    unfold frz
    simp only [e1, e2]
    rw [frzL_id _ xs fun x hx => frz_id n _ x (closed_mem h1 hx)]
    rfl
  have f2 : frz (n + 1) (.cell (C.length + 1)) (C ++ [Cell.fz xs, Cell.lst ys]) = some (.lst ys, C ++ [.fz xs, .fz ys]) := by
    unfold frz
    simp only [e3, e4]
    rw [frzL_id _ ys fun x hx => frz_id n _ x (closed_mem h2 hx)]
    rfl
  have f3 : frz (n + 2) (.tup [.cell C.length, .cell (C.length + 1)]) (C ++ [Cell.lst xs, Cell.lst ys]) = some (.tup [.lst xs, .lst ys], C ++ [.fz xs, .fz ys]) := by
    show (frzL (frz (n + 1)) _ _).bind _ = _
    unfold frzL
    rw [f1, Option.bind_some]
    unfold frzL
    rw [f2, Option.bind_some]
    rfl
  simp only [f3]
  refine fin_closed ?_ q
  show (closedDs 0 xs && (closedDs 0 ys && true)) = true
  rw [h1, h2]
  rfl
/-- .. one new list -/
theorem w_fzL {n : Nat} (h : W (m sl C) fun d C1 => ∃ (xs : List D), d = .cell C.length ∧ C1 = C ++ [.lst xs] ∧ closedDs 0 xs = true ∧ QD (.lst xs) C) : W (mFz (n + 1) m sl C) QD := by
  refine W.bind (h.imp fun d C1 h => ?_)
  obtain ⟨xs, rfl, rfl, h1, q⟩ := h
  have e1 : (C ++ [Cell.lst xs])[C.length]? = some (.lst xs) := at_app0
  have e2 : (C ++ [Cell.lst xs]).set C.length (.fz xs) = C ++ [.fz xs] := set_app0
  have f1 : frz (n + 1) (.cell C.length) (C ++ [Cell.lst xs]) = some (.lst xs, C ++ [.fz xs]) := by
    unfold frz
    simp only [e1, e2]
    rw [frzL_id _ xs fun x hx => frz_id n _ x (closed_mem h1 hx)]
    rfl
  simp only [f1]
  exact fin_closed h1 q
theorem w_fzV0 {n : Nat} (h : W (m sl C) fun d C' => ∃ Y, C' = C ++ Y ∧ closedD 0 d = true ∧ QD d C) : W (mFz n m sl C) QD := by
  refine W.bind (h.imp fun d C' h => ?_)
  obtain ⟨Y, rfl, hd, q⟩ := h
  simp only [frz_id n _ d hd]
  exact fin_closed hd q
end
theorem w_gmNn {i : Nat} {d : D} {sl sl' : Sl} {C : Store} {Q : Sl → Store → Prop} (e : sl.set i (some d) = sl') (h : Q sl' C) : W (gmN i d sl C) Q := by
  subst e
  exact w_gmN h
theorem w_runn {n : Nat} {u : MS} {ds : List D} {C : Store} {sl' : Sl} {QD : D → Store → Prop} (e : ds.map some ++ List.replicate (n - ds.length) none = sl') (h : WS (u sl' C) fun f _ C' => match f with
    | .nx => W (fin C .non C') QD
    | .rt d => W (fin C d C') QD
    | _ => False) : W (runD n u ds C) QD := by
  subst e
  exact w_run h
theorem w_runKn {n : Nat} {u : MS} {ds : List D} {C : Store} {sl' : Sl} {QD : D → Store → Prop} (e : ds.map some ++ List.replicate (n - ds.length) none = sl') (h : WS (u sl' C) fun f _ C' => match f with
    | .nx => QD .non C'
    | .rt d => QD d C'
    | _ => False) : W (runK n u ds C) QD := by
  subst e
  exact w_runK h
theorem gc_niln {QS : Fl → Sl → Store → Prop} {sl sl' : Sl} {C : Store} {ks : List Nat} (e : wipeS sl ks = sl') (hs : slOk 0 sl' = true) (q : QS .nx sl' []) : gcQ ([] : Store).length ks QS .nx sl C := by
  subst e
  exact gc_nil hs q
theorem w_parn {i j : Nat} {mas : MG (List D)} {sl : Sl} {C : Store} {QS : Fl → Sl → Store → Prop} (h : W (mas sl C) fun xs C1 => ∃ x y, xs = [x, y] ∧ ∃ sl', (sl.set i (some x)).set j (some y) = sl' ∧ QS .nx sl' C1) : WS (sPar i j mas sl C) QS :=
  w_par (h.imp fun xs C1 h => by
    obtain ⟨x, y, rfl, sl', rfl, q⟩ := h
    exact ⟨x, y, rfl, q⟩)
theorem slset_i {sl sl' : Sl} {P : Sl → Prop} (e : sl = sl') (h : P sl') : ∃ s, sl = s ∧ P s := ⟨sl', e, h⟩
end Nv

namespace Nv
open PySem PySem.Spec PyProof.Rows L2
section
variable {QD : D → Store → Prop} {QS : Fl → Sl → Store → Prop} {sl : Sl} {C : Store} {m : ME} {t : MG Bool} {u : MS} {g : MT} {gd : Gd} {ds : List D} {A : Type} {φ : A → D}
/-- a comprehension over a list told by things: maps -/
theorem w_lcA {l : List A} {f : A → D} {Q : List D → Store → Prop} (hg : okG gd C) (step : ∀ (i : Nat) (a : A), l[i]? = some a → W (g (φ a) sl C) fun sl1 C1 => W (m sl1 C1) fun e C3 => e = f a ∧ C3 = C) (q : Q (l.map f) C) : W (lcM g tTrue m gd sl (l.map φ) C) Q := by
  refine w_lcM (fun i acc C' => C' = C ∧ acc = (l.take i).map f) (fun _ _ _ h => h.1 ▸ hg) (fun i d acc C' hd h => ?_) (fun zs C' h => ?_) ⟨rfl, rfl⟩
  · obtain ⟨rfl, rfl⟩ := h
    rw [List.getElem?_map, Option.map_eq_some_iff] at hd
    obtain ⟨a, ha, rfl⟩ := hd
    refine (step i a ha).imp fun sl1 C1 h => w_tTrue ?_
    rw [if_pos rfl]
    refine h.imp fun e C3 h => ?_
    obtain ⟨rfl, rfl⟩ := h
    exact ⟨rfl, by rw [List.take_succ, ha]; simp⟩
  · obtain ⟨rfl, rfl⟩ := h
    rw [List.length_map, List.take_length]
    exact q
/-- .. sifts, and maps -/
theorem w_lcAf {l : List A} {p : A → Bool} {f : A → D} {Q : List D → Store → Prop} (hg : okG gd C) (step : ∀ (i : Nat) (a : A), l[i]? = some a → W (g (φ a) sl C) fun sl1 C1 => W (t sl1 C1) fun b C2 => b = p a ∧ C2 = C ∧ (p a = true → W (m sl1 C) fun e C3 => e = f a ∧ C3 = C)) (q : Q ((l.filter p).map f) C) : W (lcM g t m gd sl (l.map φ) C) Q := by
  refine w_lcM (fun i acc C' => C' = C ∧ acc = ((l.take i).filter p).map f) (fun _ _ _ h => h.1 ▸ hg) (fun i d acc C' hd h => ?_) (fun zs C' h => ?_) ⟨rfl, rfl⟩
  · obtain ⟨rfl, rfl⟩ := h
    rw [List.getElem?_map, Option.map_eq_some_iff] at hd
    obtain ⟨a, ha, rfl⟩ := hd
    refine (step i a ha).imp fun sl1 C1 h => h.imp fun b C2 h => ?_
    obtain ⟨rfl, rfl, h⟩ := h
    rw [List.take_succ, ha, List.filter_append, List.map_append]
    by_cases hp : p a = true
    · rw [if_pos hp]
      refine (h hp).imp fun e C3 h => ?_
      obtain ⟨rfl, rfl⟩ := h
      exact ⟨rfl, by simp [hp]⟩
    · rw [if_neg hp]
      exact ⟨rfl, by simp [hp]⟩
  · obtain ⟨rfl, rfl⟩ := h
    rw [List.length_map, List.take_length]
    exact q
theorem lt0 : ([] : List D).length < sizeLine := by simp [sizeLine]
theorem lt1 {a : D} : [a].length < sizeLine := by simp [sizeLine]
theorem lt1a {a : D} : (([] : List D) ++ [a]).length < sizeLine := by simp [sizeLine]
theorem seqIx_nat {r n : Nat} (h : r < n) : seqIndex? (r : Int) n = some r := by
  unfold seqIndex?
  have h1 : ¬ ((r : Int) < 0) := by omega
  have h2 : (0 : Int) ≤ r := by omega
  have h3 : (r : Int) < n := by omega
  simp only [if_neg h1, h2, h3, decide_true, Bool.and_self, if_true, Int.toNat_natCast]
theorem w_popAt {k r : Nat} {ds : List D} {x : D} (hk : C[k]? = some (.lst ds)) (e : ds[r]? = some x) (hr : r ≤ 1000000) (h : QD x (C.set k (.lst (ds.eraseIdx r)))) : W (gPop (.cell k) [.int (r : Int)] C) QD := by
  refine W.of (a := x) (C := C.set k (.lst (ds.eraseIdx r))) ?_ h
  show (match (mutAt C k).map (fun ds => (k, ds)), [D.int (r : Int)] with
    | some (i, xs), [] => match xs[xs.length - 1]? with
      | some y => R.ok (y, C.set i (.lst xs.dropLast))
      | none => .no
    | some (i, xs), [.int k] => if lowI k = true then match seqIndex? k xs.length with
        | some j => match xs[j]? with
          | some y => R.ok (y, C.set i (.lst (xs.eraseIdx j)))
          | none => .no
        | none => .no
      else .no
    | _, _ => .no) = _
  have hl := (List.getElem?_eq_some_iff.mp e).1
  rw [mutAt_lst hk]
  simp only [Option.map_some, low_of (i := (r : Int)) (by omega) (by omega), if_true, seqIx_nat hl, e]
end
end Nv

namespace Nv
open PySem PySem.Spec PyProof.Rows L2
/-! calls by keywords alone -/
/-- the keywords' values in the parameters' order -/
def pmV {A : Type} (pm : List Nat) : List A → List A → List A
  | [], ws => if ws.length = pm.length then pm.filterMap (fun i : Nat => ws[i]?) else []
  | _ :: _, _ => []
theorem pmV_nil {A : Type} (pm : List Nat) (ws : List A) : pmV pm [] ws = if ws.length = pm.length then pm.filterMap (fun i : Nat => ws[i]?) else [] := rfl
def DefAtK (K : PySem.W.Frag) (mg : Str → Option Value) (x : Str) (st : Stmt) (ps ks : List Str) (pm : List Nat) : Prop := ∃ f fd, Fun K x x st f fd ∧ mg x = some (.ref f) ∧ KBinds K fd ps ks (pmV pm) (pmV pm)
def CalK (P : Program) (w : World) (K : PySem.W.Frag) (mg : Str → Option Value) (base : Heap) (x : Str) (k n : Nat) (ks : List Str) (pm : List Nat) (mf : MF) : Prop :=
  ∃ f fd ps, FnG P w K mg base k f fd ps (spN K mg n mf) ∧ mg x = some (.ref f) ∧ PySem.W.keepIn K (.ref f) = true ∧ KBinds K fd ps ks (pmV pm) (pmV pm)
section
variable {P : Program} {w : World} {K : PySem.W.Frag} {mg : Str → Option Value} {base : Heap}
theorem CalK.of {x : Str} {st : Stmt} {N ps ks : List Str} {pm : List Nat} {k : Nat} {u : MS} (h : DefAtK K mg x st ps ks pm) (S : FnScope N ps (defScope st))
    (hb : ∀ (f : Addr) (cdv : Value) (A : Around) (outer : List Env) (s : Shared) (H : Hp) (E : XK), Room k (A.deeper (envOfC x (defScope st) s.heap.objs.size f cdv)) → A.guards = some [] →
      NSs (cxOf (L2.CX P w) P w K mg base N x (defScope st) f cdv A outer s H E) E (defBody st) u) : CalK P w K mg base x (k + 1) ps.length ks pm (runD N.length u) := by
  obtain ⟨f, fd, h1, h2, h3⟩ := h
  exact ⟨f, fd, ps, okD h1 S fun cdv A outer s H E hr hg => hb f cdv A outer s H E hr hg, h2, h1.kp, h3⟩
theorem CalK.ofK {x : Str} {st : Stmt} {N ps ks : List Str} {pm : List Nat} {k : Nat} {u : MS} (h : DefAtK K mg x st ps ks pm) (S : FnScope N ps (defScope st))
    (hb : ∀ (f : Addr) (cdv : Value) (A : Around) (outer : List Env) (s : Shared) (H : Hp) (E : XK), Room k (A.deeper (envOfC x (defScope st) s.heap.objs.size f cdv)) → A.guards = some [] →
      NSs (cxOf (L2.CX P w) P w K mg base N x (defScope st) f cdv A outer s H E) E (defBody st) u) : CalK P w K mg base x (k + 1) ps.length ks pm (runK N.length u) := by
  obtain ⟨f, fd, h1, h2, h3⟩ := h
  exact ⟨f, fd, ps, okDK h1 S fun cdv A outer s H E hr hg => hb f cdv A outer s H E hr hg, h2, h1.kp, h3⟩
end
section
variable {X : Cx} {E : XK} {pos p : Pos} {f : Addr} {fd : FuncData} {ps : List Str} {k : Nat} {x : Str}
structure NKs (X : Cx) (E : XK) (kws : List Keyword) (m : MG (List D)) : Prop where
  pk : PK X kws (LG (Reps X.K) X.K X.mg E m)
theorem nk_nil : NKs X E [] aNil := ⟨⟨fun pos pins s σ H Q I h => pk_nil.run pos pins s σ H Q I (by
  obtain ⟨B, F, r, sl, C, hr, hs, o⟩ := h
  exact o F r H [] (.refl _) (.refl _) hr .nil)⟩⟩
theorem nk_cons {nm : Option Str} {e : Expr} {kpos : Pos} {kws : List Keyword} {ma : ME} {mas : MG (List D)} (ha : NE X E e ma) (hr : NKs X E kws mas) : NKs X E (⟨nm, e, kpos⟩ :: kws) (aCons ma mas) :=
  ⟨⟨fun pos pins s σ H Q I h => (pk_cons ha.pe hr.pk).run pos pins s σ H Q I (by
    obtain ⟨B, F, r, sl, C, hr, hs, o⟩ := h
    refine ⟨B, F, r, sl, C, hr, hs, Out.bind (P := Rep X.K) o fun x C1 F1 r1 H1 v e1 e2 hr1 hx o1 => ?_⟩
    refine ⟨B, F1, r1, sl, C1, hr1, hs.mono e1 e2, Out.bind (P := Reps X.K) o1 fun y C2 F2 r2 H2 w e3 e4 hr2 hy o2 => ?_⟩
    exact o2 F2 r2 H2 (v :: w) (.refl _) (.refl _) hr2 (.cons (hx.mono e3 e4) hy))⟩⟩
def mFK (n : Nat) (pm : List Nat) (mf : MF) (mas : MG (List D)) : ME := fun sl C => (mas sl C).bind fun p => if (pmV pm [] p.1).length = n then mf (pmV pm [] p.1) p.2 else .no
end
theorem w_FK {n : Nat} {pm : List Nat} {mf : MF} {mas : MG (List D)} {sl : Sl} {C : Store} {QD : D → Store → Prop} (h : W (mas sl C) fun xs C1 => ∃ ys, pmV pm [] xs = ys ∧ ys.length = n ∧ W (mf ys C1) QD) : W (mFK n pm mf mas sl C) QD := W.bind (h.imp fun xs C1 h => by
  obtain ⟨ys, rfl, hl, q⟩ := h
  simp only [if_pos hl]
  exact q)
theorem pm_i {pm : List Nat} {xs ys : List D} {P : List D → Prop} (e : pmV pm [] xs = ys) (h : P ys) : ∃ zs, pmV pm [] xs = zs ∧ P zs := ⟨ys, e, h⟩
end Nv

namespace Nv
open PySem PySem.Spec PyProof.Rows L2
section
variable {K : PySem.W.Frag} {mg : Str → Option Value} {E : XK} {B F H : Hp} {r : List Addr} {C : Store} {Q : VK} {X : Cx} {a b e o i value kx vx tg it : Expr} {es : List Expr} {m ma mb mo mv mi mk : ME} {mas : MG (List D)} {pos p1 p2 p3 : Pos}
/-! dicts asked whether they have a key; dicts whose keys are flat -/
theorem val_none {κ : Type} [DecidableEq κ] {k : κ} : ∀ {kvs : List (κ × D)} {ws : List (κ × V)}, kvs.map (·.1) = ws.map (·.1) → (valD kvs k).isSome = (valV ws k).isSome
  | [], [], _ => rfl
  | [], _ :: _, h => by cases h
  | _ :: _, [], h => by cases h
  | kv :: kvs, w :: ws, h => by
    rw [List.map_cons, List.map_cons, List.cons.injEq] at h
    have ih := val_none (k := k) h.2
    unfold valD valV at ih ⊢
    rw [List.find?_cons, List.find?_cons]
    by_cases hk : kv.1 = k
    · rw [decide_eq_true hk, decide_eq_true (h.1.symm.trans hk)]
      rfl
    · rw [decide_eq_false hk, decide_eq_false fun z => hk (h.1.trans z)]
      exact ih
/-! flat keys -/
def dkAt (C : Store) : D → Option (Nat × List (Key × D))
  | .cell i => match C[i]? with
    | some (.dk kvs) => some (i, kvs)
    | _ => none
  | _ => none
theorem dkAt_ok {x : D} {v : V} {i : Nat} {kvs : List (Key × D)} (hr : Rel K B F r H C) (hx : Rep K F r x v) (e : dkAt C x = some (i, kvs)) :
    ∃ a ws, v = .ref a ∧ r[i]? = some a ∧ F a = none ∧ H a = some (.dK ws) ∧ kvs.map (·.1) = ws.map (·.1) ∧ Reps K F r (kvs.map (·.2)) (ws.map (·.2)) := by
  unfold dkAt at e
  split at e
  · split at e
    · rename_i ks ec
      cases e
      obtain ⟨a, rfl, ha⟩ := hx
      obtain ⟨h1, ws, h2, h3, h4⟩ := hr.cells _ _ a ec ha
      exact ⟨a, ws, rfl, ha, h1, h2, h3, h4⟩
    · cases e
  · cases e
/-- {}, a thing that nobody changes -/
def mDEmp : ME := fun _ C => .ok (.edct, C)
theorem ne_demp : NE X E (.Dict [] [] pos) mDEmp := ⟨pe_imp pe_dnewK fun s H Q q => by
    obtain ⟨B, F, r, sl, C, hr, hs, o⟩ := q
    intro p hp
    exact o (upd F p (.dK [])) r _ _ (same_new (hr.freeF hp)) (.refl r) (hr.freeze hp) ⟨p, rfl, upd_same⟩⟩
/-- d[k] -/
def mDGetK (mo mi : ME) : ME := fun sl C => (mo sl C).bind fun p => (mi sl p.2).bind fun q => match dkAt q.2 p.1, keyOf q.1 with
  | some (_, kvs), some k => match valD kvs k with
    | some d => .ok (d, q.2)
    | none => .no
  | _, _ => .no
theorem ne_dgetK (hu : X.A.units + 64 < cLine) (ho : NE X E o mo) (hi : NE X E i mi) (hs : NoSl i := by intro _ _; rfl) : NE X E (.Subscript o i pos) (mDGetK mo mi) :=
  ⟨pe_imp (pe_dget (show X.A.units + 1 < cLine by omega) ho.pe hi.pe hs) fun s H Q q => by
    obtain ⟨B, F, r, sl, C, hr, hs, o⟩ := q
    refine ⟨B, F, r, sl, C, hr, hs, Out.bind (P := Rep X.K) o fun x C1 F1 r1 H1 v e1 e2 hr1 hx o1 => ?_⟩
    refine ⟨B, F1, r1, sl, C1, hr1, hs.mono e1 e2, Out.bind (P := Rep X.K) o1 fun y C2 F2 r2 H2 u e3 e4 hr2 hy o2 => ?_⟩
    have hx2 := hx.mono e3 e4
    simp only at o2
    split at o2
    · rename_i n kvs k ed ek
      split at o2
      · rename_i d ev
        obtain ⟨a, ws, rfl, h1, h2, h3, h4, h5⟩ := dkAt_ok hr2 hx2 ed
        obtain ⟨w, g1, g2⟩ := val_ok h4 h5 ev
        refine ⟨a, w, rfl, ?_, out_ok hr2 g2 o2⟩
        rw [← g1, keyOf_ok hy ek]
        exact DGet.k h3
      · exact False.elim o2
    · exact False.elim o2⟩
/-- d.get(k), d.get(k, z) -/
def mDGet1 (mo mi : ME) : ME := fun sl C => (mo sl C).bind fun p => match dkAt p.2 p.1 with
  | some _ => (mi sl p.2).bind fun q => match dkAt q.2 p.1, keyOf q.1 with
    | some (_, kvs), some k => .ok ((valD kvs k).getD .non, q.2)
    | _, _ => .no
  | none => .no
theorem val_opt {kvs : List (Key × D)} {ws : List (Key × V)} {k : Key} {z : D} {zv : V} (h4 : kvs.map (·.1) = ws.map (·.1)) (h5 : Reps K F r (kvs.map (·.2)) (ws.map (·.2))) (hz : Rep K F r z zv) : Rep K F r ((valD kvs k).getD z) ((valV ws k).getD zv) := by
  cases ev : valD kvs k with
  | none =>
    have := val_none (k := k) h4
    rw [ev] at this
    cases ew : valV ws k with
    | none => exact hz
    | some w => rw [ew] at this; cases this
  | some d =>
    obtain ⟨w, g1, g2⟩ := val_ok h4 h5 ev
    rw [g1]
    exact g2
theorem ne_dget1 {apos : Pos} (hu : X.A.units + 64 < cLine) (ho : NE X E o mo) (hi : NE X E i mi) (m : M1 X o "get" apos i pos := by exact ⟨rfl, rfl, rfl, rfl⟩) : NE X E (.Call (.Attribute o "get" apos) [i] [] pos) (mDGet1 mo mi) :=
  ⟨pe_imp (pe_dget1 (show X.A.units + 1 < cLine by omega) ho.pe hi.pe m) fun s H Q q => by
    obtain ⟨B, F, r, sl, C, hr, hs, o⟩ := q
    refine ⟨B, F, r, sl, C, hr, hs, Out.bind (P := Rep X.K) o fun x C1 F1 r1 H1 v e1 e2 hr1 hx o1 => ?_⟩
    simp only at o1
    split at o1
    case h_2 => exact False.elim o1
    rename_i p0 ed0
    obtain ⟨n0, kvs0⟩ := p0
    obtain ⟨a, ws0, rfl, _, _, h30, _, _⟩ := dkAt_ok hr1 hx ed0
    refine ⟨a, rfl, .inl ⟨_, .inl h30⟩, B, F1, r1, sl, C1, hr1, hs.mono e1 e2, Out.bind (P := Rep X.K) o1 fun y C2 F2 r2 H2 u e3 e4 hr2 hy o2 => ?_⟩
    have hx2 := hx.mono e3 e4
    simp only at o2
    split at o2
    · rename_i n kvs k ed ek
      obtain ⟨a2, ws, ea, h1, h2, h3, h4, h5⟩ := dkAt_ok hr2 hx2 ed
      cases ea
      refine ⟨valV ws k, ?_, out_ok hr2 (val_opt (z := .non) h4 h5 rfl) o2⟩
      rw [keyOf_ok hy ek]
      exact DGet.k h3
    · exact False.elim o2⟩
/-- k in d, not in d -/
def mDInK (neg : Bool) (mi mo : ME) : ME := fun sl C => (mi sl C).bind fun q => (mo sl q.2).bind fun p => match dkAt p.2 p.1, keyOf q.1 with
  | some (_, kvs), some k => .ok (.bl (if neg then !(valD kvs k).isSome else (valD kvs k).isSome), p.2)
  | _, _ => .no
theorem dinK_ok {neg : Bool} {s : L2.St} {H : Hp} {Q : VK} (q : LG (Rep X.K) X.K X.mg E (mDInK neg mi mo) s H Q) : LG (Rep X.K) X.K X.mg E mi s H fun y H1 => LG (Rep X.K) X.K X.mg E mo s H1 fun x H2 => ∃ a o, x = .ref a ∧ DGet H2 a y o ∧ Q (.bl (if neg then !o.isSome else o.isSome)) H2 := by
  obtain ⟨B, F, r, sl, C, hr, hs, o⟩ := q
  refine ⟨B, F, r, sl, C, hr, hs, Out.bind (P := Rep X.K) o fun x C1 F1 r1 H1 v e1 e2 hr1 hx o1 => ?_⟩
  refine ⟨B, F1, r1, sl, C1, hr1, hs.mono e1 e2, Out.bind (P := Rep X.K) o1 fun y C2 F2 r2 H2 u e3 e4 hr2 hy o2 => ?_⟩
  have hx2 := hx.mono e3 e4
  simp only at o2
  split at o2
  · rename_i n kvs k ed ek
    obtain ⟨a, ws, rfl, h1, h2, h3, h4, h5⟩ := dkAt_ok hr2 hy ed
    refine ⟨a, valV ws k, rfl, ?_, ?_⟩
    · rw [keyOf_ok hx2 ek]
      exact DGet.k h3
    · rw [← val_none h4]
      exact out_ok (d := .bl (if neg then !(valD kvs k).isSome else (valD kvs k).isSome)) hr2 rfl o2
  · exact False.elim o2
theorem nt_dinK (hu : X.A.units + 64 < cLine) (hi : NE X E i mi) (ho : NE X E o mo) (hk : behindInMarks .In o = false := by rfl) : NT X E (.Compare i [.In] [o] pos) (mT (mDInK false mi mo)) :=
  ⟨pt_imp (pt_cmp (pc_din (show X.A.units + 1 < cLine by omega) hi.pe ho.pe) hk) (test fun _ _ _ q => dinK_ok (neg := false) q)⟩
/-- len(d) -/
def gLenK (x : D) (C : Store) : RE := match dkAt C x with
  | some (_, kvs) => .ok (.int kvs.length, C)
  | none => .no
theorem lenKN : CallN K mg E (fun xs H Q => ∃ a kvs, xs = [V.ref a] ∧ H a = some (.dK kvs) ∧ Q (.int kvs.length) H) (on1 gLenK) := on1N fun B F r H C x v Q hr hx o => by
  unfold gLenK at o
  split at o
  · rename_i n kvs e
    obtain ⟨a, ws, rfl, h1, h2, h3, h4, h5⟩ := dkAt_ok hr hx e
    refine ⟨a, ws, rfl, h3, ?_⟩
    have hlen := congrArg List.length h4
    rw [List.length_map, List.length_map] at hlen
    rw [← hlen]
    exact out_ok (d := .int kvs.length) hr rfl o
  · exact False.elim o
/-! dict comprehensions -/
theorem wipe_twice : ∀ (own : List Nat) (s : L2.St), L2.wipe (L2.wipe s own) own = L2.wipe s own := by
  have none_stays : ∀ (l : List Nat) (x : Nat) (z : L2.St), z[x]? = some none ∨ z.length ≤ x → (wipe z l)[x]? = some none ∨ (wipe z l).length ≤ x := by
    intro l
    induction l with
    | nil => intro x z h; exact h
    | cons v vs ih =>
      intro x z h
      unfold wipe
      by_cases hv : v = x
      · subst hv
        by_cases hv2 : v < (wipe z vs).length
        · exact .inl (List.getElem?_set_self hv2)
        · exact .inr (by simpa using hv2)
      · rw [List.getElem?_set_ne hv, List.length_set]
        exact ih x z h
  have fix : ∀ (l : List Nat) (z : L2.St), (∀ x ∈ l, z[x]? = some none ∨ z.length ≤ x) → wipe z l = z := by
    intro l
    induction l with
    | nil => intro z _; rfl
    | cons v vs ih =>
      intro z h
      unfold wipe
      rw [ih z fun x hx => h x (List.mem_cons_of_mem _ hx)]
      rcases h v List.mem_cons_self with e | e
      · apply List.ext_getElem?
        intro j
        by_cases hj : v = j
        · subst hj
          rw [List.getElem?_set_self (List.getElem?_eq_some_iff.mp e).1, e]
        · rw [List.getElem?_set_ne hj]
      · rw [List.set_eq_of_length_le e]
  have done : ∀ (l : List Nat) (z : L2.St), ∀ x ∈ l, (wipe z l)[x]? = some none ∨ (wipe z l).length ≤ x := by
    intro l
    induction l with
    | nil => intro z x hx; cases hx
    | cons v vs ih =>
      intro z x hx
      unfold wipe
      by_cases hv : v = x
      · subst hv
        by_cases hv2 : v < (wipe z vs).length
        · exact .inl (List.getElem?_set_self hv2)
        · exact .inr (by simpa using hv2)
      · rw [List.getElem?_set_ne hv, List.length_set]
        exact ih z x ((List.mem_cons.mp hx).resolve_left (Ne.symm hv))
  exact fun own s => fix own _ (done own s)
open Classical in
noncomputable def dcM (g : MT) (t : MG Bool) (mk mv : ME) (gd : Gd) (sl : Sl) : List D → List (Key × D) → Store → R (List (Key × D) × Store)
  | [], kvs, C => if okG gd C then .ok (kvs, C) else .no
  | d :: ds, kvs, C => if okG gd C then (g d sl C).bind fun q => (t q.1 q.2).bind fun b => if b.1 = true then (mk q.1 b.2).bind fun k => (mv q.1 k.2).bind fun e => match keyOf k.1 with
      | some key => if kvs.length < sizeLine then dcM g t mk mv gd sl ds (putD kvs key e.1) e.2 else .no
      | none => .no
      else dcM g t mk mv gd sl ds kvs b.2
    else .no
noncomputable def mDc (own : List Nat) (mi : MI) (g : MT) (t : MG Bool) (mk mv : ME) : ME := fun sl C => (mi sl C).bind fun p => (R.calm (dcM g t mk mv p.1.2 (wipeS sl own) p.1.1 [] p.2)).bind fun z => .ok (.cell z.2.length, z.2 ++ [.dk z.1])
theorem dc_ok {own : List Nat} {mi : MI} {g : MT} {t : MG Bool} {mk mv : ME} : ∀ s H Q, LG (Rep K) K mg E (mDc own mi g t mk mv) s H Q → tDc (LI K mg E mi) (LT own K mg EN g) (LG PB K mg EN t) (LG (Rep K) K mg EN mk) (LG (Rep K) K mg EN mv) own s H Q := fun s H Q q => by
    obtain ⟨B, F, r, sl, C, hr, hs, o⟩ := q
    refine ⟨B, F, r, sl, C, hr, hs, Out.bind (P := fun F' r' k J => ∀ B', WalkN K B' J F' r' k) o fun k C1 F1 r1 H1 J e1 e2 hr1 hJ o1 => ?_⟩
    obtain ⟨ds, gd⟩ := k
    intro p hp
    simp only at o1
    obtain ⟨⟨out, Cn⟩, hdc, o1⟩ : ∃ z, dcM g t mk mv gd (wipeS sl own) ds [] C1 = .ok z ∧ Out (Rep K) K mg E B F1 r1 (.ok (.cell z.2.length, z.2 ++ [.dk z.1])) Q := by
      cases hl : dcM g t mk mv gd (wipeS sl own) ds [] C1 with
      | ok z => rw [hl] at o1; exact ⟨z, rfl, o1⟩
      | ex y Cy => rw [hl] at o1; exact False.elim o1
      | no => rw [hl] at o1; exact False.elim o1
    have hs1 := hs.mono e1 e2
    refine ⟨fun i n H2 => n = ds.length - i ∧ i ≤ ds.length ∧ ∃ F2 r2 C2 acc ws, Same F1 F2 ∧ Ex r1 r2 ∧ Rel K (upd B p (.dK ws)) F2 r2 H2 C2 ∧ acc.map (·.1) = ws.map (·.1) ∧ Reps K F2 r2 (acc.map (·.2)) (ws.map (·.2)) ∧ dcM g t mk mv gd (wipeS sl own) (ds.drop i) acc C2 = .ok (out, Cn),
      ⟨ds.length, by simp, Nat.zero_le _, F1, r1, C1, [], [], .refl _, .refl _, hr1.aside hp, rfl, Reps.nil, hdc⟩, ?_⟩
    rintro i n H2 ⟨rfl, hi, F2, r2, C2, acc, ws, e3, e4, hr2, hkeys, hacc, h2⟩
    have hJ := hJ (upd B p (.dK ws))
    by_cases hl : i < ds.length
    · have ed : ds[i]? = some ds[i] := List.getElem?_eq_getElem hl
      rw [List.drop_eq_getElem_cons hl] at h2
      unfold dcM at h2
      split at h2
      case isFalse => cases h2
      rename_i hok
      obtain ⟨⟨sl4, C4⟩, hg, h2⟩ := bind_okR h2
      obtain ⟨⟨bt, C5⟩, ht, h2⟩ := bind_okR h2
      refine .inr ⟨hJ.goes i F2 r2 H2 C2 hl e3 e4 hr2 hok, fun H3 => ∃ F2 r2 C2 acc ws, Same F1 F2 ∧ Ex r1 r2 ∧ Rel K (upd B p (.dK ws)) F2 r2 H3 C2 ∧ acc.map (·.1) = ws.map (·.1) ∧ Reps K F2 r2 (acc.map (·.2)) (ws.map (·.2)) ∧ dcM g t mk mv gd (wipeS sl own) (ds.drop (i + 1)) acc C2 = .ok (out, Cn),
        fun H3 h => ⟨ds.length - (i + 1), by omega, rfl, hl, h⟩, fun x H3 y => ?_⟩
      obtain ⟨F3, e5, hr3, hx⟩ := hJ.yields i _ F2 r2 H2 C2 x H3 ed e3 e4 hr2 hok y
      have hs3 : Sls K F3 r2 (wipeS sl own) (wipe s own) := Sls.wipe (hs1.mono (e3.trans e5) e4) own
      refine ⟨upd B p (.dK ws), F3, r2, wipeS sl own, C2, ds[i], hr3, hs3, hx, out_of hg fun F4 r4 H4 s4 e6 e7 hr4 hs4 => ?_⟩
      refine ⟨hs4.2.trans (wipe_twice own s), upd B p (.dK ws), F4, r4, sl4, C4, hr4, hs4.1, out_of ht fun F5 r5 H5 b e8 e9 hr5 hb => ?_⟩
      subst hb
      cases bt with
      | false =>
        rw [if_neg Bool.false_ne_true] at h2 ⊢
        exact ⟨F5, r5, C5, acc, ws, ((e3.trans e5).trans e6).trans e8, (e4.trans e7).trans e9, hr5, hkeys, hacc.mono ((e5.trans e6).trans e8) (e7.trans e9), h2⟩
      | true =>
        rw [if_pos rfl] at h2 ⊢
        obtain ⟨⟨kd, C6⟩, hm, h2⟩ := bind_okR h2
        obtain ⟨⟨ev, C7⟩, hm2, h2⟩ := bind_okR h2
        simp only at h2
        split at h2
        case h_2 => cases h2
        rename_i key hkey
        split at h2
        case isFalse => cases h2
        rename_i hz
        refine ⟨upd B p (.dK ws), F5, r5, sl4, C5, hr5, hs4.1.mono e8 e9, out_of hm fun F6 r6 H6 kv k1 k2 hr6 hk6 => ?_⟩
        refine ⟨upd B p (.dK ws), F6, r6, sl4, C6, hr6, (hs4.1.mono e8 e9).mono k1 k2, out_of hm2 fun F7 r7 H7 v k3 k4 hr7 hv => ?_⟩
        have hacc7 := hacc.mono ((((e5.trans e6).trans e8).trans k1).trans k3) (((e7.trans e9).trans k2).trans k4)
        have hlen := congrArg List.length hkeys
        rw [List.length_map, List.length_map] at hlen
        exact ⟨ws, key, keyOf_ok hk6 hkey, hr7.base p _ upd_same, by omega, F7, r7, C7, putD acc key ev, putK ws key v, ((((e3.trans e5).trans e6).trans e8).trans k1).trans k3, (((e4.trans e7).trans e9).trans k2).trans k4, hr7.asideSet, putD_keys hkeys, putD_reps hkeys hacc7 hv, h2⟩
    · have ei : i = ds.length := by omega
      subst ei
      rw [List.drop_length] at h2
      unfold dcM at h2
      split at h2
      case isFalse => cases h2
      rename_i hok
      cases h2
      refine .inl ⟨hJ.stops F2 r2 H2 _ e3 e4 hr2 hok, ?_⟩
      have hB : B p = none := Same.free hr1.base hp
      refine o1 F2 (r2 ++ [p]) H2 _ e3 (e4.trans (Ex.app r2 _)) (hr2.asideCell hB ⟨hr2.apart p _ upd_same, ws, hr2.base p _ upd_same, hkeys, hacc.mono (.refl _) (Ex.app r2 _)⟩) ⟨p, rfl, ?_⟩
      rw [← hr2.len, List.getElem?_append_right (Nat.le_refl _)]
      simp
end
/-! reasoning -/
section
variable {QD : D → Store → Prop} {QS : Fl → Sl → Store → Prop} {sl : Sl} {C : Store} {m mo mi mv : ME} {mas : MG (List D)} {n : Nat}
theorem w_demp (h : QD .edct C) : W (mDEmp sl C) QD := W.ok h
theorem dkAt_c {i : Nat} {kvs : List (Key × D)} (h1 : C[i]? = some (.dk kvs)) : dkAt C (.cell i) = some (i, kvs) := by unfold dkAt; simp only [h1]
theorem w_dgetK (h : W (mo sl C) fun x C1 => W (mi sl C1) fun y C2 => ∃ i kvs k d, x = .cell i ∧ C2[i]? = some (.dk kvs) ∧ keyOf y = some k ∧ valD kvs k = some d ∧ QD d C2) : W (mDGetK mo mi sl C) QD :=
  W.bind (h.imp fun x C1 h => W.bind (h.imp fun y C2 h => by
    obtain ⟨i, kvs, k, d, rfl, h1, h2, h3, q⟩ := h
    simp only [dkAt_c h1, h2, h3]
    exact W.ok q))
theorem w_dget1 (h : W (mo sl C) fun x C1 => ∃ i kvs0, x = .cell i ∧ C1[i]? = some (.dk kvs0) ∧ W (mi sl C1) fun y C2 => ∃ kvs k, C2[i]? = some (.dk kvs) ∧ keyOf y = some k ∧ QD ((valD kvs k).getD .non) C2) : W (mDGet1 mo mi sl C) QD :=
  W.bind (h.imp fun x C1 h => by
    obtain ⟨i, kvs0, rfl, h0, h⟩ := h
    simp only [dkAt_c h0]
    exact W.bind (h.imp fun y C2 h => by
      obtain ⟨kvs, k, h1, h2, q⟩ := h
      simp only [dkAt_c h1, h2]
      exact W.ok q))
theorem w_dinK {neg : Bool} (h : W (mi sl C) fun y C1 => W (mo sl C1) fun x C2 => ∃ i kvs k, x = .cell i ∧ C2[i]? = some (.dk kvs) ∧ keyOf y = some k ∧ QD (.bl (if neg then !(valD kvs k).isSome else (valD kvs k).isSome)) C2) : W (mDInK neg mi mo sl C) QD :=
  W.bind (h.imp fun y C1 h => W.bind (h.imp fun x C2 h => by
    obtain ⟨i, kvs, k, rfl, h1, h2, q⟩ := h
    simp only [dkAt_c h1, h2]
    exact W.ok q))
theorem w_lenK {i : Nat} {kvs : List (Key × D)} (h1 : C[i]? = some (.dk kvs)) (q : QD (.int kvs.length) C) : W (on1 gLenK [.cell i] C) QD := by
  refine W.of (a := .int kvs.length) (C := C) ?_ q
  show gLenK (.cell i) C = _
  unfold gLenK
  simp only [dkAt_c h1]
/-- a dict comprehension over things told by a list, with no effect -/
theorem w_dcA {A : Type} {φ : A → D} {l : List A} {g : MT} {t : MG Bool} {mk : ME} {gd : Gd} {p : A → Bool} {kf : A → Key} {vf : A → D} {Q : List (Key × D) → Store → Prop} (hg : okG gd C) (hl : l.length ≤ 1000000)
    (step : ∀ (i : Nat) (a : A), l[i]? = some a → W (g (φ a) sl C) fun sl1 C1 => W (t sl1 C1) fun b C2 => b = p a ∧ C2 = C ∧ (p a = true → W (mk sl1 C) fun y C3 => W (mv sl1 C3) fun e C4 => keyOf y = some (kf a) ∧ e = vf a ∧ C4 = C))
    (q : Q ((l.filter p).foldl (fun kvs a => putD kvs (kf a) (vf a)) []) C) : W (dcM g t mk mv gd sl (l.map φ) [] C) Q := by
  suffices h : ∀ (es : List A) (pre : List A) (kvs : List (Key × D)), l = pre ++ es → kvs.length ≤ pre.length → Q ((es.filter p).foldl (fun kvs a => putD kvs (kf a) (vf a)) kvs) C → W (dcM g t mk mv gd sl (es.map φ) kvs C) Q from
    h l [] [] rfl (Nat.le_refl _) q
  intro es
  induction es with
  | nil =>
    intro pre kvs _ _ q
    unfold dcM
    simp only [List.map_nil]
    rw [if_pos hg]
    exact W.ok q
  | cons a es ih =>
    intro pre kvs e hk q
    have ha : l[pre.length]? = some a := by rw [e]; simp
    simp only [List.map_cons]
    unfold dcM
    rw [if_pos hg]
    refine W.bind ((step _ a ha).imp fun sl1 C1 h => W.bind (h.imp fun b C2 h => ?_))
    obtain ⟨rfl, rfl, h⟩ := h
    by_cases hp : p a = true
    · simp only [hp, if_true]
      refine W.bind ((h hp).imp fun y C3 h => W.bind (W.imp h fun e2 C4 h => ?_))
      obtain ⟨h1, rfl, rfl⟩ := h
      have hlen : l.length = pre.length + (es.length + 1) := by rw [e]; simp
      simp only [h1]
      rw [if_pos (Nat.lt_of_lt_of_le (by omega : kvs.length < 10000000) (by decide))]
      refine ih (pre ++ [a]) _ (by rw [e]; simp) ?_ ?_
      · have : ∀ (kvs : List (Key × D)) k d, (putD kvs k d).length ≤ kvs.length + 1 := fun kvs k d => by
          unfold putD
          split <;> simp
        have := this kvs (kf a) (vf a)
        simp
        omega
      · rw [List.filter_cons_of_pos hp] at q
        exact q
    · simp only [hp]
      refine ih (pre ++ [a]) kvs (by rw [e]; simp) (by simp; omega) ?_
      rw [List.filter_cons_of_neg hp] at q
      exact q
theorem w_mDc {own : List Nat} {mi : MI} {g : MT} {t : MG Bool} {mk : ME} (h : W (mi sl C) fun k C1 => W (dcM g t mk mv k.2 (wipeS sl own) k.1 [] C1) fun kvs C2 => QD (.cell C2.length) (C2 ++ [.dk kvs])) : W (mDc own mi g t mk mv sl C) QD := W.bind (h.imp fun k C1 h => W.bind ((W.calm h).imp fun kvs C2 h => W.ok h))
end
end Nv

namespace Nv
open PySem PySem.Spec PyProof.Rows L2
/-! sets of whole numbers, made by a comprehension and asked at once -/
def addI (acc : List Int) (k : Int) : List Int := if acc.any (· == k) then acc else acc ++ [k]
def SiO (w : World) (a : Addr) (S : Int → Bool) (n : Nat) : HO := .ext fun h => SetR w h a S n
theorem siO_new {w : World} {P : Program} {H : Hp} {h : Heap} {a : Addr} {S : Int → Bool} {n : Nat} (R : SetR w h a S n) : ObjOk P w H h a (SiO w a S n) :=
  ⟨R, let ⟨o, _, _, _, ho, _⟩ := R; ⟨o, ho⟩, fun _ _ p k => p.at k⟩
section
variable {X : Cx}
theorem siO_get {pins : List (Addr × Obj)} {σ : L2.St} {H : Hp} {s : Shared} {a : Addr} {S : Int → Bool} {n : Nat} (I : Inv X pins σ H s) (e : H a = some (SiO X.w a S n)) : SetR X.w s.heap a S n := (I.hok a _ e).1
theorem siO_add {pins : List (Addr × Obj)} {σ : L2.St} {H : Hp} {s : Shared} {E : Value → Shared → Prop} {a : Addr} {S : Int → Bool} {n : Nat} {k : Int} {tk : Tok} {Q : Value → Shared → Prop} (I : Inv X pins σ H s) (e : H a = some (SiO X.w a S n)) (room : n + 1 < scanBound)
    (q : ∀ s', Inv X pins σ (upd H a (SiO X.w a (fun j => S j || decide (j = k)) (if S k = true then n else n + 1))) s' → Q .none s') : wpAny (model X.prog X.w) X.A (call (.builtin "set.add") [.ref a, .int k tk]) Q E s := by
  refine setR_add (siO_get I e) room fun h' sb R => q _ ?_
  have there : ∃ u, h'.get? a = some u := let ⟨o, _, _, _, ho, _⟩ := R; ⟨o, ho⟩
  exact I.write (e := a) (t' := s.toks + 1) (by rw [e]; trivial) (.inl rfl) (fun b u hb hu => (sb.2 b hb).trans hu) there (siO_new R)
/-- {elt for tg in it ..}: the new set stands at p -/
def tSi (w : World) (wi : TI) (g : TG) (tt : TT) (te : TE) (vs : List Nat) : TE := fun σ H Q => wi σ H fun J H1 => ∀ p, H1 p = none → ∃ V : Nat → Nat → Hp → Prop, (∃ m, V 0 m (upd H1 p (SiO w p (fun _ => false) 0))) ∧ ∀ i m H, V i m H →
  (J.stop i H ∧ Q (.ref p) H) ∨ (J.go i H ∧ ∃ Z : Hp → Prop, (∀ H', Z H' → ∃ m', m' < m ∧ V (i + 1) m' H') ∧ ∀ x H', J.yld i H x H' → g x (wipe σ vs) H' fun σ2 H2 => wipe σ2 vs = wipe σ vs ∧ tt σ2 H2 fun b H3 =>
    if b = true then te σ2 H3 fun y H4 => ∃ (k : Int) (S : Int → Bool) (n : Nat), y = .int k ∧ H4 p = some (SiO w p S n) ∧ n + 1 < scanBound ∧ Z (upd H4 p (SiO w p (fun j => S j || decide (j = k)) (if S k = true then n else n + 1))) else Z H3)
theorem si_core {pins : List (Addr × Obj)} {s : Shared} {σ : L2.St} {H : Hp} {Q : VK} {elt tg iter : Expr} {ifs : List Expr} {scope : Scope} {own : List (Str × Nat)} {pos pos' : Pos} {wi : TI} {g : TG} {tt : TT} {te : TE} {use : Option (Value → Sem Unit)} {Qf : Value → Shared → Prop}
    (calm : X.calm = true) (nd : X.N.Nodup) (I : Inv X pins σ H s) (pi : PI X tg iter wi) (bk : BlkOk X.N X.env.scope scope own)
    (qg : ∀ (s : Shared) (H : Hp) (C : Addr) (cl : List (Str × Addr)) (fp : List Addr), PG (X.blk s H scope (compEnvC scope cl C X.env) fp) tg g)
    (qt : ∀ (s : Shared) (H : Hp) (C : Addr) (cl : List (Str × Addr)) (fp : List Addr), PTs (X.blk s H scope (compEnvC scope cl C X.env) fp) ifs tt)
    (qe : ∀ (s : Shared) (H : Hp) (C : Addr) (cl : List (Str × Addr)) (fp : List Addr), PE (X.blk s H scope (compEnvC scope cl C X.env) fp) elt te) (unf : ∀ x, foldedSetIterable iter X.env x = pure x)
    (rd : tSi X.w wi g tt te (own.map (·.2)) σ H Q)
    (back : ∀ p C s' m H', Inv X pins σ H' s' → Q (.ref p) H' → s'.heap.Ns C m → FpOk X pins H' C → compPost (model X.prog X.w) X.A X.xe use Qf (.ref p) C (.ok .next) s') :
    wpAny (model X.prog X.w) X.A (comprehension (.SetComp elt [⟨tg, iter, ifs, 0⟩] scope pos) scope X.env pos' (newSet (.type "set")) false (eval iter X.env) use) Qf X.xe s := by
  have frees : ∀ y ∈ scope.names, y.2 = .free → ∃ c, X.env.cells.lookup y.1 = some c := fun y hy e => (bk.free y hy e).elim (fun k => I.ok.has _ (.inl k)) fun k => I.ok.has _ (.inr k)
  refine wpAny_comprehension_free (use := use) rfl unf (closure_ok frees) bk.kind (fun y hy e => by rw [bk.uniq y hy, e]) (thn (pi.run pins s σ H _ I rd) fun xv s1 hx => thn hx fun itv s2 h2 => ?_)
  obtain ⟨it, fp, tn, J, H2, rfl, I2, T, st2, f2, q⟩ := h2
  refine PpSet.newSet_ok (newEnv_comp ?_)
  generalize ep : s2.heap.objs.size = p
  obtain ⟨V, ⟨m0, v0⟩, turn⟩ := q p (I2.hok.fresh (Nat.le_of_eq ep))
  generalize e3 : ({ s2 with heap := s2.heap.push { cls := .type "set", dict := none, data := .set #[] 0 (.fresh 0 0 (!X.w.params.followText "set-order")) } } : Shared) = s3
  have I3 : Inv X pins σ (upd H2 p (SiO X.w p (fun _ => false) 0)) s3 := by
    rw [← e3]
    refine I2.laid (t' := s2.toks) (fun b o e => Heap.get?_push_of_some _ e) (Nat.le_of_eq ep) ?_
    rw [← ep]
    exact siO_new (setR_fresh X.w)
  have g3 : s3.heap = s2.heap.push { cls := .type "set", dict := none, data := .set #[] 0 (.fresh 0 0 (!X.w.params.followText "set-order")) } := by rw [← e3]
  have low : ∀ b ∈ fp, b < s2.heap.objs.size := fun b hb => let ⟨_, e, _⟩ := T.obj _ _ st2 b hb; Heap.lt_size e
  have f3 : ∀ b ∈ fp, FpOk X pins (upd H2 p (SiO X.w p (fun _ => false) 0)) b ∧ b < s3.heap.objs.size := fun b hb => by
    have hlt := low b hb
    have hbp : b ≠ p := fun z => Nat.ne_of_lt hlt (z.trans ep.symm)
    exact ⟨⟨by rw [upd_ne hbp]; exact (f2 b hb).1, (f2 b hb).2⟩, by rw [g3, Heap.size_push]; exact Nat.lt_succ_of_lt hlt⟩
  have st3 : tn 0 s3.heap := T.keep _ _ _ st2 fun b _ o e => g3 ▸ Heap.get?_push_of_some _ e
  have I4 := block_start I3 bk nd f3
  have rg := qg s3 (upd H2 p (SiO X.w p (fun _ => false) 0)) s3.heap.objs.size (cellsFrom (s3.heap.objs.size + 1) scope.names (cloFrom X.env.cells scope.names [])) fp
  have rt := qt s3 (upd H2 p (SiO X.w p (fun _ => false) 0)) s3.heap.objs.size (cellsFrom (s3.heap.objs.size + 1) scope.names (cloFrom X.env.cells scope.names [])) fp
  have re := qe s3 (upd H2 p (SiO X.w p (fun _ => false) 0)) s3.heap.objs.size (cellsFrom (s3.heap.objs.size + 1) scope.names (cloFrom X.env.cells scope.names [])) fp
  show codeAny _ _ (.compStart (.SetComp elt [⟨tg, iter, ifs, 0⟩] scope pos) 0 (.ref it) (.ref p) (compEnvC scope (cellsFrom (s3.heap.objs.size + 1) scope.names (cloFrom X.env.cells scope.names [])) s3.heap.objs.size X.env)) (compPost (model X.prog X.w) X.A X.xe use Qf (.ref p) s3.heap.objs.size) { s3 with heap := pushCells (s3.heap.push { cls := .type "dict", data := .dict #[] }) scope.names }
  have off : ∀ b ∈ fp, (upd H2 p (SiO X.w p (fun _ => false) 0)) b = none := fun b hb => (f3 b hb).1.1
  generalize ece : compEnvC scope (cellsFrom (s3.heap.objs.size + 1) scope.names (cloFrom X.env.cells scope.names [])) s3.heap.objs.size X.env = ce at I4 rg rt re ⊢
  have lce : ce.locals = s3.heap.objs.size := ece ▸ rfl
  generalize eH3 : upd H2 p (SiO X.w p (fun _ => false) 0) = H3 at I3 I4 rg rt re v0 off f3
  generalize e4 : ({ s3 with heap := pushCells (s3.heap.push { cls := .type "dict", data := .dict #[] }) scope.names } : Shared) = s4 at I4 ⊢
  have st4 : tn 0 s4.heap := T.keep _ _ _ st3 fun b _ o e => e4 ▸ pushCells_keeps _ _ _ _ (Heap.get?_push_of_some _ e)
  have apart : ∀ {σ' : L2.St} {H' : Hp} {s' : Shared}, Inv (X.blk s3 H3 scope ce fp) [] σ' H' s' → (∀ b ∈ fp, H' b = none) → ∀ b ∈ fp, FpOk (X.blk s3 H3 scope ce fp) [] H' b := fun I' no b hb =>
    ⟨no b hb, (I'.ok.exf b hb).1, I'.ok.exfs b hb, .inl hb, (I'.ok.exf b hb).2, fun z hz => absurd (show z ∈ ([] : List (Addr × Obj)) ++ [] from hz) (by simp)⟩
  have loop : codeAny (model X.prog X.w) X.A (.compLoop (.SetComp elt [⟨tg, iter, ifs, 0⟩] scope pos) 0 (.ref it) (.ref p) ce) (compPost (model X.prog X.w) X.A X.xe use Qf (.ref p) s3.heap.objs.size) s4 := by
    refine PpSet.compLoopS_any (fun n s' => ∃ i H', Inv (X.blk s3 H3 scope ce fp) [] (wipe σ (own.map (·.2))) H' s' ∧ tn i s'.heap ∧ (∀ b ∈ fp, H' b = none) ∧ V i n H') ?_ m0 ⟨0, H3, I4, st4, off, v0⟩
    rintro n s5 ⟨i, H5, I5, st5, n5, v5⟩
    rcases turn i n H5 v5 with ⟨stop, qq⟩ | ⟨go, Z, hZ, move⟩
    · refine thnF (T.done (X.blk s3 H3 scope ce fp) rfl rfl rfl calm i [] s5 _ H5 (fun _ _ => False) I5 (apart I5 n5) st5 stop) fun r s6 ⟨er, I6⟩ => ?_
      subst er
      have I7 : Inv X pins σ H5 s6 := I3.call' (ch := fp) I6.os I6.base I6.hok I6.bare fun b hb => let z := (f3 b hb).1.2; ⟨z.2.2.1, z.1, z.2.2.2.1, z.2.2.2.2⟩
      have none5 : H5 s3.heap.objs.size = none := lce ▸ (I6.free : H5 ce.locals = none)
      obtain ⟨m, nsm, _⟩ := I6.loc
      exact back p s3.heap.objs.size s6 m H5 I7 qq (lce ▸ (nsm : s6.heap.Ns ce.locals m)) (I3.fpOk (Nat.le_refl _) none5)
    · refine thnF (T.item (X.blk s3 H3 scope ce fp) rfl rfl rfl calm i [] s5 _ H5 (fun _ _ => False) I5 (apart I5 n5) st5 go) fun r s6 ⟨u, er, h6⟩ => ?_
      subst er
      refine thnF h6 fun _ s7 ⟨x, H7, I7, r7, y7, st7, n7⟩ => ?_
      refine thnF (rg.run _ s7 _ H7 x u _ (I7.pinned (apart I7 n7) (T.obj _ _ st7)) r7 (move x H7 y7)) fun _ s8 ⟨σ8, H8, I8, w8, q8⟩ => ?_
      refine thnF (rt.run _ s8 σ8 H8 _ I8 q8) fun b s9 ⟨H9, I9, q9⟩ => ?_
      have close : ∀ {s' : Shared} {H' : Hp}, Inv (X.blk s3 H3 scope ce fp) ([] ++ pinsAt fp s7.heap) σ8 H' s' → Z H' → ∃ m, m < n ∧ ∃ i H', Inv (X.blk s3 H3 scope ce fp) [] (wipe σ (own.map (·.2))) H' s' ∧ tn i s'.heap ∧ (∀ b ∈ fp, H' b = none) ∧ V i m H' := fun {s' H'} I' z => by
        obtain ⟨m', hm, v'⟩ := hZ H' z
        have pin : ∀ b ∈ fp, ∀ o, s7.heap.get? b = some o → s'.heap.get? b = some o ∧ H' b = none := fun b hb o e =>
          let k := I'.pin (b, o) (List.mem_append_right _ (List.mem_append_right _ (mem_pinsAt hb e)))
          ⟨k.1, k.2.1⟩
        refine ⟨m', hm, i + 1, H', (I'.unpinned (pins := [])).weak (by rw [← w8, wipe_length]) (fun j v e => (wipe_some (w8 ▸ e)).1), T.keep _ _ _ st7 fun b hb o e => (pin b hb o e).1, fun b hb => ?_, v'⟩
        exact let ⟨o, e, _⟩ := T.obj _ _ st7 b hb; (pin b hb o e).2
      cases b with
      | false =>
        rw [if_neg Bool.false_ne_true] at q9 ⊢
        exact close I9 q9
      | true =>
        rw [if_pos rfl] at q9 ⊢
        refine thnF (re.run _ s9 σ8 H9 _ I9 q9) fun z s10 ⟨yv, H10, I10, r10, k, S0, n0, ey, at10, room, nx⟩ => ?_
        subst ey
        obtain ⟨tk, rfl⟩ : ∃ tk, z = Value.int k tk := r10
        exact siO_add (X := X.blk s3 H3 scope ce fp) I10 at10 room fun s11 I11 => close I11 nx
  exact PpSet.codeAny_compStart_set loop (T.self X.A 0 _ _ _ st4 loop)
theorem pe_si {elt tg iter : Expr} {ifs : List Expr} {scope : Scope} {own : List (Str × Nat)} {pos : Pos} {wi : TI} {g : TG} {tt : TT} {te : TE} (calm : X.calm = true) (nd : X.N.Nodup) (pi : PI X tg iter wi) (bk : BlkOk X.N X.env.scope scope own)
    (qg : ∀ (s : Shared) (H : Hp) (C : Addr) (cl : List (Str × Addr)) (fp : List Addr), PG (X.blk s H scope (compEnvC scope cl C X.env) fp) tg g)
    (qt : ∀ (s : Shared) (H : Hp) (C : Addr) (cl : List (Str × Addr)) (fp : List Addr), PTs (X.blk s H scope (compEnvC scope cl C X.env) fp) ifs tt)
    (qe : ∀ (s : Shared) (H : Hp) (C : Addr) (cl : List (Str × Addr)) (fp : List Addr), PE (X.blk s H scope (compEnvC scope cl C X.env) fp) elt te) (unf : ∀ x, foldedSetIterable iter X.env x = pure x := by intro _; rfl) :
    PE X (.SetComp elt [⟨tg, iter, ifs, 0⟩] scope pos) (tSi X.w wi g tt te (own.map (·.2))) := ⟨fun pins s σ H Q I h => by
  rw [PpSet.eval_SetComp]
  exact si_core calm nd I pi bk qg qt qe unf h fun p C s' m H' I' q ns f => ⟨m, ns, fun h'' sb =>
    ⟨.ref p, H', I'.turned (t' := s'.toks) (fun b o hb e => (sb.2 b hb).trans e) f.1 f.2.1 f.2.2.2.1 f.2.2.2.2.1 f.2.2.2.2.2, rfl, q⟩⟩⟩
/-- len of such a set -/
def rLenSi (w : World) : List V → Hp → VK → Prop := fun xs H Q => ∃ a S n, xs = [V.ref a] ∧ H a = some (SiO w a S n) ∧ Q (.int n) H
theorem call_lenSi : CallR X (.builtin "len") (rLenSi X.w) := fun pins s σ H xs us Q I r h => by
  obtain ⟨a, S, n, rfl, ha, q⟩ := h
  obtain ⟨u, rfl, ru⟩ := vals1 r
  cases ru
  obtain ⟨o, es, ep, t, ho, hex, hd, _, _, _, hlt, hf, hn, _⟩ := siO_get I ha
  have small : es.size < 4096 := hlt
  exact call_len_set ho hex hd hf (by omega) ⟨.int n, H, I.tok _, ⟨_, by rw [hn]⟩, q⟩
end
section
variable {K : PySem.W.Frag} {mg : Str → Option Value} {E : XK} {X : Cx} {tg it elt : Expr} {pos p1 p2 : Pos}
open Classical in
noncomputable def scM (g : MT) (t : MG Bool) (m : ME) (gd : Gd) (sl : Sl) : List D → List Int → Store → R (List Int × Store)
  | [], acc, C => if okG gd C then .ok (acc, C) else .no
  | d :: ds, acc, C => if okG gd C then (g d sl C).bind fun q => (t q.1 q.2).bind fun b => if b.1 = true then (m q.1 b.2).bind fun e => match e.1 with
      | .int k => if acc.length < 4000 then scM g t m gd sl ds (addI acc k) e.2 else .no
      | _ => .no
      else scM g t m gd sl ds acc b.2
    else .no
noncomputable def mSc (fin : List Int → Store → RE) (own : List Nat) (mi : MI) (g : MT) (t : MG Bool) (m : ME) : ME := fun sl C => (mi sl C).bind fun p => (R.calm (scM g t m p.1.2 (wipeS sl own) p.1.1 [] p.2)).bind fun z => fin z.1 z.2
theorem addI_any (acc : List Int) (k j : Int) : (addI acc k).any (· == j) = (acc.any (· == j) || decide (j = k)) := by
  unfold addI
  by_cases h : acc.any (· == k) = true
  · rw [if_pos h]
    by_cases e : j = k
    · subst e
      rw [h]
      rfl
    · rw [decide_eq_false e, Bool.or_false]
  · rw [if_neg h, List.any_append]
    congr 1
    by_cases e : j = k
    · simp [e]
    · rw [decide_eq_false e]
      simp
      exact fun z => e z.symm
theorem addI_len (acc : List Int) (k : Int) : (addI acc k).length = if acc.any (· == k) = true then acc.length else acc.length + 1 := by
  unfold addI
  split <;> simp
theorem sc_ok {fin : List Int → Store → RE} {own : List Nat} {mi : MI} {g : MT} {t : MG Bool} {m : ME} {s : L2.St} {H : Hp} {Q Q2 : VK}
    (hfin : ∀ (B F : Hp) (r : List Addr) (H : Hp) (C : Store) (acc : List Int) (p : Addr), B p = none → Rel K (upd B p (SiO X.w p (fun j => acc.any (· == j)) acc.length)) F r H C → H p = some (SiO X.w p (fun j => acc.any (· == j)) acc.length) → Out (Rep K) K mg E B F r (fin acc C) Q → Q2 (.ref p) H)
    (q : LG (Rep K) K mg E (mSc fin own mi g t m) s H Q) : tSi X.w (LI K mg E mi) (LT own K mg EN g) (LG PB K mg EN t) (LG (Rep K) K mg EN m) own s H Q2 := by
    obtain ⟨B, F, r, sl, C, hr, hs, o⟩ := q
    refine ⟨B, F, r, sl, C, hr, hs, Out.bind (P := fun F' r' k J => ∀ B', WalkN K B' J F' r' k) o fun k C1 F1 r1 H1 J e1 e2 hr1 hJ o1 => ?_⟩
    obtain ⟨ds, gd⟩ := k
    intro p hp
    simp only at o1
    obtain ⟨⟨out, Cn⟩, hsc, o1⟩ : ∃ z, scM g t m gd (wipeS sl own) ds [] C1 = .ok z ∧ Out (Rep K) K mg E B F1 r1 (fin z.1 z.2) Q := by
      cases hl : scM g t m gd (wipeS sl own) ds [] C1 with
      | ok z => rw [hl] at o1; exact ⟨z, rfl, o1⟩
      | ex y Cy => rw [hl] at o1; exact False.elim o1
      | no => rw [hl] at o1; exact False.elim o1
    have hs1 := hs.mono e1 e2
    refine ⟨fun i n H2 => n = ds.length - i ∧ i ≤ ds.length ∧ ∃ F2 r2 C2 acc, Same F1 F2 ∧ Ex r1 r2 ∧ Rel K (upd B p (SiO X.w p (fun j => acc.any (· == j)) acc.length)) F2 r2 H2 C2 ∧ scM g t m gd (wipeS sl own) (ds.drop i) acc C2 = .ok (out, Cn),
      ⟨ds.length, by simp, Nat.zero_le _, F1, r1, C1, [], .refl _, .refl _, hr1.aside hp, hsc⟩, ?_⟩
    rintro i n H2 ⟨rfl, hi, F2, r2, C2, acc, e3, e4, hr2, h2⟩
    have hJ := hJ (upd B p (SiO X.w p (fun j => acc.any (· == j)) acc.length))
    by_cases hl : i < ds.length
    · have ed : ds[i]? = some ds[i] := List.getElem?_eq_getElem hl
      rw [List.drop_eq_getElem_cons hl] at h2
      unfold scM at h2
      split at h2
      case isFalse => cases h2
      rename_i hok
      obtain ⟨⟨sl4, C4⟩, hg, h2⟩ := bind_okR h2
      obtain ⟨⟨bt, C5⟩, ht, h2⟩ := bind_okR h2
      refine .inr ⟨hJ.goes i F2 r2 H2 C2 hl e3 e4 hr2 hok, fun H3 => ∃ F2 r2 C2 acc, Same F1 F2 ∧ Ex r1 r2 ∧ Rel K (upd B p (SiO X.w p (fun j => acc.any (· == j)) acc.length)) F2 r2 H3 C2 ∧ scM g t m gd (wipeS sl own) (ds.drop (i + 1)) acc C2 = .ok (out, Cn),
        fun H3 h => ⟨ds.length - (i + 1), by omega, rfl, hl, h⟩, fun x H3 y => ?_⟩
      obtain ⟨F3, e5, hr3, hx⟩ := hJ.yields i _ F2 r2 H2 C2 x H3 ed e3 e4 hr2 hok y
      have hs3 : Sls K F3 r2 (wipeS sl own) (wipe s own) := Sls.wipe (hs1.mono (e3.trans e5) e4) own
      refine ⟨upd B p (SiO X.w p (fun j => acc.any (· == j)) acc.length), F3, r2, wipeS sl own, C2, ds[i], hr3, hs3, hx, out_of hg fun F4 r4 H4 s4 e6 e7 hr4 hs4 => ?_⟩
      refine ⟨hs4.2.trans (wipe_twice own s), upd B p (SiO X.w p (fun j => acc.any (· == j)) acc.length), F4, r4, sl4, C4, hr4, hs4.1, out_of ht fun F5 r5 H5 b e8 e9 hr5 hb => ?_⟩
      subst hb
      cases bt with
      | false =>
        rw [if_neg Bool.false_ne_true] at h2 ⊢
        exact ⟨F5, r5, C5, acc, ((e3.trans e5).trans e6).trans e8, (e4.trans e7).trans e9, hr5, h2⟩
      | true =>
        rw [if_pos rfl] at h2 ⊢
        obtain ⟨⟨ev, C6⟩, hm, h2⟩ := bind_okR h2
        simp only at h2
        split at h2
        case h_2 => cases h2
        rename_i k
        split at h2
        case isFalse => cases h2
        rename_i hz
        refine ⟨upd B p (SiO X.w p (fun j => acc.any (· == j)) acc.length), F5, r5, sl4, C5, hr5, hs4.1.mono e8 e9, out_of hm fun F6 r6 H6 v k1 k2 hr6 hv => ?_⟩
        refine ⟨k, fun j => acc.any (· == j), acc.length, hv, hr6.base p _ upd_same, by show acc.length + 1 < 4096; omega, F6, r6, C6, addI acc k, (((e3.trans e5).trans e6).trans e8).trans k1, ((e4.trans e7).trans e9).trans k2, ?_, h2⟩
        rw [show (fun j => (addI acc k).any (· == j)) = fun j => (acc.any (· == j) || decide (j = k)) from funext fun j => addI_any acc k j, addI_len]
        exact hr6.asideSet
    · have ei : i = ds.length := by omega
      subst ei
      rw [List.drop_length] at h2
      unfold scM at h2
      split at h2
      case isFalse => cases h2
      rename_i hok
      cases h2
      exact .inl ⟨hJ.stops F2 r2 H2 _ e3 e4 hr2 hok, hfin B F2 r2 H2 Cn out p (Same.free hr1.base hp) hr2 (hr2.base p _ upd_same) (Out.mono o1 e3 e4)⟩
def gLenSc (acc : List Int) (C : Store) : RE := .ok (.int acc.length, C)
theorem ne_lenSc {ifs : List Expr} {scope : Scope} (own : List (Str × Nat)) {mi : MI} {g : MT} {t : MG Bool} {m : ME} (hlen : X.mg "len" = none) (hc : X.calm = true) (hN : X.N.Nodup) (hi : NI X E tg it mi) (ok : BlkOk X.N X.env.scope scope own)
    (hg : ∀ (s : Shared) (H : Hp) (C : Addr) (cl : List (Str × Addr)) (fp : List Addr), NG (X.blk s H scope (compEnvC scope cl C X.env) fp) EN (own.map (·.2)) tg g)
    (ht : ∀ (s : Shared) (H : Hp) (C : Addr) (cl : List (Str × Addr)) (fp : List Addr), NTs (X.blk s H scope (compEnvC scope cl C X.env) fp) ifs t)
    (he : ∀ (s : Shared) (H : Hp) (C : Addr) (cl : List (Str × Addr)) (fp : List Addr), NE (X.blk s H scope (compEnvC scope cl C X.env) fp) EN elt m)
    (hs : ∀ x, foldedSetIterable it X.env x = pure x := by intro _; rfl) (hgl : Gl X "len" := by rfl)
    (hst : starEach [Expr.SetComp elt [⟨tg, it, ifs, 0⟩] scope p2] X.env = (false, eval (.SetComp elt [⟨tg, it, ifs, 0⟩] scope p2) X.env) :: starEach [] X.env := by rfl) (hpl : (backTo pos (starEach [] X.env)).any (·.1) = false := by rfl) :
    NE X E (.Call (.Name "len" p1) [.SetComp elt [⟨tg, it, ifs, 0⟩] scope p2] [] pos) (mSc gLenSc (own.map (·.2)) mi g t m) :=
  ⟨pe_imp (pe_callB call_lenSi hgl hlen boot_len (pa_cons (pe_si (own := own) (wi := LI X.K X.mg E mi) (g := LT (own.map (·.2)) X.K X.mg EN g) (tt := LG PB X.K X.mg EN t) (te := LG (Rep X.K) X.K X.mg EN m) hc hN hi.pi ok (fun s H C cl fp => (hg s H C cl fp).pg) (fun s H C cl fp => (ht s H C cl fp).pt) (fun s H C cl fp => (he s H C cl fp).pe) hs) pa_nil hst) (by decide) (by decide) hst hpl) fun s H Q q => by
    exact sc_ok (X := X) (Q := Q) (Q2 := fun v H1 => rLenSi X.w [v] H1 Q) (fun B F r H C acc p hB hr hp o => by
      obtain ⟨k1, k2⟩ := hr.asideFreeze hB
      exact ⟨p, _, _, rfl, hp, o _ r H (.int acc.length) k2 (.refl _) k1 rfl⟩) q⟩
/-- .. sorted -/
theorem sortI_uniq : ∀ {as bs : List Int}, as.Pairwise (· < ·) → bs.Pairwise (· < ·) → (∀ k, k ∈ as ↔ k ∈ bs) → as = bs
  | [], [], _, _, _ => rfl
  | [], b :: bs, _, _, h => nomatch (h b).mpr List.mem_cons_self
  | a :: as, [], _, _, h => nomatch (h a).mp List.mem_cons_self
  | a :: as, b :: bs, ha, hb, h => by
    rw [List.pairwise_cons] at ha hb
    have e : a = b := by
      rcases List.mem_cons.mp ((h a).mp List.mem_cons_self) with e | e
      · exact e
      · rcases List.mem_cons.mp ((h b).mpr List.mem_cons_self) with k | k
        · exact k.symm
        · have := ha.1 b k
          have := hb.1 a e
          omega
    subst e
    rw [sortI_uniq ha.2 hb.2 fun k => ?_]
    constructor
    · intro hk
      rcases List.mem_cons.mp ((h k).mp (List.mem_cons_of_mem _ hk)) with z | z
      · subst z
        exact absurd (ha.1 k hk) (Int.lt_irrefl k)
      · exact z
    · intro hk
      rcases List.mem_cons.mp ((h k).mpr (List.mem_cons_of_mem _ hk)) with z | z
      · subst z
        exact absurd (hb.1 k hk) (Int.lt_irrefl k)
      · exact z
end
section
variable {X : Cx}
end
section
variable {K : PySem.W.Frag} {mg : Str → Option Value} {E : XK} {X : Cx} {a : Expr} {ma : ME} {pos p1 p2 q1 : Pos}
end
/-! reasoning -/
section
variable {QD : D → Store → Prop} {sl : Sl} {C : Store} {m : ME} {A : Type} {φ : A → D}
theorem w_mSc {fin : List Int → Store → RE} {own : List Nat} {mi : MI} {g : MT} {t : MG Bool} (h : W (mi sl C) fun k C1 => W (scM g t m k.2 (wipeS sl own) k.1 [] C1) fun acc C2 => W (fin acc C2) QD) : W (mSc fin own mi g t m sl C) QD := W.bind (h.imp fun k C1 h => W.bind (W.calm h))
theorem w_lenSc {acc : List Int} (q : QD (.int acc.length) C) : W (gLenSc acc C) QD := W.ok q
theorem w_scA {l : List A} {g : MT} {t : MG Bool} {gd : Gd} {p : A → Bool} {f : A → Int} {Q : List Int → Store → Prop} (hg : okG gd C) (hl : l.length ≤ 3000)
    (step : ∀ (i : Nat) (a : A), l[i]? = some a → W (g (φ a) sl C) fun sl1 C1 => W (t sl1 C1) fun b C2 => b = p a ∧ C2 = C ∧ (p a = true → W (m sl1 C) fun e C3 => e = .int (f a) ∧ C3 = C))
    (q : Q (((l.filter p).map f).foldl addI []) C) : W (scM g t m gd sl (l.map φ) [] C) Q := by
  suffices h : ∀ (es pre : List A) (acc : List Int), l = pre ++ es → acc.length ≤ pre.length → Q (((es.filter p).map f).foldl addI acc) C → W (scM g t m gd sl (es.map φ) acc C) Q from h l [] [] rfl (Nat.le_refl _) q
  intro es
  induction es with
  | nil =>
    intro pre acc _ _ q
    unfold scM
    simp only [List.map_nil]
    rw [if_pos hg]
    exact W.ok q
  | cons a es ih =>
    intro pre acc e hk q
    have ha : l[pre.length]? = some a := by rw [e]; simp
    have hlen : l.length = pre.length + (es.length + 1) := by rw [e]; simp
    simp only [List.map_cons]
    unfold scM
    rw [if_pos hg]
    refine W.bind ((step _ a ha).imp fun sl1 C1 h => W.bind (h.imp fun b C2 h => ?_))
    obtain ⟨rfl, rfl, h⟩ := h
    by_cases hp : p a = true
    · simp only [hp, if_true]
      refine W.bind ((h hp).imp fun y C3 h => ?_)
      obtain ⟨rfl, rfl⟩ := h
      simp only
      rw [if_pos (by omega)]
      refine ih (pre ++ [a]) _ (by rw [e]; simp) ?_ ?_
      · rw [addI_len, List.length_append]
        split <;> simp <;> omega
      · rw [List.filter_cons_of_pos hp] at q
        exact q
    · simp only [hp]
      refine ih (pre ++ [a]) acc (by rw [e]; simp) (by simp; omega) ?_
      rw [List.filter_cons_of_neg hp] at q
      exact q
end
end Nv

namespace Nv
open PySem PySem.Spec PyProof.Rows L2
/-! a list comprehension of two fors -/
open Classical in
open Classical in
section
variable {K : PySem.W.Frag} {mg : Str → Option Value} {E : XK} {X : Cx} {tg it tg1 it1 elt : Expr} {pos : Pos}
end
section
variable {C : Store} {QD : D → Store → Prop} {sl : Sl} {m : ME} {A : Type} {φ : A → D}
end
end Nv

namespace Nv
open PySem PySem.Spec PyProof.Rows L2
section
variable {K : PySem.W.Frag} {mg : Str → Option Value} {E : XK}
end
section
variable {C : Store} {QD : D → Store → Prop}
end
end Nv

namespace Nv
open PySem PySem.Spec PyProof.Rows L2
section
variable {K : PySem.W.Frag} {mg : Str → Option Value} {E : XK} {B F H : Hp} {r : List Addr} {C : Store} {Q : VK} {X : Cx} {a b c e o i value : Expr} {es : List Expr} {m ma mb mo mv mi : ME} {mas : MG (List D)} {pos p1 p2 p3 : Pos}
def gExtend (x : D) (ds : List D) (C : Store) : RE := match cellOf C x, ds with
  | some (i, xs), [y] => match cellOf C y with
    | some (_, ys) => if xs.length + ys.length ≤ sizeLine then .ok (.non, C.set i (.lst (xs ++ ys))) else .no
    | none => .no
  | _, _ => .no
theorem extendN : MtN K mg E rExtend gExtend := by
  intro B F r H C x v ds vs Q hr hx hd o
  unfold gExtend at o
  split at o
  · rename_i i xs y e
    obtain ⟨a, zs, rfl, h1, h2, h3, h4⟩ := cellOf_ok hr hx e
    obtain ⟨u, w, rfl, h5, h6⟩ := hd
    cases (show w = [] from h6)
    split at o
    · rename_i j ys e2
      obtain ⟨a2, zs2, rfl, k1, k2, k3, k4⟩ := cellOf_ok hr h5 e2
      split at o
      · rename_i hl
        exact ⟨a, a2, zs, zs2, rfl, rfl, h3, k3, by rw [← h4.length, ← k4.length]; exact hl, setc_ok (x := x) (v := .non) (ds := xs) (d := .non) hr h1 h2 (h4.append k4) rfl o⟩
      · exact False.elim o
    · exact False.elim o
  · exact False.elim o
end
/-! their steps -/
section
variable {QD : D → Store → Prop} {QS : Fl → Sl → Store → Prop} {sl : Sl} {C : Store}
theorem w_extend {k j : Nat} {ds es : List D} (hk : C[k]? = some (.lst ds)) (hj : C[j]? = some (.lst es)) (hl : ds.length + es.length ≤ sizeLine) (h : QD .non (C.set k (.lst (ds ++ es)))) : W (gExtend (.cell k) [.cell j] C) QD := by
  refine W.of (a := .non) (C := C.set k (.lst (ds ++ es))) ?_ h
  show (match (mutAt C k).map (fun ds => (k, ds)), [D.cell j] with
    | some (i, xs), [y] => match cellOf C y with
      | some (_, ys) => if xs.length + ys.length ≤ sizeLine then R.ok (D.non, C.set i (.lst (xs ++ ys))) else .no
      | none => .no
    | _, _ => .no) = _
  have e : cellOf C (.cell j) = some (j, es) := by
    show (mutAt C j).map (fun ds => (j, ds)) = _
    rw [mutAt_lst hj]
    rfl
  rw [mutAt_lst hk]
  simp only [Option.map_some, e, if_pos hl]
end
end Nv

namespace Nv
open PySem PySem.Spec PyProof.Rows L2
/-! dicts whose keys are tuples that nest (whole numbers, truths, None) -/
mutual
def NkV (K : PySem.W.Frag) (H : Hp) : NestedKey → V → Prop
  | .none, v => v = .non
  | .num i, v => v = .int i ∨ ∃ b : Bool, v = .bl b ∧ i = if b = true then 1 else 0
  | .text x, v => v = .str x
  | .tup ks, v => ∃ a vs, v = .ref a ∧ SqT K H a vs ∧ NksV K H ks vs
def NksV (K : PySem.W.Frag) (H : Hp) : List NestedKey → List V → Prop
  | [], vs => vs = []
  | k :: ks, vs => ∃ v w, vs = v :: w ∧ NkV K H k v ∧ NksV K H ks w
end
section
variable {X : Cx} {pins : List (Addr × Obj)} {σ : L2.St} {H : Hp} {s : Shared} {a b : Addr} {k : NestedKey} {xs : List (NestedKey × Addr × V)}
mutual
theorem nk_is (I : L2.Inv X pins σ H s) : ∀ (k : NestedKey) {v : V} {u : Value}, NkV X.K H k v → RelV v u → NestedIs s.heap k u
  | .none, _, _, h, r => by
    cases (show _ = V.non from h)
    cases (show _ = Value.none from r)
    exact .none
  | .num i, _, _, h, r => by
    rcases h with rfl | ⟨b, rfl, e⟩
    · obtain ⟨t, rfl⟩ := r
      exact .int i t
    · cases (show _ = Value.bool b from r)
      exact .bool e
  | .text x, _, _, h, r => by
    cases (show _ = V.str x from h)
    obtain ⟨t, rfl⟩ := r
    exact .text x t
  | .tup ks, _, _, h, r => by
    obtain ⟨a, vs, rfl, h1, h2⟩ := h
    cases (show _ = Value.ref a from r)
    obtain ⟨its, rv, ⟨o, e1, e2, n, e3⟩, _⟩ := I.tuple h1
    exact .tup e1 e2 e3 (nks_is I ks h2 (by simpa using rv))
theorem nks_is (I : L2.Inv X pins σ H s) : ∀ (ks : List NestedKey) {vs : List V} {us : List Value}, NksV X.K H ks vs → Vals vs us → NestedAll s.heap ks us
  | [], _, _, h, r => by
    cases (show _ = [] from h)
    cases r
    exact .nil
  | k :: ks, _, _, h, r => by
    obtain ⟨v, w, rfl, h1, h2⟩ := h
    cases r with
    | cons r1 r2 => exact .cons (nk_is I k h1 r1) (nks_is I ks h2 r2)
end
abbrev NdR : List (NestedKey × Addr × V) → List (NestedKey × Addr × Value) → Prop := Paired fun x y => x.1 = y.1 ∧ x.2.1 = y.2.1 ∧ RelV x.2.2 y.2.2
theorem NdR.all {Pr : NestedKey → Addr → Prop} : ∀ {xs : List (NestedKey × Addr × V)} {ys : List (NestedKey × Addr × Value)}, NdR xs ys → (∀ x ∈ xs, Pr x.1 x.2.1) → ∀ y ∈ ys, Pr y.1 y.2.1
  | _, _, .nil, _, _, h => nomatch h
  | _, _, .cons hxy r, hx, y, h => by
    rcases List.mem_cons.mp h with rfl | h
    · rw [← hxy.1, ← hxy.2.1]
      exact hx _ List.mem_cons_self
    · exact NdR.all r (fun x hx' => hx x (List.mem_cons_of_mem _ hx')) y h
def valN (xs : List (NestedKey × Addr × V)) (k : NestedKey) : Option V := (xs.find? fun x => decide (x.1 = k)).map (·.2.2)
theorem NdR.val (k : NestedKey) : ∀ {xs : List (NestedKey × Addr × V)} {ys : List (NestedKey × Addr × Value)}, NdR xs ys → RelO (valN xs k) ((atKey ys k).map (·.2))
  | _, _, .nil => trivial
  | x :: xs, y :: ys, .cons h r => by
    have ih := NdR.val k r
    unfold valN atKey at *
    rw [List.find?_cons, List.find?_cons]
    by_cases hk : x.1 = k
    · rw [decide_eq_true hk, decide_eq_true (h.1.symm.trans hk)]
      exact h.2.2
    · rw [decide_eq_false hk, decide_eq_false fun z => hk (h.1.trans z)]
      exact ih
def putN (xs : List (NestedKey × Addr × V)) (k : NestedKey) (b : Addr) (v : V) : List (NestedKey × Addr × V) :=
  if (valN xs k).isSome = true then xs.map (fun x => if x.1 = k then (x.1, x.2.1, v) else x) else xs ++ [(k, b, v)]
theorem NdR.mapPut {k : NestedKey} {v : V} {u : Value} (rv : RelV v u) : ∀ {xs : List (NestedKey × Addr × V)} {ys : List (NestedKey × Addr × Value)}, NdR xs ys → NdR (xs.map fun x => if x.1 = k then (x.1, x.2.1, v) else x) (ys.map (putAt k u))
  | _, _, .nil => .nil
  | x :: xs, y :: ys, .cons h r => by
    rw [List.map_cons, List.map_cons]
    refine .cons ?_ (NdR.mapPut rv r)
    unfold putAt
    by_cases hk : x.1 = k
    · rw [if_pos hk, if_pos (h.1.symm.trans hk)]
      exact ⟨h.1, h.2.1, rv⟩
    · rw [if_neg hk, if_neg fun z => hk (h.1.trans z)]
      exact h
theorem NdR.put {k : NestedKey} {v : V} {u : Value} (rv : RelV v u) {ys : List (NestedKey × Addr × Value)} (r : NdR xs ys) : NdR (putN xs k b v) (storedH ys k b u) := by
  have e : (valN xs k).isSome = (atKey ys k).isSome := by
    have := (r.val k).isSome_eq
    rwa [Option.isSome_map] at this
  unfold putN storedH
  rw [e]
  split
  · exact r.mapPut rv
  · exact Paired.snoc r ⟨rfl, rfl, rv⟩
end
section
variable {X : Cx} {pins : List (Addr × Obj)} {σ : L2.St} {H : Hp} {s : Shared} {a : Addr} {y v : V} {u r : Value} {o : Option V} {A : Around} {E : Value → Shared → Prop}
end
section
variable {X : Cx} {o i e f value : Expr} {pos pos' tpos cpos apos : Pos} {td ty tv tx : TE}
end
end Nv

namespace Nv
open PySem PySem.Spec PyProof.Rows L2
section
variable {K : PySem.W.Frag} {mg : Str → Option Value} {E : XK} {B F H : Hp} {r : List Addr} {C : Store} {Q : VK} {X : Cx} {a b e o i f value : Expr} {es : List Expr} {m ma mb mo mv mi mz : ME} {mas : MG (List D)} {pos p1 p2 p3 : Pos}
mutual
theorem rep_nk (hF : Same F H) : ∀ (d : D) {k : NestedKey} {v : V}, keyN d = some k → Rep K F r d v → NkV K H k v
  | .non, _, _, e, h => by cases e; exact h
  | .bl b, _, _, e, h => by cases e; exact .inr ⟨b, h, rfl⟩
  | .int i, _, _, e, h => by cases e; exact .inl h
  | .tup ds, k, _, e, h => by
    have e : (keysN ds).map NestedKey.tup = some k := e
    cases g : keysN ds with
    | none => rw [g] at e; cases e
    | some ks =>
      rw [g] at e
      cases e
      obtain ⟨a, vs, rfl, h1, h2⟩ := h
      exact ⟨a, vs, rfl, Same.tup hF h1, reps_nk hF ds g h2⟩
  | .str _, _, _, e, _ => nomatch e
  | .lst _, _, _, e, _ => nomatch e
  | .cell _, _, _, e, _ => nomatch e
  | .edct, _, _, e, _ => nomatch e
  | .fn _, _, _, e, _ => nomatch e
  | .exc _ _ _, _, _, e, _ => nomatch e
theorem reps_nk (hF : Same F H) : ∀ (ds : List D) {ks : List NestedKey} {vs : List V}, keysN ds = some ks → Reps K F r ds vs → NksV K H ks vs
  | [], _, _, e, h => by cases e; exact h
  | d :: ds, ks, _, e, h => by
    have e : (keyN d).bind (fun k => (keysN ds).map (k :: ·)) = some ks := e
    cases g : keyN d with
    | none => rw [g] at e; cases e
    | some k =>
      rw [g, Option.bind_some] at e
      cases g2 : keysN ds with
      | none => rw [g2] at e; cases e
      | some ks' =>
        rw [g2] at e
        cases e
        obtain ⟨v, w, rfl, h1, h2⟩ := h
        exact ⟨v, w, rfl, rep_nk hF d g h1, reps_nk hF ds g2 h2⟩
end
inductive NPs (X : Cx) (E : XK) : List (Option Expr) → List Expr → List (ME × ME) → Prop
  | nil : NPs X E [] [] []
  | cons {k v : Expr} {ks : List (Option Expr)} {vs : List Expr} {mk mv : ME} {rs : List (ME × ME)} (hk : NE X E k mk) (hv : NE X E v mv) (hr : NPs X E ks vs rs) : NPs X E (some k :: ks) (v :: vs) ((mk, mv) :: rs)
abbrev PRP (K : PySem.W.Frag) : PR (List (D × D)) (List (V × V)) := fun F r ds ps => Reps K F r (ds.map (·.1)) (ps.map (·.1)) ∧ Reps K F r (ds.map (·.2)) (ps.map (·.2))
theorem NPs.sh {ks : List (Option Expr)} {vs : List Expr} {rs : List (ME × ME)} (h : NPs X E ks vs rs) : ks.all (·.isSome) = true ∧ ks.length = vs.length := by
  induction h with
  | nil => exact ⟨rfl, rfl⟩
  | cons hk hv hr ih => exact ⟨by simpa using ih.1, by simp [ih.2]⟩
def putDs {κ : Type} [DecidableEq κ] (acc kvs : List (κ × D)) : List (κ × D) := kvs.foldl (fun acc kv => putD acc kv.1 kv.2) acc
/-- keys that are flat -/
def fkKeys : List (D × D) → Option (List (Key × D))
  | [] => some []
  | (k, v) :: r => (keyOf k).bind fun k => (fkKeys r).map ((k, v) :: ·)
theorem fkKeys_ok : ∀ {ds : List (D × D)} {ps : List (V × V)} {kvs : List (Key × D)}, PRP K F r ds ps → fkKeys ds = some kvs → ∃ ws : List (Key × V), ps = ws.map (fun kv => (kV kv.1, kv.2)) ∧ kvs.map (·.1) = ws.map (·.1) ∧ Reps K F r (kvs.map (·.2)) (ws.map (·.2))
  | [], ps, _, h, e => by
    cases e
    have : ps = [] := by simpa using (show ps.map (·.1) = [] from h.1)
    subst this
    exact ⟨[], rfl, rfl, rfl⟩
  | (k, v) :: ds, [], _, h, e => by
    obtain ⟨_, _, z, _⟩ := (show Reps K F r (k :: ds.map (·.1)) [] from h.1)
    cases z
  | (k, v) :: ds, p :: ps, kvs, h, e => by
    have e : (keyOf k).bind (fun k => (fkKeys ds).map ((k, v) :: ·)) = some kvs := e
    obtain ⟨u, us, e1, h1, h2⟩ := (show Reps K F r (k :: ds.map (·.1)) (p.1 :: ps.map (·.1)) from h.1)
    obtain ⟨w, ws, e2, h3, h4⟩ := (show Reps K F r (v :: ds.map (·.2)) (p.2 :: ps.map (·.2)) from h.2)
    rw [List.cons.injEq] at e1 e2
    obtain ⟨e11, e12⟩ := e1
    obtain ⟨e21, e22⟩ := e2
    subst e12 e22
    cases hk : keyOf k with
    | none => rw [hk] at e; cases e
    | some kk =>
      rw [hk, Option.bind_some] at e
      cases hn : fkKeys ds with
      | none => rw [hn] at e; cases e
      | some kvs' =>
        rw [hn] at e
        cases e
        obtain ⟨xs, q1, q2, q3⟩ := fkKeys_ok ⟨h2, h4⟩ hn
        refine ⟨(kk, w) :: xs, ?_, ?_, .cons h3 q3⟩
        · rw [List.map_cons, ← q1]
          obtain ⟨p1, p2⟩ := p
          simp only at e11 e21
          rw [e11, e21, keyOf_ok h1 hk]
        · show kk :: kvs'.map (·.1) = kk :: xs.map (·.1)
          rw [q2]
theorem mergeK_ok : ∀ (ws acc : List (Key × V)) (kvs kacc : List (Key × D)), kvs.map (·.1) = ws.map (·.1) → Reps K F r (kvs.map (·.2)) (ws.map (·.2)) → kacc.map (·.1) = acc.map (·.1) → Reps K F r (kacc.map (·.2)) (acc.map (·.2)) →
    (putDs kacc kvs).map (·.1) = (mergeK acc ws).map (·.1) ∧ Reps K F r ((putDs kacc kvs).map (·.2)) ((mergeK acc ws).map (·.2))
  | [], acc, [], kacc, _, _, h3, h4 => ⟨h3, h4⟩
  | [], _, _ :: _, _, h, _, _, _ => nomatch h
  | _ :: _, _, [], _, h, _, _, _ => nomatch h
  | x :: xs, acc, kv :: kvs, kacc, h1, h2, h3, h4 => by
    rw [List.map_cons, List.map_cons, List.cons.injEq] at h1
    obtain ⟨v, vs, e, g1, g2⟩ := (show Reps K F r (kv.2 :: kvs.map (·.2)) (x.2 :: xs.map (·.2)) from h2)
    rw [List.cons.injEq] at e
    obtain ⟨e1, e2⟩ := e
    subst e1 e2
    have a1 : kv.1 = x.1 := h1.1
    have key := mergeK_ok xs (putK acc x.1 x.2) kvs (putD kacc kv.1 kv.2) h1.2 g2 (by rw [a1]; exact putD_keys h3) (by rw [a1]; exact putD_reps h3 h4 g1)
    exact key
end
/-! their steps -/
section
variable {QD : D → Store → Prop} {QS : Fl → Sl → Store → Prop} {sl : Sl} {C : Store} {m mo mi mv mz : ME}
end
end Nv

namespace Nv
open PySem PySem.Spec PyProof.Rows L2
/-! set(a list of whole numbers), and such a set in order -/
section
variable {P : Program} {w : World} {Ar : Around} {Ex : Value → Shared → Prop} {st : Shared}
set_option maxHeartbeats 8000000 in
/-- a set's members in order -/
theorem sorted_of_set {b : Addr} {S : Int → Bool} {n : Nat} {Qv : Value → Shared → Prop} (R : SetR w st.heap b S n) (calm : Ar.handled = none)
    (done : ∀ s' p (out : Array Value) (c : Nat) (ks : List Int), (∀ x o, st.heap.get? x = some o → s'.heap.get? x = some o) → s'.gens = st.gens → s'.os = st.os → st.heap.objs.size ≤ p →
      s'.heap.get? p = some (seqObj "list" out c) → IntsAre out.toList ks → ks.Pairwise (· < ·) → (∀ k, k ∈ ks ↔ S k = true) → ks.length = n → Qv (.ref p) s') :
    wpAny (model P w) Ar (call (.builtin "sorted") [.ref b]) Qv Ex st := by
  obtain ⟨o, es, ep, t, at0, ex0, da0, good, nd0, mem0, few0, fit0, sz0, ris0, led0⟩ := R
  refine Calls.call_function_entry kind_sorted plain_sorted entry_sorted (args_sorted1 _) (?_ : _)
  unfold Builtin.«sorted»
  refine wpAny_bind (m := checkCount "sorted" 1 1 _) (wpAny_pure (?_ : _))
  refine wpAny_bind (collect_set (A := Ar.in1) calm ⟨o, at0, ex0.1, da0⟩ fit0 few0 ris0 led0 fun s1 vs keep1 low1 gen1 os1 perm1 => ?_)
  have vsl : vs.length = n := by rw [perm1.length_eq, List.length_map, Array.length_toList, sz0]
  have few1 : vs.length ≤ sizeLine := by
    have : es.size < 4096 := few0
    rw [vsl, sizeLine_eq]
    omega
  have intv : ∀ v ∈ vs, ∃ k tk, v = Value.int k tk := fun v hv => by
    obtain ⟨e, he, q⟩ := List.mem_map.mp (perm1.mem_iff.mp hv)
    obtain ⟨k, tk, h1, _⟩ := good e he
    exact ⟨k, tk, q ▸ h1⟩
  have ints1 : IntsAre vs (vs.map SrtO.iv) := SrtO.ints_iv intv
  have keyiv : ∀ e ∈ es.toList, L2.keyOf e = SrtO.iv e.2 := fun e he => by
    obtain ⟨k, tk, h1, _⟩ := good e he
    rw [show L2.keyOf e = Builtin.Re.reRawOf e.2 from rfl, h1]
    rfl
  have perm2 : (vs.map SrtO.iv).Perm (es.toList.map L2.keyOf) := by
    have q := perm1.map SrtO.iv
    rw [List.map_map] at q
    rw [List.map_congr_left (fun e he => keyiv e he : ∀ e ∈ es.toList, L2.keyOf e = (SrtO.iv ∘ fun x => x.2) e)]
    exact q
  refine wpAny_bind (wpAny_newList (?_ : _) few1)
  have at1 : (s1.heap.push (seqObj "list" vs.toArray 0)).get? s1.heap.objs.size = some (seqObj "list" vs.toArray 0) := Heap.get?_push_size _ rfl
  refine wpAny_bind (wpAny_holding (wpAny_call_entry slot_list_sort ⟨_, at1, rfl⟩ entry_list_sort
    (SrtO.list_sort_ord SrtO.swo_int at1 few1 (fun h2 => SrtO.ints_sortable ints1 h2) fun out srt stb => ⟨_, rfl, ?_⟩) (args_list_sort _)))
  obtain ⟨q1, q2, q3⟩ := SrtO.ints_out ints1 srt stb
  obtain ⟨c, hc⟩ := sortedHeap_at (vs := vs) (out := out.toArray) at1
  have perm3 : (out.map SrtO.iv).Perm (es.toList.map L2.keyOf) := q2.trans perm2
  have nd3 := perm3.nodup_iff.mpr nd0
  refine wpAny_pure ⟨_, rfl, done _ s1.heap.objs.size out.toArray c (out.map SrtO.iv) (fun x u e => ?_) gen1 os1 low1 hc q1 ?_ (fun k => by rw [perm3.mem_iff, ← mem0 k]) ?_⟩
  · have q := keep1 x u e
    have xlt := Heap.lt_size q
    show (sortedHeap (s1.heap.push (seqObj "list" vs.toArray 0)) s1.heap.objs.size vs out.toArray).get? x = some u
    rw [sortedHeap_old (Nat.ne_of_lt xlt) (size_push' .. ▸ Nat.lt_succ_of_lt xlt)]
    exact Heap.get?_push_of_some _ q
  · exact lt_of_le_nodup _ q3 nd3
  · rw [perm3.length_eq, List.length_map, Array.length_toList, sz0]
end
section
variable {X : Cx}
def rSortS (w : World) : List V → Hp → VK → Prop := fun xs H Q => ∃ a S n, xs = [V.ref a] ∧ H a = some (SiO w a S n) ∧ ∀ (p : Addr) (ns : List Int), ns.Pairwise (· < ·) → (∀ k, k ∈ ns ↔ S k = true) → H p = none → Q (.ref p) (upd H p (.lst (ns.map V.int)))
theorem call_sortS (hc : X.calm = true) : CallR X (.builtin "sorted") (rSortS X.w) := fun pins s σ H xs us Q I r h => by
  obtain ⟨a, S, n, rfl, ha, q⟩ := h
  obtain ⟨u, rfl, ru⟩ := vals1 r
  cases ru
  have R := siO_get I ha
  have hn : n < 4096 := by
    obtain ⟨_, es, _, _, _, _, _, _, _, _, few0, _, sz0, _⟩ := id R
    have : es.size < 4096 := few0
    omega
  refine sorted_of_set R (I.ok.hd hc) fun s' p out c ns k g o hp hg hi hs hm hl => ?_
  have hlen : (ns.map V.int).length ≤ sizeLine := by rw [List.length_map, hl, sizeLine_eq]; omega
  have hnp : H p = none := I.hok.fresh hp
  have J : Inv X pins σ (upd H p (.lst (ns.map V.int))) { s with heap := s'.heap, gens := s'.gens, drawn := s'.drawn, toks := s'.toks } :=
    I.call (ch := []) (Un.laid k hp hnp) (I.hok.laid k hp ⟨hlen, out.toList, c, vals_of_ints hi, by simpa using hg⟩) (by rw [g]; exact I.bare) (fun _ z => nomatch z)
  have es : s' = { s with heap := s'.heap, gens := s'.gens, drawn := s'.drawn, toks := s'.toks } := by
    cases s'
    cases s
    cases o
    rfl
  rw [es]
  exact ⟨.ref p, _, J, rfl, q p ns hs hm hnp⟩
end
section
variable {K : PySem.W.Frag} {mg : Str → Option Value} {E : XK} {X : Cx} {a tg it elt : Expr} {ma : ME} {pos p1 p2 q1 : Pos}
/-- the unlike numbers of a list, rising -/
def uniqI (ns : List Int) : List Int := sortI (ns.foldl addI [])
theorem addI_mem' {acc : List Int} {k x : Int} : x ∈ addI acc k ↔ x ∈ acc ∨ x = k := by
  unfold addI
  split
  · rename_i h
    obtain ⟨y, hy, e⟩ := List.any_eq_true.mp h
    have e : y = k := by simpa using e
    subst e
    exact ⟨.inl, fun h => h.elim id fun e => e ▸ hy⟩
  · simp
theorem addI_nd' {acc : List Int} {k : Int} (h : acc.Nodup) : (addI acc k).Nodup := by
  unfold addI
  split
  · exact h
  · rename_i hk
    refine List.nodup_append.mpr ⟨h, by simp, fun a ha b hb e => hk ?_⟩
    cases List.mem_singleton.mp hb
    exact List.any_eq_true.mpr ⟨a, ha, by simp [e]⟩
theorem foldI_mem : ∀ (ns acc : List Int) (x : Int), x ∈ ns.foldl addI acc ↔ x ∈ acc ∨ x ∈ ns
  | [], acc, x => by simp
  | n :: ns, acc, x => by
    rw [List.foldl_cons, foldI_mem ns, addI_mem', List.mem_cons, or_assoc]
theorem foldI_nd : ∀ (ns acc : List Int), acc.Nodup → (ns.foldl addI acc).Nodup
  | [], _, h => h
  | n :: ns, acc, h => foldI_nd ns _ (addI_nd' h)
theorem sortI_lt {ns : List Int} (h : ns.Nodup) : (sortI ns).Pairwise (· < ·) := by
  have hd := (sortI_perm ns).nodup_iff.mpr h
  exact ((sortI_le ns).and hd).imp fun {a b} ⟨h1, h2⟩ => by omega
theorem uniqI_lt (ns : List Int) : (uniqI ns).Pairwise (· < ·) := sortI_lt (foldI_nd ns [] .nil)
theorem uniqI_mem {ns : List Int} {x : Int} : x ∈ uniqI ns ↔ x ∈ ns := by
  unfold uniqI
  rw [(sortI_perm _).mem_iff, foldI_mem]
  simp
open Classical in
noncomputable def gSortSc (c : Bool) (acc : List Int) (C : Store) : RE := if acc.Nodup then newL c ((sortI acc).map D.int) C else .no
theorem ne_sortSc {c : Bool} {ifs : List Expr} {scope : Scope} (own : List (Str × Nat)) {mi : MI} {g : MT} {t : MG Bool} {m : ME} (hsrt : X.mg "sorted" = none) (hc : X.calm = true) (hN : X.N.Nodup) (hi : NI X E tg it mi) (ok : BlkOk X.N X.env.scope scope own)
    (hg : ∀ (s : Shared) (H : Hp) (C : Addr) (cl : List (Str × Addr)) (fp : List Addr), NG (X.blk s H scope (compEnvC scope cl C X.env) fp) EN (own.map (·.2)) tg g)
    (ht : ∀ (s : Shared) (H : Hp) (C : Addr) (cl : List (Str × Addr)) (fp : List Addr), NTs (X.blk s H scope (compEnvC scope cl C X.env) fp) ifs t)
    (he : ∀ (s : Shared) (H : Hp) (C : Addr) (cl : List (Str × Addr)) (fp : List Addr), NE (X.blk s H scope (compEnvC scope cl C X.env) fp) EN elt m)
    (hs : ∀ x, foldedSetIterable it X.env x = pure x := by intro _; rfl) (hgl : Gl X "sorted" := by rfl)
    (hst : starEach [Expr.SetComp elt [⟨tg, it, ifs, 0⟩] scope p2] X.env = (false, eval (.SetComp elt [⟨tg, it, ifs, 0⟩] scope p2) X.env) :: starEach [] X.env := by rfl) (hpl : (backTo pos (starEach [] X.env)).any (·.1) = false := by rfl) :
    NE X E (.Call (.Name "sorted" p1) [.SetComp elt [⟨tg, it, ifs, 0⟩] scope p2] [] pos) (mSc (gSortSc c) (own.map (·.2)) mi g t m) :=
  ⟨pe_imp (pe_callB (call_sortS hc) hgl hsrt boot_sorted (pa_cons (pe_si (own := own) (wi := LI X.K X.mg E mi) (g := LT (own.map (·.2)) X.K X.mg EN g) (tt := LG PB X.K X.mg EN t) (te := LG (Rep X.K) X.K X.mg EN m) hc hN hi.pi ok (fun s H C cl fp => (hg s H C cl fp).pg) (fun s H C cl fp => (ht s H C cl fp).pt) (fun s H C cl fp => (he s H C cl fp).pe) hs) pa_nil hst) (by decide) (by decide) hst hpl) fun s H Q q => by
    exact sc_ok (X := X) (Q := Q) (Q2 := fun v H1 => rSortS X.w [v] H1 Q) (fun B F r H C acc p hB hr hp o => by
      unfold gSortSc at o
      split at o
      · rename_i hd
        obtain ⟨k1, k2⟩ := hr.asideFreeze hB
        refine ⟨p, _, _, rfl, hp, fun p2 ms h3 h4 hp2 => ?_⟩
        have em : ms = sortI acc := sortI_uniq h3 (sortI_lt hd) fun k => by rw [h4, (sortI_perm _).mem_iff, List.any_eq_true]; simp
        subst em
        exact newL_ok k1 (Reps.ofInts _) (Out.mono o k2 (.refl r)) hp2
      · exact False.elim o) q⟩
end
section
variable {QD : D → Store → Prop} {C : Store}
theorem w_sortSc {c : Bool} {l : List Int} (q : W (newL c ((uniqI l).map D.int) C) QD) : W (gSortSc c (l.foldl addI []) C) QD := by
  unfold gSortSc
  rw [if_pos (foldI_nd l [] .nil)]
  exact q
end
end Nv

namespace Nv
open PySem PySem.Spec PyProof.Rows L2
/-! a list of data in order: texts, tuples of texts and numbers .. -/
section
variable {X : Cx}
end
open Classical in
section
variable {K : PySem.W.Frag} {mg : Str → Option Value} {E : XK} {B F H : Hp} {r : List Addr} {C : Store}
theorem three (hr : Rel K B F r H C) : ∀ {ds : List D} {vs : List V} {ps : List PyData}, Reps K F r ds vs → toPs C ds = some ps →
    ∃ T : List (D × V × PyData), T.map (·.1) = ds ∧ T.map (·.2.1) = vs ∧ T.map (·.2.2) = ps ∧ ∀ t ∈ T, Rep K F r t.1 t.2.1 ∧ Dp K H t.2.1 t.2.2
  | [], vs, ps, h, e => by
    cases (show vs = [] from h)
    cases e
    exact ⟨[], rfl, rfl, rfl, fun _ h => nomatch h⟩
  | d :: ds, vs, ps, h, e => by
    obtain ⟨v, w, rfl, h1, h2⟩ := h
    cases e1 : toP C d with
    | none =>
      unfold toPs at e
      rw [e1] at e
      cases e
    | some p =>
      cases e2 : toPs C ds with
      | none =>
        unfold toPs at e
        rw [e1, e2] at e
        cases e
      | some qs =>
        unfold toPs at e
        rw [e1, e2] at e
        cases e
        obtain ⟨T, t1, t2, t3, t4⟩ := three hr h2 e2
        refine ⟨(d, v, p) :: T, by rw [← t1]; rfl, by rw [← t2]; rfl, by rw [← t3]; rfl, fun t ht => ?_⟩
        rcases List.mem_cons.mp ht with rfl | ht
        · exact ⟨h1, toP_ok hr h1 e1⟩
        · exact t4 t ht
end
section
variable {C : Store} {QD : D → Store → Prop}
end
end Nv

namespace Nv
open PySem PySem.Spec PyProof.Rows L2
/-! own errors: made, raised -/
section
variable {X : Cx} {e : Expr} {es : List Expr} {ta : TA} {p1 p2 pos : Pos}
/-- an own class whose __init__ is the one of ValueError -/
structure BaseX (K : PySem.W.Frag) (R : Addr) : Prop where
  rd : PySem.W.readsIn K R (.type "type") = true
  ga : PySem.W.specialIn K (.ref R) "__getattribute__" = some (some (.builtin "type.__getattribute__"))
  ini : PySem.W.findCls K (.ref R) (.type "type") "__init__" = some (.val (.builtin "ValueError.__init__"))
/-- what such an __init__ promises: the one field is set -/
def spI (K : PySem.W.Frag) (C : Addr) (f : Str) : Sp := fun vs H Q _ => ∃ (a : Addr) (v : V), vs = [.ref a, v] ∧ OexC K C ∧ PySem.W.findIn K (.ref C) f = some none ∧ H a = some (exo a C none) ∧
  ∀ dx, H dx = none → dx ≠ a → Q .non (upd (upd H dx (exd dx [(f, v)])) a (exo a C (some dx)))
end
def sRaise0 (x : Str) : MS := fun _ C => .ex ⟨x, none⟩ C
/-- what the written part says of such a class, and of its __init__ -/
structure ErrI (P : Program) (w : World) (K : PySem.W.Frag) (mg : Str → Option Value) (base : Heap) (x f : Str) (C : Addr) : Prop where
  at_ : mg x = some (.ref C)
  ox : OexC K C
  nf : PySem.W.findIn K (.ref C) f = some none
  ini : ∃ (fI : Addr) (fd : FuncData), PySem.W.findIn K (.ref C) "__init__" = some (some (.ref fI)) ∧ PySem.W.typeIn K (.ref fI) = some (.type "function") ∧ FnOk P w K mg base CX0 1 fI fd ["self", f] (spI K C f) ∧ Binds K fd ["self", f] []
/-- what must be known of a class whose errors are looked into -/
structure ErrL (K : PySem.W.Frag) (mg : Str → Option Value) (x f : Str) (C : Addr) : Prop where
  at_ : mg x = some (.ref C)
  xf : xfB K C = true
  nf : PySem.W.findIn K (.ref C) f = some none
section
variable {X : Cx} {E : XK} {e : Expr} {m : ME} {p pos rp : Pos} {x f rx : Str} {C : Addr}
/-- an own class without __init__ -/
structure Err0 (K : PySem.W.Frag) (mg : Str → Option Value) (x : Str) (C : Addr) : Prop where
  at_ : mg x = some (.ref C)
  ex : PySem.W.excIn K C [.type "ValueError", .type "Exception", .type "BaseException", .type "object"] "ValueError.__new__" = true
  kp : PySem.W.keepIn K (.ref C) = true
  sb : PySem.W.subIn K (.ref C) (.type "BaseException") = some true
  ty : PySem.W.typeIn K (.ref C) = some (.type "type")
theorem ns_raise0 {t : Str} {j : Nat} {p2 : Pos} (T : Err0 X.K X.mg x C) (hc : X.calm = true) (tk : L2.Takes X (fun cls d _ H => E cls d H)) (hg : Gl X x := by rfl) (hdb : (x == ("__debug__" : Str)) = false := by decide) :
    NS X E (.Raise (some (.Call (.Name x p) [.Constant (.str t) j p2] [] pos)) none rp) (sRaise0 x) := by
  refine ⟨ps_imp (L2.ps_raise hc tk (L2.pmk_own PySem.F.excBase_ValueError T.ex T.at_ T.kp (raises_own T.sb T.ty) hg hdb)) fun De s H q => ?_⟩
  obtain ⟨B, F, r, sl, C0, hr, hs, o⟩ := q
  have o : XOk X.K X.mg E B F r ⟨x, none⟩ C0 := o
  exact o F r H C (.refl _) (.refl _) hr T.at_
end
abbrev wAt0 (W : WX) (s : L2.St) : XK := fun cls d H => W cls d s H
def LX (K : PySem.W.Frag) (mg : Str → Option Value) (W : WX) (m : ME) : TE := fun s H Q => ∃ B F r sl C, Rel K B F r H C ∧ Sls K F r sl s ∧ Out (Rep K) K mg (wAt0 W s) B F r (m sl C) Q
def LSX (K : PySem.W.Frag) (mg : Str → Option Value) (W : WX) (m : MS) : TS := fun De s H => ∃ B F r sl C, Rel K B F r H C ∧ Sls K F r sl s ∧ OutS K mg (wAt0 W s) B F r (m sl C) De
structure NEx (X : Cx) (W : WX) (e : Expr) (m : ME) : Prop where
  pe : PE X e (LX X.K X.mg W m)
structure NSx (X : Cx) (W : WX) (st : Stmt) (m : MS) : Prop where
  ps : PS X st (LSX X.K X.mg W m)
structure NSsx (X : Cx) (W : WX) (st : List Stmt) (m : MS) : Prop where
  ps : PSs X st (LSX X.K X.mg W m)
section
variable {X : Cx} {W : WX} {k : Nat} {f : Addr} {fd : FuncData} {ps : List Str} {sp : Sp} {x : Str} {p p1 pos : Pos} {e c : Expr} {es : List Expr} {t : TA} {m : ME} {mas : MG (List D)} {st : Stmt} {xs ys : List Stmt} {u u1 u2 : MS} {mt : MG Bool}
end
section
variable {X : Cx} {E : XK} {x n : Str} {c : Value} {i : Nat} {body suite : List Stmt} {b₀ : Stmt} {np pos pos' : Pos} {ts : Addr → Value → Option Addr → TS} {mb : MS} {hm : Exn → MS}
end
/-! what an except suite does with the error that it holds -/
section
variable {X : Cx} {E : XK} {x f y n rx : Str} {C : Addr} {i j : Nat} {body : List Stmt} {np p1 p2 p3 p4 pos pos' : Pos} {mb : MS}
end
/-! y = (w, n.f) if isinstance(n, x) and isinstance(n, ValueError) else o -/
section
variable {X : Cx} {E : XK} {x f y n rx w o : Str} {i j : Nat} {body : List Stmt} {np p1 p2 p3 p4 p5 p6 p7 p8 p9 p10 p11 p12 p13 p14 p15 q1 q2 pos pos' : Pos} {k1 k2 k3 : Nat} {mb : MS}
end
end Nv

namespace Nv
open PySem PySem.Spec PyProof.Rows L2
/-! an error that is kept beyond its suite: except R as n: y = n -/
section
variable {X : Cx} {pins : List (Addr × Obj)} {σ : L2.St} {H : Hp} {s : Shared}
end
section
variable {X : Cx} {x n y : Str} {c : Value} {i j : Nat} {body : List Stmt} {np p1 p2 p3 pos pos' : Pos} {tb : WX → TS}
end
section
variable {X : Cx} {E : XK} {x n y : Str} {R : Addr} {body : List Stmt} {np p1 p2 p3 pos pos' : Pos} {mb : MS}
end
end Nv

namespace Nv
open PySem PySem.Spec PyProof.Rows L2
section
variable {X : Cx}
end
def OwnF (K : PySem.W.Frag) (tb : List (Str × List Str)) (t : Str) (cv : Value) : Prop := ∀ c as, tb.lookup c = some as → ∀ C : Addr, PySem.W.nsIn K mainGlobals c = some (some (.ref C)) → ExcC K C ∧ PySem.W.kitOne K (.ref C) cv = some (as.contains t)
section
variable {X : Cx} {E : XK} {e : Expr} {m : ME} {t : Str} {tb : List (Str × List Str)} {c : V} {cv : Value} {p1 p2 pos : Pos}
end
section
variable {X : Cx}
end
/-- the classes that a tuple names, by their values -/
inductive OwnFs (K : PySem.W.Frag) (tb : List (Str × List Str)) : List Str → List V → List Value → Prop
  | nil : OwnFs K tb [] [] []
  | cons {t : Str} {c : V} {cv : Value} {ts : List Str} {cs : List V} {cvs : List Value} (h : OwnF K tb t cv) (hc : ∀ u, RelV c u → u = cv) (r : OwnFs K tb ts cs cvs) : OwnFs K tb (t :: ts) (c :: cs) (cv :: cvs)
theorem OwnFs.any {K : PySem.W.Frag} {tb : List (Str × List Str)} {ts : List Str} {cs : List V} {cvs : List Value} (h : OwnFs K tb ts cs cvs) {c : Str} {as : List Str} (hl : tb.lookup c = some as) {C : Addr} (hn : PySem.W.nsIn K mainGlobals c = some (some (.ref C))) :
    PySem.W.kitAny K (.ref C) cvs = some (ts.any fun t => as.contains t) := by
  induction h with
  | nil => rfl
  | @cons t c' cv ts cs cvs h hc r ih =>
    obtain ⟨_, hk⟩ := h c as hl C hn
    show (match PySem.W.kitOne K (.ref C) cv with
      | some true => some true
      | some false => PySem.W.kitAny K (.ref C) cvs
      | none => none) = _
    rw [hk, List.any_cons]
    cases as.contains t with
    | true => rfl
    | false => exact ih
section
variable {X : Cx} {E : XK} {e te : Expr} {es : List Expr} {m : ME} {ts : List Str} {tb : List (Str × List Str)} {cs : List V} {cvs : List Value} {k : Nat} {p1 p2 pos : Pos}
theorem pcs_nil : PA X [] (fun _ H Q => Q [] H) := pa_nil
theorem pcs_cons {c : V} (h : PE X te (tC c)) (r : PA X es (fun _ H Q => Q cs H)) (hs : starEach (te :: es) X.env = (false, eval te X.env) :: starEach es X.env := by rfl) : PA X (te :: es) (fun _ H Q => Q (c :: cs) H) := pa_cons h r (hs := hs)
end
/-! by facts of the text alone -/
def OwnX (K : PySem.W.Frag) (mg : Str → Option Value) (tb : List (Str × List Str)) (t : Str) : Prop :=
  ∃ (c : V) (cv : Value), OwnF K tb t cv ∧ (∀ u, RelV c u → u = cv) ∧ RelV c cv ∧ (mg t = some cv ∨ (mg t = none ∧ bootBuiltins t = some cv ∧ t ≠ "__name__"))
section
variable {X : Cx} {E : XK} {e : Expr} {es : List Expr} {m : ME} {t : Str} {ts : List Str} {tb : List (Str × List Str)} {k : Nat} {p1 p2 p pos : Pos}
theorem pe_own {c : V} {cv : Value} (h : X.mg t = some cv ∨ (X.mg t = none ∧ bootBuiltins t = some cv ∧ t ≠ "__name__")) (hr : RelV c cv) (hg : Gl X t) (hd : (t == ("__debug__" : Str)) = false) : PE X (.Name t p) (tC c) := by
  rcases h with h | ⟨h1, h2, h3⟩
  · exact pe_glob hg h hr hd
  · exact pe_bltn hg h1 h2 hr h3 hd
/-- the names in the tuple -/
inductive OwnsP (X : Cx) (tb : List (Str × List Str)) : List Expr → List Str → Prop
  | nil : OwnsP X tb [] []
  | cons {t : Str} {p : Pos} {es : List Expr} {ts : List Str} (h : OwnX X.K X.mg tb t) (r : OwnsP X tb es ts) (hg : Gl X t := by rfl) (hd : (t == ("__debug__" : Str)) = false := by decide) (hs : starEach (.Name t p :: es) X.env = (false, eval (.Name t p) X.env) :: starEach es X.env := by rfl) : OwnsP X tb (.Name t p :: es) (t :: ts)
theorem OwnsP.all (h : OwnsP X tb es ts) : ∃ cs cvs, OwnFs X.K tb ts cs cvs ∧ PA X es (fun _ H Q => Q cs H) ∧ cs.length = es.length := by
  induction h with
  | nil => exact ⟨[], [], .nil, pcs_nil, rfl⟩
  | @cons t p es ts h r hg hd hs ih =>
    obtain ⟨cs, cvs, i1, i2, i3⟩ := ih
    obtain ⟨c, cv, hF, hu, hr, hn⟩ := h
    exact ⟨c :: cs, cv :: cvs, .cons hF hu i1, pcs_cons (pe_own hn hr hg hd) i2 hs, by simp [i3]⟩
end
/-! raise and keep, by facts of the text -/
def Raise0 (K : PySem.W.Frag) (mg : Str → Option Value) (x : Str) : Prop := ∃ C : Addr, Err0 K mg x C
section
variable {X : Cx} {E : XK} {x n y t : Str} {cs : List Str} {body : List Stmt} {np p p1 p2 p3 rp pos pos' : Pos} {mb : MS} {k : Nat}
theorem ns_raise0X (h : Raise0 X.K X.mg x) (hc : X.calm = true) (tk : L2.Takes X (fun cls d _ H => E cls d H)) (hg : Gl X x := by rfl) (hdb : (x == ("__debug__" : Str)) = false := by decide) :
    NS X E (.Raise (some (.Call (.Name x p) [.Constant (.str t) k p2] [] pos)) none rp) (sRaise0 x) := by
  obtain ⟨C, T⟩ := h
  exact ns_raise0 T hc tk hg hdb
end
end Nv

namespace Nv
open PySem PySem.Spec PyProof.Rows L2
section
variable {X : Cx} {E : XK} {x y n rx : Str} {C : Addr} {i j : Nat} {body : List Stmt} {np p1 p2 p3 p4 p5 p6 p7 p8 p13 q1 q2 pos pos' : Pos} {mb : MS}
end
section
variable {sl : Sl} {C : Store} {QS : Fl → Sl → Store → Prop} {x : Str} {i j : Nat} {cs : List Str} {b : Bool}
end
end Nv

namespace Nv
open PySem PySem.Spec PyProof.Rows L2
section
variable {K : PySem.W.Frag} {mg : Str → Option Value} {tb : List (Str × List Str)} {c t f x : Str} {as : List Str} {C0 : Addr} {cv : Value} {cs : List Str} {R : Addr}
end
section
variable {X : Cx} {E : XK} {e : Expr} {te : TE} {m : ME} {f : Str} {pos : Pos} {tb : List (Str × List Str)}
end
section
variable {C : Store} {QD : D → Store → Prop} {tb : List (Str × List Str)}
end
end Nv

namespace Nv
open PySem PySem.Spec PyProof.Rows L2
/-! dict(list of pairs), the keys tuples -/
section
variable {X : Cx}
end
def pairsD : List D → Option (List (D × D))
  | [] => some []
  | .tup [a, b] :: r => (pairsD r).map ((a, b) :: ·)
  | _ => none
section
variable {K : PySem.W.Frag} {mg : Str → Option Value} {E : XK} {B F H : Hp} {r : List Addr} {C : Store}
theorem pairsD_ok (hF : Same F H) : ∀ {ds : List D} {vs : List V} {dds : List (D × D)}, Reps K F r ds vs → pairsD ds = some dds → ∃ (ts : List Addr) (ps : List (V × V)), vs = ts.map V.ref ∧ PRP K F r dds ps ∧ Paired (fun t p => SqT K H t [p.1, p.2]) ts ps
  | [], vs, _, h, e => by
    cases (show vs = [] from h)
    cases e
    exact ⟨[], [], rfl, ⟨rfl, rfl⟩, .nil⟩
  | d :: ds, vs, dds, h, e => by
    unfold pairsD at e
    split at e
    · rename_i e0
      cases e0
    · rename_i a b rest e0
      cases e0
      cases g : pairsD ds with
      | none => rw [g] at e; cases e
      | some dds' =>
        rw [g] at e
        cases e
        obtain ⟨v, w, rfl, h1, h2⟩ := h
        obtain ⟨ts, ps, rfl, h3, h4⟩ := pairsD_ok hF h2 g
        obtain ⟨t, us, rfl, g1, g2⟩ := h1
        obtain ⟨x, us1, rfl, g3, g4⟩ := g2
        obtain ⟨y, us2, rfl, g5, g6⟩ := g4
        cases (show us2 = [] from g6)
        exact ⟨t :: ts, (x, y) :: ps, rfl, ⟨.cons g3 h3.1, .cons g5 h3.2⟩, .cons (Same.tup hF g1) h4⟩
    · cases e
theorem paired_maps {α β γ : Type} {R : α → β → Prop} {f : γ → β} : ∀ {ts : List α} {xs : List γ}, Paired R ts (xs.map f) → Paired (fun t x => R t (f x)) ts xs
  | [], [], _ => .nil
  | [], _ :: _, h => nomatch h
  | _ :: _, [], h => nomatch h
  | t :: ts, x :: xs, .cons h tl => .cons h (paired_maps tl)
end
section
variable {C : Store} {QD : D → Store → Prop}
end
/-! dict(list of pairs), the keys flat -/
def rDictK (K : PySem.W.Frag) : List V → Hp → VK → Prop := fun xs H Q => ∃ (a : Addr) (ps : List Addr) (kvs : List (Key × V)), xs = [V.ref a] ∧ SqL K H a (ps.map V.ref) ∧ Paired (fun p kv => SqT K H p [kV kv.1, kv.2]) ps kvs ∧ ∀ p : Addr, H p = none → Q (.ref p) (upd H p (.dK (mergeK [] kvs)))
theorem cr_dictK {X : Cx} (hcalm : X.calm = true) : CallR X (.type "dict") (rDictK X.K) := call_dictP hcalm
def gDictK (x : D) (C : Store) : RE := match lstOf C x with
  | some ds => match (pairsD ds).bind fkKeys with
    | some kvs => .ok (.cell C.length, C ++ [.dk (putDs [] kvs)])
    | none => .no
  | none => .no
section
variable {K : PySem.W.Frag} {mg : Str → Option Value} {E : XK}
theorem dictKN : CallN K mg E (rDictK K) (on1 gDictK) := on1N fun B F r H C x v Q hr hx o => by
  unfold gDictK at o
  split at o
  · rename_i ds e
    split at o
    · rename_i kvs e2
      obtain ⟨a, vs, rfl, h1, h2⟩ := lstOf_ok hr hx e
      cases g : pairsD ds with
      | none => rw [g] at e2; cases e2
      | some dds =>
        rw [g, Option.bind_some] at e2
        obtain ⟨ts, ps, rfl, h3, h4⟩ := pairsD_ok hr.froz h2 g
        obtain ⟨ws, rfl, q2, q3⟩ := fkKeys_ok h3 e2
        refine ⟨a, ts, ws, rfl, h1, paired_maps (R := fun t (p : V × V) => SqT K H t [p.1, p.2]) (f := fun kv : Key × V => (kV kv.1, kv.2)) h4, fun p hp => ?_⟩
        obtain ⟨g1, g2⟩ := mergeK_ok ws [] kvs [] q2 q3 rfl rfl
        refine o F (r ++ [p]) _ _ (.refl _) (Ex.app r _) (hr.alloc hp ⟨hr.freeF hp, _, upd_same, g1, g2.mono (.refl _) (Ex.app r _)⟩) ⟨p, rfl, ?_⟩
        rw [← hr.len, List.getElem?_append_right (Nat.le_refl _)]
        simp
    · exact False.elim o
  · exact False.elim o
end
section
variable {C : Store} {QD : D → Store → Prop}
theorem w_dictK {x : D} {ds : List D} {dds : List (D × D)} {kvs : List (Key × D)} (hx : lstOf C x = some ds) (e : pairsD ds = some dds) (e2 : fkKeys dds = some kvs) (q : QD (.cell C.length) (C ++ [.dk (putDs [] kvs)])) : W (on1 gDictK [x] C) QD := by
  show W (gDictK x C) QD
  unfold gDictK
  rw [hx]
  simp only [e, e2, Option.bind_some]
  exact W.ok q
end
/-- dict(d), d of flat keys -/
def rDictC : List V → Hp → VK → Prop := fun xs H Q => ∃ (a : Addr) (kvs : List (Key × V)), xs = [V.ref a] ∧ Rd H a (.dK kvs) ∧ ∀ p : Addr, H p = none → Q (.ref p) (upd H p (.dK kvs))
theorem cr_dictC {X : Cx} : CallR X (.type "dict") rDictC := by
  intro pins s σ H vs us Q I r h
  obtain ⟨a, kvs, rfl, e, q⟩ := h
  rw [Vals.ref1 r]
  exact d_copyOf I e fun p s' hp I' => ⟨.ref p, _, I', rfl, q p hp⟩
def gDictC (x : D) (C : Store) : RE := match dkAt C x with
  | some (_, kvs) => .ok (.cell C.length, C ++ [.dk kvs])
  | none => .no
section
variable {K : PySem.W.Frag} {mg : Str → Option Value} {E : XK}
theorem dictCN : CallN K mg E rDictC (on1 gDictC) := on1N fun B F r H C x v Q hr hx o => by
  unfold gDictC at o
  split at o
  · rename_i i kvs e
    obtain ⟨a, ws, rfl, h1, h2, h3, h4, h5⟩ := dkAt_ok hr hx e
    refine ⟨a, ws, rfl, .inl h3, fun p hp => ?_⟩
    refine o F (r ++ [p]) _ _ (.refl _) (Ex.app r _) (hr.alloc hp ⟨hr.freeF hp, ws, upd_same, h4, h5.mono (.refl _) (Ex.app r _)⟩) ⟨p, rfl, ?_⟩
    rw [← hr.len, List.getElem?_append_right (Nat.le_refl _)]
    simp
  · exact False.elim o
end
section
variable {C : Store} {QD : D → Store → Prop}
theorem w_dictC {i : Nat} {kvs : List (Key × D)} (h : C[i]? = some (.dk kvs)) (q : QD (.cell C.length) (C ++ [.dk kvs])) : W (on1 gDictC [.cell i] C) QD := by
  show W (gDictC (.cell i) C) QD
  unfold gDictC
  simp only [dkAt_c h]
  exact W.ok q
end
end Nv

namespace Nv
open PySem PySem.Spec PyProof.Rows L2
/-! list(d) of flat keys -/
def keyD : Key → D
  | .inl i => .int i
  | .inr s => .str s
def rListDk : List V → Hp → VK → Prop := fun xs H Q => ∃ (a : Addr) (kvs : List (Key × V)), xs = [V.ref a] ∧ Rd H a (.dK kvs) ∧ ∀ p : Addr, H p = none → Q (.ref p) (upd H p (.lst (kvs.map fun kv => kV kv.1)))
theorem cr_listDk {X : Cx} (hcalm : X.calm = true) : CallR X (.type "list") rListDk := call_listD hcalm
def gListDk (c : Bool) (x : D) (C : Store) : RE := match dkAt C x with
  | some (_, kvs) => newL c (kvs.map fun kv => keyD kv.1) C
  | none => .no
section
variable {K : PySem.W.Frag} {mg : Str → Option Value} {E : XK} {F : Hp} {r : List Addr}
theorem reps_keys : ∀ {kvs : List (Key × D)} {ws : List (Key × V)}, kvs.map (·.1) = ws.map (·.1) → Reps K F r (kvs.map fun kv => keyD kv.1) (ws.map fun kv => kV kv.1)
  | [], [], _ => .nil
  | [], _ :: _, h => nomatch h
  | _ :: _, [], h => nomatch h
  | kv :: kvs, w :: ws, h => by
    rw [List.map_cons, List.map_cons, List.cons.injEq] at h
    refine .cons ?_ (reps_keys h.2)
    show Rep K F r (keyD kv.1) (kV w.1)
    rw [show kv.1 = w.1 from h.1]
    cases w.1 with
    | inl i => exact rfl
    | inr s => exact rfl
theorem listDkN {c : Bool} : CallN K mg E rListDk (on1 (gListDk c)) := on1N fun B F r H C x v Q hr hx o => by
  unfold gListDk at o
  split at o
  · rename_i i kvs e
    obtain ⟨a, ws, rfl, h1, h2, h3, h4, h5⟩ := dkAt_ok hr hx e
    exact ⟨a, ws, rfl, .inl h3, fun p hp => newL_ok hr (reps_keys h4) o hp⟩
  · exact False.elim o
end
section
variable {C : Store} {QD : D → Store → Prop}
theorem w_listDk {c : Bool} {i : Nat} {kvs : List (Key × D)} (h : C[i]? = some (.dk kvs)) (q : W (newL c (kvs.map fun kv => keyD kv.1) C) QD) : W (on1 (gListDk c) [.cell i] C) QD := by
  show W (gListDk c (.cell i) C) QD
  unfold gListDk
  simp only [dkAt_c h]
  exact q
end
/-! d[k] += a number -/
def sDAddK (mo mi mv : ME) : MS := fun sl C => (mo sl C).bind fun p => (mi sl p.2).bind fun q => match dkAt q.2 p.1, keyOf q.1 with
  | some (_, kvs), some k => match valD kvs k with
    | some (.int a) => (mv sl q.2).bind fun t => match t.1, dkAt t.2 p.1 with
      | .int b, some (n, kvs2) => if kvs2.length < sizeLine then .ok ((.nx, sl), t.2.set n (.dk (putD kvs2 k (.int (a + b))))) else .no
      | _, _ => .no
    | _ => .no
  | _, _ => .no
section
variable {X : Cx} {E : XK} {o i value : Expr} {mo mi mv : ME} {pos tpos : Pos}
theorem ns_daddk (hu : X.A.units + 64 < cLine) (ho : NE X E o mo) (hi : NE X E i mi) (hv : NE X E value mv)
    (ha : ∀ ov iv new, augStore i ov iv new = (do holding [new, ov, iv] (setItem ov iv new); release [new, ov, iv] []; pure .next) := by intros; rfl) :
    NS X E (.AugAssign (.Subscript o i tpos) .Add value pos) (sDAddK mo mi mv) :=
  ⟨ps_imp (ps_daug (show X.A.units + 1 < cLine by omega) ho.pe hi.pe hv.pe in_add ha) fun De s H q => by
    obtain ⟨B, F, r, sl, C, hr, hs, o⟩ := q
    refine ⟨B, F, r, sl, C, hr, hs, OutS.bind (P := Rep X.K) o fun x C1 F1 r1 H1 v e1 e2 hr1 hx o1 => ?_⟩
    refine ⟨B, F1, r1, sl, C1, hr1, hs.mono e1 e2, OutS.bind (P := Rep X.K) o1 fun y C2 F2 r2 H2 u e3 e4 hr2 hy o2 => ?_⟩
    have hx2 := hx.mono e3 e4
    simp only at o2
    split at o2
    · rename_i n kvs k ed ek
      split at o2
      · rename_i a ev
        obtain ⟨ad, ws, rfl, h1, h2, h3, h4, h5⟩ := dkAt_ok hr2 hx2 ed
        obtain ⟨w, g1, g2⟩ := val_ok h4 h5 ev
        cases (show w = V.int a from g2)
        refine ⟨ad, .int a, rfl, ?_, ?_⟩
        · rw [keyOf_ok hy ek, ← g1]
          exact DGet.k h3
        refine ⟨B, F2, r2, sl, C2, hr2, (hs.mono e1 e2).mono e3 e4, OutS.bind (P := Rep X.K) o2 fun z C3 F3 r3 H3 z' e5 e6 hr3 hz o3 => ?_⟩
        have hx3 := hx2.mono e5 e6
        simp only at o3
        split at o3
        · rename_i b n2 kvs2 ed2
          split at o3
          · rename_i hl
            cases (show z' = V.int b from hz)
            obtain ⟨ad2, ws2, ea, h1, h2, h3, h4, h5⟩ := dkAt_ok hr3 hx3 ed2
            cases ea
            have hlen := congrArg List.length h4
            rw [List.length_map, List.length_map] at hlen
            refine ⟨a, b, rfl, rfl, ?_⟩
            refine ⟨_, ?_, OutS.next o3 (hr3.write (o := .dK (putK ws2 k (.int (a + b)))) h1 h2 ⟨h2, _, upd_same, putD_keys h4, putD_reps h4 h5 (d := .int (a + b)) rfl⟩) (((hs.mono e1 e2).mono e3 e4).mono e5 e6)⟩
            rw [keyOf_ok hy ek]
            exact DPut.k h3 (by omega)
          · exact False.elim o3
        · exact False.elim o3
      · exact False.elim o2
    · exact False.elim o2⟩
end
section
variable {C : Store} {sl : Sl} {QS : Fl → Sl → Store → Prop} {mo mi mv : ME}
theorem w_daddk (h : W (mo sl C) fun x C1 => W (mi sl C1) fun y C2 => ∃ i kvs k a, x = .cell i ∧ C2[i]? = some (.dk kvs) ∧ keyOf y = some k ∧ valD kvs k = some (.int a) ∧ W (mv sl C2) fun z C3 => ∃ b kvs2, z = .int b ∧ C3[i]? = some (.dk kvs2) ∧ kvs2.length < sizeLine ∧ QS .nx sl (C3.set i (.dk (putD kvs2 k (.int (a + b)))))) : WS (sDAddK mo mi mv sl C) QS :=
  W.bindS (h.imp fun x C1 h => W.bindS (h.imp fun y C2 h => by
    obtain ⟨i, kvs, k, a, rfl, h1, h2, h3, h⟩ := h
    simp only [dkAt_c h1, h2, h3]
    exact W.bindS (h.imp fun z C3 h => by
      obtain ⟨b, kvs2, rfl, g1, g2, q⟩ := h
      simp only [dkAt_c g1, if_pos g2]
      exact WS.ok q)))
end
/-! list(d.values()) -/
theorem kv_vals : ∀ {kvs : List (Key × V)} {vs : List (Key × Value)}, KV kvs vs → Vals (kvs.map (·.2)) (vs.map (·.2))
  | _, _, .nil => .nil
  | _, _, .cons h t => .cons h.2 (kv_vals t)
def tListVals (td : TE) : TE := fun σ H Q => td σ H fun x H1 => ∃ a kvs, x = V.ref a ∧ H1 a = some (.dK kvs) ∧ ∀ p : Addr, H1 p = none → Q (.ref p) (upd H1 p (.lst (kvs.map (·.2))))
section
variable {X : Cx} {o : Expr} {p pos apos mpos : Pos} {td : TE}
theorem pe_listVals (hc : X.calm = true) (hg : Gl X "list") (hm : X.mg "list" = none) (hd : PE X o td) (hbase : attributeBase o "values" X.env (eval o X.env) = eval o X.env := by rfl) (hline : (apos.endLine == mpos.line) = true := by rfl)
    (hse : starEach [Expr.Call (.Attribute o "values" apos) [] [] mpos] X.env = [(false, eval (Expr.Call (.Attribute o "values" apos) [] [] mpos) X.env)] := by rfl) :
    PE X (.Call (.Name "list" p) [.Call (.Attribute o "values" apos) [] [] mpos] [] pos) (tListVals td) := by
  refine ⟨fun pins s σ H Q I h => ?_⟩
  refine wpAny_Call_Name_kw (ld_blt I hg hm (u := .type "list") (by first | rfl | decide +kernel) ?_ (by first | decide +kernel | decide) (by first | decide +kernel | decide))
  rw [hse]
  refine PySem.callWith_type1 (wpAny_Call_method0_late hbase hline (thn (hd.run pins s σ H _ I h) fun v s1 ⟨x, H1, I1, r1, a, kvs, ex, ha, q⟩ => ?_))
  subst ex
  obtain rfl : v = Value.ref a := r1
  obtain ⟨z, hsys, vs, rel, dof⟩ := dk_of I1.hok ha
  obtain ⟨ep, dat⟩ := dof.dictAt
  have dat' := dat
  obtain ⟨ob, es, ho, ex, hdat, hko, hpr, hnd⟩ := dat'
  refine ⟨"dict", "dict.values", F.plainAttrs_dict, F.slot_dict_values, F.type_dict_values, ⟨ob, ho, ex.1⟩, fun b e => ?_, Calls.callWith_builtin rfl (PySem.evalArgs_none ?_)⟩
  · cases e
    exact ⟨ob, ho, ex.2.1⟩
  refine call_meetsIn F.slot_dict_values ⟨ob, ho, ex.1⟩ F.entry_dict_values (F.args_dict_values_1 _) (meets_dict_values (mixKind X.prog X.w) a hsys) ⟨⟨vs, dof⟩, ?_⟩
  have k1 : ∀ b u, s1.heap.get? b = some u → (s1.heap.push { cls := .type "dict_values", data := .fields #[.ref a] }).get? b = some u := fun b u e => Heap.get?_push_of_some _ e
  have dat1 : (s1.heap.push { cls := .type "dict_values", data := .fields #[.ref a] }).DictAt (mixKind X.prog X.w) a vs ep := dat.keep k1
  refine PySem.W.kdl_call (PySem.W.kdl_values (knd := mixKind X.prog X.w) (kvs := vs) (ep := ep)) (I1.ok.hd hc) ⟨⟨_, Heap.get?_push_size _ rfl, rfl, rfl⟩, dat1⟩ (by rw [← rel.length]; exact z) fun h' tk acc c' hk hD hacc => ?_
  have hsz : (s1.heap.push { cls := .type "dict_values", data := .fields #[.ref a] }).objs.size = s1.heap.objs.size + 1 := Heap.size_push _ _
  have hv : acc.toList = vs.map (·.2) := PySem.W.kdl_vals_eq acc.toList (by rw [Array.length_toList]; exact hacc.1) fun j v e => hacc.2 j v (by rw [← Array.getElem?_toList]; exact e)
  refine ⟨.ref (s1.heap.push { cls := .type "dict_values", data := .fields #[.ref a] }).objs.size, upd H1 (s1.heap.push { cls := .type "dict_values", data := .fields #[.ref a] }).objs.size (.lst (kvs.map (·.2))), I1.laid (t' := tk) (fun b u e => hk b u (k1 b u e)) (by rw [hsz]; exact Nat.le_succ _)
    (show ObjOk X.prog X.w _ _ _ (.lst (kvs.map (·.2))) from ⟨by rw [List.length_map]; exact z, acc.toList, c', by rw [hv]; exact kv_vals rel, by rw [Array.toArray_toList]; exact hD⟩), rfl, q _ (I1.hok.fresh (by rw [hsz]; exact Nat.le_succ _))⟩
end
def mListVals (c : Bool) (m : ME) : ME := fun sl C => (m sl C).bind fun p => match dkAt p.2 p.1 with
  | some (_, kvs) => newL c (kvs.map (·.2)) p.2
  | none => .no
section
variable {X : Cx} {E : XK} {o : Expr} {p pos apos mpos : Pos} {m : ME} {c : Bool}
theorem ne_listVals (hc : X.calm = true) (hm : X.mg "list" = none) (h : NE X E o m) (hg : Gl X "list" := by rfl) (hbase : attributeBase o "values" X.env (eval o X.env) = eval o X.env := by rfl) (hline : (apos.endLine == mpos.line) = true := by rfl)
    (hse : starEach [Expr.Call (.Attribute o "values" apos) [] [] mpos] X.env = [(false, eval (Expr.Call (.Attribute o "values" apos) [] [] mpos) X.env)] := by rfl) :
    NE X E (.Call (.Name "list" p) [.Call (.Attribute o "values" apos) [] [] mpos] [] pos) (mListVals c m) :=
  ⟨pe_imp (pe_listVals hc hg hm h.pe hbase hline hse) fun s H Q q => by
    obtain ⟨B, F, r, sl, C, hr, hs, o⟩ := q
    refine ⟨B, F, r, sl, C, hr, hs, Out.bind (P := Rep X.K) o fun x C1 F1 r1 H1 v e1 e2 hr1 hx o1 => ?_⟩
    simp only at o1
    split at o1
    · rename_i n kvs ed
      obtain ⟨a, ws, rfl, h1, h2, h3, h4, h5⟩ := dkAt_ok hr1 hx ed
      exact ⟨a, ws, rfl, h3, fun p hp => newL_ok hr1 h5 o1 hp⟩
    · exact False.elim o1⟩
end
section
variable {C : Store} {sl : Sl} {QD : D → Store → Prop} {m : ME} {c : Bool}
theorem w_listVals (h : W (m sl C) fun x C1 => ∃ i kvs, x = .cell i ∧ C1[i]? = some (.dk kvs) ∧ W (newL c (kvs.map (·.2)) C1) QD) : W (mListVals c m sl C) QD :=
  W.bind (h.imp fun x C1 h => by
    obtain ⟨i, kvs, rfl, h1, q⟩ := h
    simp only [dkAt_c h1]
    exact q)
end
/-! name *= , name //= -/
section
variable {X : Cx}
theorem iop_mulWA : OpR X (inplaceOp .Mult) (rI CMulW fun i j => .int (i * j)) := opI fun _ _ _ _ _ _ _ hc q => imul_int q hc.ok
theorem iop_mulA : OpR X (inplaceOp .Mult) rMul3 := iop_mul.or iop_mulWA
theorem ip_mulA : PIp X .Mult rMul3 := fun pins s σ H x y v u Q I r1 r2 h => iop_mulA pins s σ H x y v u Q I r1 r2 h
theorem iop_divWA : OpR X (inplaceOp .FloorDiv) (rI CDivW fun i j => .int (i / j)) := opI fun i j _ _ _ _ _ hc q => by
  have h1 : (0 : Int) < j := hc.1
  exact ifloordiv_int (by omega) (by rw [Int.fdiv_eq_ediv_of_nonneg i (by omega)]; exact q) (.inl (PyProof.noPylong_of_log2 hc.2))
theorem ip_divA : PIp X .FloorDiv (rI CDivW fun i j => .int (i / j)) := fun pins s σ H x y v u Q I r1 r2 h => iop_divWA pins s σ H x y v u Q I r1 r2 h
end
/-! name = {.. for ..} on one line, the name a local -/
section
variable {X : Cx} {E : XK} {kx vx tg it : Expr} {ifs : List Expr} {scope : Scope} {pos spos py : Pos} {y : Str}
theorem ps_setDc {i : Nat} {own : List (Str × Nat)} {wi : TI} {g : TG} {tt : TT} {tk tv : TE} (hc : X.calm = true) (hN : X.N.Nodup) (hy : X.N[i]? = some y) (hyl : X.env.scope.names.lookup y = some .local)
    (hsw : swapsWith (.DictComp kx vx [⟨tg, it, ifs, 0⟩] scope pos) (some (.Name y py)) spos.line X.env = pure true) (hi : PI X tg it wi) (ok : BlkOk X.N X.env.scope scope own)
    (hg : ∀ (s : Shared) (H : Hp) (C : Addr) (cl : List (Str × Addr)) (fp : List Addr), PG (X.blk s H scope (compEnvC scope cl C X.env) fp) tg g) (ht : ∀ (s : Shared) (H : Hp) (C : Addr) (cl : List (Str × Addr)) (fp : List Addr), PTs (X.blk s H scope (compEnvC scope cl C X.env) fp) ifs tt)
    (hk : ∀ (s : Shared) (H : Hp) (C : Addr) (cl : List (Str × Addr)) (fp : List Addr), PE (X.blk s H scope (compEnvC scope cl C X.env) fp) kx tk)
    (he : ∀ (s : Shared) (H : Hp) (C : Addr) (cl : List (Str × Addr)) (fp : List Addr), PE (X.blk s H scope (compEnvC scope cl C X.env) fp) vx tv) (hs : ∀ x, foldedSetIterable it X.env x = pure x := by intro _; rfl) :
    PS X (.Assign [.Name y py] (.DictComp kx vx [⟨tg, it, ifs, 0⟩] scope pos) spos) (tAsg (tDc wi g tt tk tv (own.map (·.2))) (gName i)) := by
  refine ⟨fun pins s σ H D I h => ?_⟩
  rw [exec_Assign_Name_used _ _ _ _ hsw]
  refine wpAny_bind (wpAny_standAt (wpAny_bind ?_))
  show wpAny _ X.A (do let _ ← comprehension (.DictComp kx vx [⟨tg, it, ifs, 0⟩] scope pos) scope X.env (firstIterPos [⟨tg, it, ifs, 0⟩] pos) newDict false (eval it X.env) (some (assign (.Name y py) X.env))) _ _ s
  have h : tDc wi g tt tk tv (own.map (·.2)) σ H (fun x H1 => gName i x σ H1 D.nx) := h
  refine wpAny_bind (thn (dc_core (Qf := fun _ s' => SP X pins D .next s') hc hN I hi ok hg ht hk he hs h fun L C s' m H' I' q hn f => ?_) fun _ s' hq => wpAny_pure (wpAny_pure hq))
  show wpAny _ _ (assign (.Name y py) X.env (.ref L)) _ _ _
  refine wpAny_assign_Name (store_ok2 (v := V.ref L) I' hN hy (.inl hyl) rfl (fun s2 I2 ⟨a, sb, ha⟩ => ?_) (.inr hyl))
  obtain ⟨f0, f1, f2, f3, f4, f5⟩ := f
  have haC : C ≠ a := by
    rcases ha with z | z
    · rw [z]; exact f1
    · exact fun e => f4 y a z e.symm
  refine ⟨m, hn.sameBut sb haC, fun h3 sb3 => ?_⟩
  exact ⟨_, H', I2.turned (t' := s2.toks) (fun b o hb e => (sb3.2 b hb).trans e) f0 f1 f3 f4 f5, q⟩
theorem sw_trueD {gs : List Comprehension} {l : Nat} {env : Env} (hk : env.scope.kind = .function) (hy : env.scope.names.lookup y = some .local) (hl : (py.line == pos.line) = true)
    (ha : (scope.names.any fun (n, k) => n == y && (k == .local || k == .cell)) = false) : swapsWith (.DictComp kx vx gs scope pos) (some (.Name y py)) l env = pure true := by
  have ky : env.kindOf y = some .local := hy
  have hb : env.blockKind = .function := by unfold Env.blockKind; rw [hk]; rfl
  unfold swapsWith
  simp only [hb, ky, ha, Expr.pos, hl]
  rfl
theorem ns_setDc (i : Nat) (own : List (Str × Nat)) {mi : MI} {g : MT} {t : MG Bool} {mk mv : ME} (hc : X.calm = true) (hN : X.N.Nodup) (hy : X.N[i]? = some y) (hyl : X.env.scope.names.lookup y = some .local)
    (hsw : swapsWith (.DictComp kx vx [⟨tg, it, ifs, 0⟩] scope pos) (some (.Name y py)) spos.line X.env = pure true) (hi : NI X E tg it mi) (ok : BlkOk X.N X.env.scope scope own)
    (hg : ∀ (s : Shared) (H : Hp) (C : Addr) (cl : List (Str × Addr)) (fp : List Addr), NG (X.blk s H scope (compEnvC scope cl C X.env) fp) EN (own.map (·.2)) tg g)
    (ht : ∀ (s : Shared) (H : Hp) (C : Addr) (cl : List (Str × Addr)) (fp : List Addr), NTs (X.blk s H scope (compEnvC scope cl C X.env) fp) ifs t)
    (hk : ∀ (s : Shared) (H : Hp) (C : Addr) (cl : List (Str × Addr)) (fp : List Addr), NE (X.blk s H scope (compEnvC scope cl C X.env) fp) EN kx mk)
    (hv : ∀ (s : Shared) (H : Hp) (C : Addr) (cl : List (Str × Addr)) (fp : List Addr), NE (X.blk s H scope (compEnvC scope cl C X.env) fp) EN vx mv)
    (hs : ∀ x, foldedSetIterable it X.env x = pure x := by intro _; rfl) : NS X E (.Assign [.Name y py] (.DictComp kx vx [⟨tg, it, ifs, 0⟩] scope pos) spos) (sAsg (mDc (own.map (·.2)) mi g t mk mv) (gmN i)) :=
  ⟨ps_imp (ps_setDc (own := own) hc hN hy hyl hsw hi.pi ok (fun s H C cl fp => (hg s H C cl fp).pg) (fun s H C cl fp => (ht s H C cl fp).pt) (fun s H C cl fp => (hk s H C cl fp).pe) (fun s H C cl fp => (hv s H C cl fp).pe) hs) fun De s H q => by
    obtain ⟨B, F, r, sl, C, hr, hs, o⟩ := q
    refine dc_ok s H _ ⟨B, F, r, sl, C, hr, hs, OutS.bind (P := Rep X.K) o fun x C1 F1 r1 H1 v e1 e2 hr1 hx o1 => ?_⟩
    exact OutS.next o1 hr1 ((hs.mono e1 e2).set hx i)⟩
end
end Nv

namespace Nv
open PySem PySem.Spec PyProof.Rows L2
/-! a dict locked while it is walked -/
section
variable {K : PySem.W.Frag} {B F H : Hp} {r : List Addr} {C : Store} {d : Addr} {o : Obj} {ws : List (Key × V)}
/-- d is no frozen object any more -/
def unF (F : Hp) (d : Addr) : Hp := fun a => if a = d then none else F a
theorem unF_ne {a : Addr} (h : a ≠ d) : unF F d a = F a := if_neg h
theorem unF_same : unF F d d = none := if_pos rfl
theorem lk_ne {a : Addr} {u : HO} (hd : F d = some (.frz o (.dK ws))) (ha : F a = some u) (hu : u ≠ .frz o (.dK ws)) : a ≠ d := fun e => by
  rw [e, hd] at ha
  exact hu (Option.some.inj ha).symm
theorem SqL.unF {a : Addr} {xs : List V} (hd : F d = some (.frz o (.dK ws))) (h : SqL K F a xs) : SqL K (Nv.unF F d) a xs := by
  rcases h with (h | ⟨o', h⟩) | h
  · refine .inl (.inl ?_)
    rw [unF_ne (lk_ne hd h fun e => nomatch e)]
    exact h
  · refine .inl (.inr ⟨o', ?_⟩)
    rw [unF_ne (lk_ne hd h fun e => by cases e)]
    exact h
  · exact .inr h
theorem SqT.unF {a : Addr} {xs : List V} (hd : F d = some (.frz o (.dK ws))) (h : SqT K F a xs) : SqT K (Nv.unF F d) a xs := by
  rcases h with (h | ⟨o', h⟩) | h
  · refine .inl (.inl ?_)
    rw [unF_ne (lk_ne hd h fun e => nomatch e)]
    exact h
  · refine .inl (.inr ⟨o', ?_⟩)
    rw [unF_ne (lk_ne hd h fun e => by cases e)]
    exact h
  · exact .inr h
theorem ExAt.unF {a C : Addr} {f : Str} {us : List V} (hd : F d = some (.frz o (.dK ws))) (h : ExAt F a C f us) : ExAt (Nv.unF F d) a C f us := by
  obtain ⟨dd, h1, h2⟩ := h
  refine ⟨dd, by rw [unF_ne (lk_ne hd h1 fun e => nomatch e)]; exact h1, ?_⟩
  rcases h2 with h2 | ⟨u, d2, h3, h4, h5⟩
  · exact .inl h2
  · exact .inr ⟨u, d2, h3, h4, by rw [unF_ne (lk_ne hd h5 fun e => nomatch e)]; exact h5⟩
mutual
theorem Rep.unF (hd : F d = some (.frz o (.dK ws))) : ∀ {x : D} {v : V}, Rep K F r x v → Rep K (Nv.unF F d) r x v
  | .non, _, h => h
  | .bl _, _, h => h
  | .int _, _, h => h
  | .str _, _, h => h
  | .lst ds, _, h => by
    obtain ⟨a, vs, e, s, q⟩ := h
    exact ⟨a, vs, e, SqL.unF hd s, Reps.unF hd q⟩
  | .tup ds, _, h => by
    obtain ⟨a, vs, e, s, q⟩ := h
    exact ⟨a, vs, e, SqT.unF hd s, Reps.unF hd q⟩
  | .cell i, _, h => h
  | .edct, _, h => by
    obtain ⟨a, e, q⟩ := h
    exact ⟨a, e, by rw [unF_ne (lk_ne hd q fun e => nomatch e)]; exact q⟩
  | .fn _, _, h => h
  | .exc c f ds, _, h => by
    obtain ⟨a, C, us, e, h1, h2, q⟩ := h
    exact ⟨a, C, us, e, h1, h2.unF hd, Reps.unF hd q⟩
theorem Reps.unF (hd : F d = some (.frz o (.dK ws))) : ∀ {ds : List D} {vs : List V}, Reps K F r ds vs → Reps K (Nv.unF F d) r ds vs
  | [], _, h => h
  | x :: ds, _, h => by
    obtain ⟨v, w, e, h1, h2⟩ := h
    exact ⟨v, w, e, Rep.unF hd h1, Reps.unF hd h2⟩
end
theorem CellOk.unF {a : Addr} {c : Cell} {u : HO} (hd : F d = some (.frz o (.dK ws))) (hn : a ≠ d) (h : CellOk K F r H a c) : CellOk K (Nv.unF F d) r (upd H d u) a c := by
  cases c with
  | lst ds =>
    obtain ⟨h1, vs, h2, h3⟩ := h
    exact ⟨by rw [unF_ne hn]; exact h1, vs, by rw [upd_ne hn]; exact h2, h3.unF hd⟩
  | dk kvs =>
    obtain ⟨h1, vs, h2, h3, h4⟩ := h
    exact ⟨by rw [unF_ne hn]; exact h1, vs, by rw [upd_ne hn]; exact h2, h3, h4.unF hd⟩
  | dt kvs =>
    obtain ⟨h1, vs, h2, h3, h4⟩ := h
    exact ⟨by rw [unF_ne hn]; exact h1, vs, by rw [upd_ne hn]; exact h2, h3, h4.unF hd⟩
  | fz ds =>
    obtain ⟨vs, h1, h2⟩ := h
    exact ⟨vs, by rw [unF_ne hn]; exact h1, h2.unF hd⟩
  | dn kvs =>
    obtain ⟨h1, xs, h2, h3, h4, h5⟩ := h
    exact ⟨by rw [unF_ne hn]; exact h1, xs, by rw [upd_ne hn]; exact h2, h3, h4.unF hd, fun x hx => let ⟨d', k1, k2, k3⟩ := h5 x hx; ⟨d', k1, k2, k3.unF hd⟩⟩
  | obj c fs =>
    obtain ⟨h1, C, dx, gs, h2, h3, h4, h5⟩ := h
    exact ⟨by rw [unF_ne hn]; exact h1, C, dx, gs, h2, by rw [upd_ne hn]; exact h3, h4, h5.unF hd⟩
  | lk kvs =>
    obtain ⟨o', vs, h1, h2, h3⟩ := h
    exact ⟨o', vs, by rw [unF_ne hn]; exact h1, h2, h3.unF hd⟩
theorem same_lock {F : Hp} {u : HO} (h : F d = none) : Same F (upd F d u) := fun a x e => by
  rw [upd_ne (ne_of_none e h)]
  exact e
/-- a dict is locked -/
theorem Rel.lock (h : Rel K B F r H C) {k : Nat} {kvs : List (Key × D)} (hk : C[k]? = some (.dk kvs)) (hr : r[k]? = some d) (hws : H d = some (.dK ws)) (e1 : kvs.map (·.1) = ws.map (·.1)) (e2 : Reps K F r (kvs.map (·.2)) (ws.map (·.2))) (hF : F d = none) :
    Rel K B (upd F d (.frz o (.dK ws))) r (upd H d (.frz o (.dK ws))) (C.set k (.lk kvs)) := by
  have hB := h.offB k d hr
  refine ⟨fun a x e => ?_, fun a x e => ?_, fun a x e => ?_, h.offB, by rw [List.length_set]; exact h.len, fun i c a q1 q2 => ?_, h.inj⟩
  · by_cases c : a = d
    · rw [c, upd_same] at e ⊢
      exact e
    · rw [upd_ne c] at e ⊢
      exact h.froz a x e
  · rw [upd_ne (ne_of_none e hB)]
    exact h.base a x e
  · rw [upd_ne (ne_of_none e hB)]
    exact h.apart a x e
  · by_cases ci : i = k
    · subst ci
      rw [hr] at q2
      cases q2
      rw [List.getElem?_set_self (List.getElem?_eq_some_iff.mp hk).1] at q1
      cases q1
      exact ⟨o, ws, upd_same, e1, e2.mono (same_lock hF) (.refl r)⟩
    · rw [List.getElem?_set_ne (Ne.symm ci)] at q1
      have hne : a ≠ d := fun e => ci (h.inj i k a q2 (e ▸ hr))
      have q := h.cells i c a q1 q2
      refine q.mono (.refl r) (same_lock hF) ?_ fun x e => by rw [upd_ne hne]; exact e
      rw [upd_ne hne]
      exact q.notF
/-- .. and let go -/
theorem Rel.unlock (h : Rel K B F r H C) {k : Nat} {kvs : List (Key × D)} (hk : C[k]? = some (.lk kvs)) (hr : r[k]? = some d) (hd : F d = some (.frz o (.dK ws))) : Rel K B (Nv.unF F d) r (upd H d (.dK ws)) (C.set k (.dk kvs)) := by
  have hB := h.offB k d hr
  refine ⟨fun a x e => ?_, fun a x e => ?_, fun a x e => ?_, h.offB, by rw [List.length_set]; exact h.len, fun i c a q1 q2 => ?_, h.inj⟩
  · by_cases c : a = d
    · rw [c, unF_same] at e
      cases e
    · rw [unF_ne c] at e
      rw [upd_ne c]
      exact h.froz a x e
  · rw [upd_ne (ne_of_none e hB)]
    exact h.base a x e
  · rw [unF_ne (ne_of_none e hB)]
    exact h.apart a x e
  · by_cases ci : i = k
    · subst ci
      rw [hr] at q2
      cases q2
      rw [List.getElem?_set_self (List.getElem?_eq_some_iff.mp hk).1] at q1
      cases q1
      obtain ⟨o', vs, g1, g2, g3⟩ := h.cells i _ _ hk hr
      rw [hd] at g1
      cases g1
      exact ⟨unF_same, ws, upd_same, g2, g3.unF hd⟩
    · rw [List.getElem?_set_ne (Ne.symm ci)] at q1
      have hne : a ≠ d := fun e => ci (h.inj i k a q2 (e ▸ hr))
      exact (h.cells i c a q1 q2).unF hd hne
end
section
variable {X : Cx} {E : XK} {e tg : Expr} {m : ME}
/-- a statement, while the dict of slot v is locked -/
def sLkS (v : Nat) (u : MS) : MS := fun sl C => match sl[v]? with
  | some (some (.cell k)) => match C[k]? with
    | some (.dk kvs) => match u sl (C.set k (.lk kvs)) with
      | .ok p => match p.2[k]? with
        | some (.lk kvs') => .ok (p.1, p.2.set k (.dk kvs'))
        | _ => .no
      | _ => .no
    | _ => .no
  | _ => .no
theorem Sls.unF {K : PySem.W.Frag} {F : Hp} {r : List Addr} {d : Addr} {o : Obj} {ws : List (Key × V)} {sl : Sl} {s : L2.St} (hd : F d = some (.frz o (.dK ws))) (h : Sls K F r sl s) : Sls K (Nv.unF F d) r sl s :=
  ⟨h.1, fun i x e => let ⟨v, q1, q2⟩ := h.2 i x e; ⟨v, q1, q2.unF hd⟩⟩
theorem ns_lkS {st : Stmt} {u : MS} (v : Nat) (h : NS X E st u) : NS X E st (sLkS v u) := ⟨ps_imp (ps_lock h.ps) fun De s H q => by
  obtain ⟨B, F, r, sl, C, hr, hs, o⟩ := q
  unfold sLkS at o
  split at o
  · rename_i k ek
    split at o
    · rename_i kvs ekv
      obtain ⟨w, hw, hrep⟩ := hs.2 v _ ek
      obtain ⟨d, hd1, hd2⟩ := hrep
      obtain ⟨hF, ws, hH, e1, e2⟩ := hr.cells k _ d ekv hd2
      refine ⟨d, .dK ws, hH, True.intro, fun od => ?_⟩
      have hr1 := hr.lock (o := od) ekv hd2 hH e1 e2 hF
      refine ⟨B, _, r, sl, _, hr1, hs.mono (same_lock hF) (.refl r), ?_⟩
      cases hm : u sl (C.set k (.lk kvs)) with
      | ok p =>
        rw [hm] at o
        simp only at o
        split at o
        · rename_i kvs' ek2
          intro F2 r2 H2 q1 q2 hr2
          have hfd : F2 d = some (.frz od (.dK ws)) := q1 _ _ upd_same
          have hrd := q2 _ _ hd2
          have hf : H2 d = some (.frz od (.dK ws)) := hr2.froz _ _ hfd
          have o' := o (Nv.unF F2 d) r2 _ (fun a x ea => by
            have hne : a ≠ d := ne_of_none ea hF
            rw [unF_ne hne]
            refine q1 _ _ ?_
            rw [upd_ne hne]
            exact ea) q2 (hr2.unlock ek2 hrd hfd)
          obtain ⟨⟨f, sl2⟩, C2⟩ := p
          cases f with
          | nx => exact fun s2 hs2 => ⟨hf, o' s2 (hs2.unF hfd)⟩
          | bk => exact fun s2 hs2 => ⟨hf, o' s2 (hs2.unF hfd)⟩
          | ct => exact fun s2 hs2 => ⟨hf, o' s2 (hs2.unF hfd)⟩
          | rt x => exact fun v2 hv2 => ⟨hf, o' v2 (hv2.unF hfd)⟩
        · exact False.elim o
      | ex x C2 =>
        rw [hm] at o
        exact False.elim o
      | no =>
        rw [hm] at o
        exact False.elim o
    · exact False.elim o
  · exact False.elim o⟩
def keysLk (C : Store) : D → Option (List D)
  | .cell k => match C[k]? with
    | some (.lk kvs) => some (kvs.map fun kv => keyD kv.1)
    | _ => none
  | _ => none
/-- the keys of a locked dict -/
def iKey (m : ME) : MI := fun sl C => (m sl C).bind fun p => match keysLk p.2 p.1 with
  | some ds => .ok ((ds, []), p.2)
  | none => .no
theorem ni_keys (he : NE X E e m) : NI X E tg e (iKey m) := ⟨pi_imp (pi_keys he.pe) fun s H Q q => by
    obtain ⟨B, F, r, sl, C, hr, hs, o⟩ := q
    refine ⟨B, F, r, sl, C, hr, hs, Out.bind (P := Rep X.K) o fun x C1 F1 r1 H1 v e1 e2 hr1 hx o1 => ?_⟩
    simp only at o1
    split at o1
    · rename_i ds ek
      cases x with
      | cell k =>
        obtain ⟨a, rfl, ha⟩ := hx
        have ek : (match C1[k]? with
          | some (.lk kvs) => some (kvs.map fun kv => keyD kv.1)
          | _ => none) = some ds := ek
        split at ek
        · rename_i kvs ec
          cases ek
          obtain ⟨od, ws, g1, g2, g3⟩ := hr1.cells k _ a ec ha
          have hlen := congrArg List.length g2
          rw [List.length_map, List.length_map] at hlen
          refine ⟨a, od, rfl, .inl ⟨ws, hr1.froz _ _ g1, o1 F1 r1 H1 _ (.refl _) (.refl _) hr1 fun B' => ?_⟩⟩
          refine ⟨fun i F2 r2 H2 C2 hi k1 k2 hr2 _ => ?_, fun F2 r2 H2 C2 k1 k2 hr2 _ => ?_, fun i d F2 r2 H2 C2 x H3 ed k1 k2 hr2 _ y => ?_⟩
          · refine ⟨hr2.froz _ _ (k1 _ _ g1), ?_⟩
            have hi : i < (kvs.map fun kv => keyD kv.1).length := hi
            rw [List.length_map] at hi
            omega
          · refine ⟨hr2.froz _ _ (k1 _ _ g1), ?_⟩
            show ws.length ≤ (kvs.map fun kv => keyD kv.1).length
            rw [List.length_map]
            omega
          · obtain ⟨rfl, kk, vv, e3, rfl⟩ := y
            refine ⟨F2, .refl _, hr2, ?_⟩
            have ed : (kvs.map fun kv => keyD kv.1)[i]? = some d := ed
            rw [List.getElem?_map, Option.map_eq_some_iff] at ed
            obtain ⟨kv, e4, rfl⟩ := ed
            have e5 : (kvs.map (·.1))[i]? = some kv.1 := by rw [List.getElem?_map, e4]; rfl
            rw [g2, List.getElem?_map, e3] at e5
            have e6 : kk = kv.1 := Option.some.inj e5
            subst e6
            cases kv.1 with
            | inl i => exact rfl
            | inr s => exact rfl
        · cases ek
      | _ => cases ek
    · exact False.elim o1⟩
end
section
variable {sl : Sl} {C : Store} {QD : D → Store → Prop} {m : ME}
theorem w_lkS {QS : Fl → Sl → Store → Prop} {u : MS} {v k : Nat} {kvs : List (Key × D)} (hv : sl[v]? = some (some (.cell k))) (hk : C[k]? = some (.dk kvs)) (h : WS (u sl (C.set k (.lk kvs))) fun f sl1 C1 => ∃ kvs', C1[k]? = some (.lk kvs') ∧ QS f sl1 (C1.set k (.dk kvs'))) : WS (sLkS v u sl C) QS := by
  obtain ⟨f, sl1, C1, e, kvs', h1, q⟩ := h
  unfold sLkS
  simp only [hv, hk, e, h1]
  exact WS.ok q
theorem w_iKey {Q : Wk → Store → Prop} (h : W (m sl C) fun x C1 => ∃ k kvs, x = .cell k ∧ C1[k]? = some (.lk kvs) ∧ Q (kvs.map (fun kv => keyD kv.1), []) C1) : W (iKey m sl C) Q := W.bind (h.imp fun x C1 h => by
  obtain ⟨k, kvs, rfl, h1, q⟩ := h
  have : keysLk C1 (.cell k) = some (kvs.map fun kv => keyD kv.1) := by
    unfold keysLk
    simp only [h1]
  simp only [this]
  exact W.ok q)
end

/-! d != {} -/
def rNeDE : R2 := fun x y H Q => ∃ a b kvs, x = .ref a ∧ y = .ref b ∧ H a = some (.dK kvs) ∧ H b = some (.dK []) ∧ Q (.bl (!kvs.isEmpty)) H
theorem op_neDE {X : Cx} (hu : X.A.units + 64 < cLine) : OpR X (compareOp .NotEq) rNeDE := by
  intro pins s σ H x y v u Q I rx ry h
  obtain ⟨a, b, kvs, rfl, rfl, ha, hb, q⟩ := h
  cases rx
  cases ry
  obtain ⟨z1, hd1, vs1, rel1, dd1⟩ := dk_of I.hok ha
  obtain ⟨z2, hd2, vs2, rel2, dd2⟩ := dk_of I.hok hb
  have h2 : vs2 = [] := List.length_eq_zero_iff.mp rel2.length.symm
  subst h2
  refine PySem.W.keq_ne (r := true) hd1 hd2 dd1 dd2 (by omega) (fun hl => ?_) (fin_bl I q ?_)
  · have h1 : vs1 = [] := List.length_eq_zero_iff.mp hl
    subst h1
    exact .nil
  · have := rel1.length
    cases kvs with
    | nil =>
      have h1 : vs1 = [] := List.length_eq_zero_iff.mp this.symm
      subst h1
      rfl
    | cons p r =>
      cases vs1 with
      | nil => cases this
      | cons p' r' => rfl
def gNeDE (x y : D) (C : Store) : RE := match dkAt C x, y with
  | some (_, kvs), .edct => .ok (.bl (!kvs.isEmpty), C)
  | _, _ => .no
theorem neDEN {K : PySem.W.Frag} {mg : Str → Option Value} {E : XK} : OpN K mg E rNeDE gNeDE := by
  intro B F r H C x y v u Q hr hx hy o
  unfold gNeDE at o
  split at o
  · rename_i n kvs e
    obtain ⟨a, ws, rfl, h1, h2, h3, h4, h5⟩ := dkAt_ok hr hx e
    obtain ⟨b, rfl, hb⟩ := hy
    refine ⟨a, b, ws, rfl, rfl, h3, hr.froz _ _ hb, ?_⟩
    have he : kvs.isEmpty = ws.isEmpty := by
      have := congrArg List.isEmpty h4
      simpa using this
    rw [← he]
    exact out_ok (d := .bl (!kvs.isEmpty)) hr rfl o
  · exact False.elim o
theorem w_neDE {i : Nat} {kvs : List (Key × D)} {C : Store} {QD : D → Store → Prop} (h : C[i]? = some (.dk kvs)) (q : QD (.bl (!kvs.isEmpty)) C) : W (gNeDE (.cell i) .edct C) QD := by
  unfold gNeDE
  simp only [dkAt_c h]
  exact W.ok q
/-! y in d, not in d; y may be None -/
section
variable {X : Cx} {E : XK} {o i : Expr} {mo mi : ME} {pos : Pos}
def mDInQ (neg : Bool) (mi mo : ME) : ME := fun sl C => (mi sl C).bind fun q => (mo sl q.2).bind fun p => match dkAt p.2 p.1 with
  | some (_, kvs) => match keyOf q.1 with
    | some k => .ok (.bl (if neg then !(valD kvs k).isSome else (valD kvs k).isSome), p.2)
    | none => match q.1 with
      | .non => .ok (.bl neg, p.2)
      | _ => .no
  | none => .no
theorem dinQ_ok {neg : Bool} {s : L2.St} {H : Hp} {Q : VK} (q : LG (Rep X.K) X.K X.mg E (mDInQ neg mi mo) s H Q) : LG (Rep X.K) X.K X.mg E mi s H fun y H1 => LG (Rep X.K) X.K X.mg E mo s H1 fun x H2 =>
    (∃ a o, x = .ref a ∧ DGet H2 a y o ∧ Q (.bl (if neg then !o.isSome else o.isSome)) H2) ∨ ∃ a kvs, x = .ref a ∧ y = .non ∧ Rd H2 a (.dK kvs) ∧ Q (.bl neg) H2 := by
  obtain ⟨B, F, r, sl, C, hr, hs, o⟩ := q
  refine ⟨B, F, r, sl, C, hr, hs, Out.bind (P := Rep X.K) o fun x C1 F1 r1 H1 v e1 e2 hr1 hx o1 => ?_⟩
  refine ⟨B, F1, r1, sl, C1, hr1, hs.mono e1 e2, Out.bind (P := Rep X.K) o1 fun y C2 F2 r2 H2 u e3 e4 hr2 hy o2 => ?_⟩
  have hx2 := hx.mono e3 e4
  simp only at o2
  split at o2
  · rename_i n kvs ed
    obtain ⟨a, ws, rfl, h1, h2, h3, h4, h5⟩ := dkAt_ok hr2 hy ed
    split at o2
    · rename_i k ek
      refine .inl ⟨a, valV ws k, rfl, ?_, ?_⟩
      · rw [keyOf_ok hx2 ek]
        exact DGet.k h3
      · rw [← val_none h4]
        exact out_ok (d := .bl (if neg then !(valD kvs k).isSome else (valD kvs k).isSome)) hr2 rfl o2
    · split at o2
      · exact .inr ⟨a, ws, rfl, hx2, .of h3, out_ok (d := .bl neg) hr2 rfl o2⟩
      · exact False.elim o2
  · exact False.elim o2
theorem nt_dninQ (hu : X.A.units + 64 < cLine) (hi : NE X E i mi) (ho : NE X E o mo) (hk : behindInMarks .NotIn o = false := by rfl) : NT X E (.Compare i [.NotIn] [o] pos) (mT (mDInQ true mi mo)) :=
  ⟨pt_imp (pt_cmp (pc_dnotinN (show X.A.units + 1 < cLine by omega) hi.pe ho.pe) hk) (test fun _ _ _ q => dinQ_ok (neg := true) q)⟩
end
section
variable {sl : Sl} {C : Store} {QD : D → Store → Prop} {mo mi : ME}
theorem w_dinQ {neg : Bool} (h : W (mi sl C) fun y C1 => W (mo sl C1) fun x C2 => ∃ i kvs, x = .cell i ∧ C2[i]? = some (.dk kvs) ∧ ((∃ k, keyOf y = some k ∧ QD (.bl (if neg then !(valD kvs k).isSome else (valD kvs k).isSome)) C2) ∨ (y = .non ∧ QD (.bl neg) C2))) : W (mDInQ neg mi mo sl C) QD :=
  W.bind (h.imp fun y C1 h => W.bind (h.imp fun x C2 h => by
    obtain ⟨i, kvs, rfl, h1, h⟩ := h
    rcases h with ⟨k, h2, q⟩ | ⟨rfl, q⟩
    · simp only [dkAt_c h1, h2]
      exact W.ok q
    · simp only [dkAt_c h1, show keyOf D.non = none from rfl]
      exact W.ok q))
end
/-! d.pop(k) -/
section
variable {κ : Type} [DecidableEq κ]
def dropD (kvs : List (κ × D)) (k : κ) : List (κ × D) := kvs.filter fun kv => decide (kv.1 ≠ k)
theorem dropD_ok {K : PySem.W.Frag} {F : Hp} {r : List Addr} {k : κ} : ∀ {kvs : List (κ × D)} {ws : List (κ × V)}, kvs.map (·.1) = ws.map (·.1) → Reps K F r (kvs.map (·.2)) (ws.map (·.2)) →
    (dropD kvs k).map (·.1) = (dropK ws k).map (·.1) ∧ Reps K F r ((dropD kvs k).map (·.2)) ((dropK ws k).map (·.2))
  | [], [], _, _ => ⟨rfl, .nil⟩
  | [], _ :: _, h, _ => nomatch h
  | _ :: _, [], h, _ => nomatch h
  | kv :: kvs, w :: ws, h, hr => by
    rw [List.map_cons, List.map_cons, List.cons.injEq] at h
    obtain ⟨v, vs, e1, h1, h2⟩ := hr
    rw [List.map_cons, List.cons.injEq] at e1
    obtain ⟨rfl, rfl⟩ := e1
    obtain ⟨g1, g2⟩ := dropD_ok (k := k) h.2 h2
    unfold dropD dropK at g1 g2 ⊢
    by_cases c : kv.1 = k
    · rw [List.filter_cons_of_neg (by simpa using c), List.filter_cons_of_neg (by rw [← h.1]; simpa using c)]
      exact ⟨g1, g2⟩
    · rw [List.filter_cons_of_pos (by simpa using c), List.filter_cons_of_pos (by rw [← h.1]; simpa using c)]
      refine ⟨?_, ?_⟩
      · rw [List.map_cons, List.map_cons, h.1, g1]
      · rw [List.map_cons, List.map_cons]
        exact .cons h1 g2
end
section
variable {X : Cx} {E : XK} {o i : Expr} {mo mi : ME} {pos : Pos}
def mDPop1 (mo mi : ME) : ME := fun sl C => (mo sl C).bind fun p => match dkAt p.2 p.1 with
  | some _ => (mi sl p.2).bind fun q => match dkAt q.2 p.1, keyOf q.1 with
    | some (n, kvs), some k => match valD kvs k with
      | some d => .ok (d, q.2.set n (.dk (dropD kvs k)))
      | none => .no
    | _, _ => .no
  | none => .no
theorem ne_dpop1 {apos : Pos} (ho : NE X E o mo) (hi : NE X E i mi) (m : M1 X o "pop" apos i pos := by exact ⟨rfl, rfl, rfl, rfl⟩) : NE X E (.Call (.Attribute o "pop" apos) [i] [] pos) (mDPop1 mo mi) :=
  ⟨pe_imp (pe_dpop1 ho.pe hi.pe m) fun s H Q q => by
    obtain ⟨B, F, r, sl, C, hr, hs, o⟩ := q
    refine ⟨B, F, r, sl, C, hr, hs, Out.bind (P := Rep X.K) o fun x C1 F1 r1 H1 v e1 e2 hr1 hx o1 => ?_⟩
    simp only at o1
    split at o1
    case h_2 => exact False.elim o1
    rename_i p0 ed0
    obtain ⟨n0, kvs0⟩ := p0
    obtain ⟨a, ws0, rfl, _, _, h30, _, _⟩ := dkAt_ok hr1 hx ed0
    refine ⟨a, rfl, .inl ⟨_, .inl h30⟩, B, F1, r1, sl, C1, hr1, hs.mono e1 e2, Out.bind (P := Rep X.K) o1 fun y C2 F2 r2 H2 u e3 e4 hr2 hy o2 => ?_⟩
    have hx2 := hx.mono e3 e4
    simp only at o2
    split at o2
    · rename_i n kvs k ed ek
      split at o2
      · rename_i d ev
        obtain ⟨a2, ws, ea, h1, h2, h3, h4, h5⟩ := dkAt_ok hr2 hx2 ed
        cases ea
        obtain ⟨w, g1, g2⟩ := val_ok h4 h5 ev
        refine ⟨ws, k, w, h3, keyOf_ok hy ek, g1, ?_⟩
        obtain ⟨k1, k2⟩ := dropD_ok (k := k) h4 h5
        exact o2 F2 r2 _ w (.refl _) (.refl _) (hr2.write (o := .dK (dropK ws k)) h1 h2 ⟨h2, _, upd_same, k1, k2⟩) g2
      · exact False.elim o2
    · exact False.elim o2⟩
end
section
variable {sl : Sl} {C : Store} {QD : D → Store → Prop} {mo mi : ME}
theorem w_dpop1 (h : W (mo sl C) fun x C1 => ∃ i kvs0, x = .cell i ∧ C1[i]? = some (.dk kvs0) ∧ W (mi sl C1) fun y C2 => ∃ kvs k d, C2[i]? = some (.dk kvs) ∧ keyOf y = some k ∧ valD kvs k = some d ∧ QD d (C2.set i (.dk (dropD kvs k)))) : W (mDPop1 mo mi sl C) QD :=
  W.bind (h.imp fun x C1 h => by
    obtain ⟨i, kvs0, rfl, h0, h⟩ := h
    simp only [dkAt_c h0]
    exact W.bind (h.imp fun y C2 h => by
      obtain ⟨kvs, k, d, h1, h2, h3, q⟩ := h
      simp only [dkAt_c h1, h2, h3]
      exact W.ok q))
end
end Nv

namespace Nv
open PySem PySem.Spec PyProof.Rows L2
/-! classes of the program's own -/
def ClsAt (K : PySem.W.Frag) (x : Str) : Prop := ∀ C : Addr, PySem.W.nsIn K mainGlobals x = some (some (.ref C)) → Cls K C
def NoAt (K : PySem.W.Frag) (x f : Str) : Prop := ∀ C : Addr, PySem.W.nsIn K mainGlobals x = some (some (.ref C)) → NoAttr K C f
def objAt (C : Store) (x : Str) : D → Option (Nat × List (Str × D))
  | .cell i => match C[i]? with
    | some (.obj c fs) => if c = x then some (i, fs) else none
    | _ => none
  | _ => none
section
variable {K : PySem.W.Frag} {B F H : Hp} {r : List Addr} {C : Store}
theorem objAt_ok {d : D} {v : V} {x : Str} {i : Nat} {fs : List (Str × D)} (hr : Rel K B F r H C) (hx : Rep K F r d v) (e : objAt C x d = some (i, fs)) :
    ∃ (a Ca dx : Addr) (gs : List (Str × V)), v = .ref a ∧ d = .cell i ∧ r[i]? = some a ∧ F a = none ∧ PySem.W.nsIn K mainGlobals x = some (some (.ref Ca)) ∧ H a = some (.ins Ca dx gs) ∧ fs.map (·.1) = gs.map (·.1) ∧ Reps K F r (fs.map (·.2)) (gs.map (·.2)) := by
  unfold objAt at e
  split at e
  · split at e
    · rename_i c fs' ec
      split at e
      · rename_i hc
        subst hc
        cases e
        obtain ⟨a, rfl, ha⟩ := hx
        obtain ⟨h1, Ca, dx, gs, h2, h3, h4, h5⟩ := hr.cells _ _ a ec ha
        exact ⟨a, Ca, dx, gs, rfl, rfl, ha, h1, h2, h3, h4, h5⟩
      · cases e
    · cases e
  · cases e
theorem fld_ok {f : Str} : ∀ {fs : List (Str × D)} {gs : List (Str × V)}, fs.map (·.1) = gs.map (·.1) → Reps K F r (fs.map (·.2)) (gs.map (·.2)) →
    (∀ d, fs.lookup f = some d → ∃ v, gs.lookup f = some v ∧ Rep K F r d v) ∧ (fs.lookup f = none → gs.lookup f = none)
  | [], [], _, _ => ⟨(fun d e => by cases e), fun _ => rfl⟩
  | [], _ :: _, h, _ => nomatch h
  | _ :: _, [], h, _ => nomatch h
  | (k, d) :: fs, (k', v) :: gs, h, hr => by
    rw [List.map_cons, List.map_cons, List.cons.injEq] at h
    obtain ⟨v1, vs1, e1, h1, h2⟩ := (show Reps K F r (d :: fs.map (·.2)) (v :: gs.map (·.2)) from hr)
    rw [List.cons.injEq] at e1
    obtain ⟨e1, e2⟩ := e1
    subst e1 e2
    obtain ⟨g1, g2⟩ := fld_ok (f := f) h.2 h2
    have hk : k = k' := h.1
    subst hk
    rw [List.lookup_cons, List.lookup_cons]
    cases e : (f == k) with
    | true => exact ⟨fun d' q => ⟨v, rfl, by cases q; exact h1⟩, fun q => by cases q⟩
    | false => exact ⟨g1, g2⟩
/-- the fields with another value at a name -/
def putFD (f : Str) (d : D) : List (Str × D) → List (Str × D)
  | [] => [(f, d)]
  | (g, x) :: r => if g = f then (g, d) :: r else (g, x) :: putFD f d r
theorem putF_ok {f : Str} {d : D} {v : V} (hd : Rep K F r d v) : ∀ {fs : List (Str × D)} {gs : List (Str × V)}, fs.map (·.1) = gs.map (·.1) → Reps K F r (fs.map (·.2)) (gs.map (·.2)) →
    (putFD f d fs).map (·.1) = (putF f v gs).map (·.1) ∧ Reps K F r ((putFD f d fs).map (·.2)) ((putF f v gs).map (·.2))
  | [], [], _, _ => ⟨rfl, v, [], rfl, hd, rfl⟩
  | [], _ :: _, h, _ => nomatch h
  | _ :: _, [], h, _ => nomatch h
  | (k, x) :: fs, (k', y) :: gs, h, hr => by
    rw [List.map_cons, List.map_cons, List.cons.injEq] at h
    obtain ⟨v1, vs1, e1, h1, h2⟩ := (show Reps K F r (x :: fs.map (·.2)) (y :: gs.map (·.2)) from hr)
    rw [List.cons.injEq] at e1
    obtain ⟨e1, e2⟩ := e1
    subst e1 e2
    obtain ⟨g1, g2⟩ := putF_ok hd (f := f) h.2 h2
    have hk : k = k' := h.1
    subst hk
    unfold putFD putF
    by_cases e : k = f
    · rw [if_pos e, if_pos e]
      exact ⟨by rw [List.map_cons, List.map_cons, h.2], v, _, rfl, hd, h2⟩
    · rw [if_neg e, if_neg e]
      exact ⟨by rw [List.map_cons, List.map_cons, g1], y, _, rfl, h1, g2⟩
end
/-- e.f -/
def gFld (x f : Str) (d : D) (C : Store) : RE := match objAt C x d with
  | some (_, fs) => match fs.lookup f with
    | some d => .ok (d, C)
    | none => .no
  | none => .no
/-- e.f = v -/
def sFld (x f : Str) (mo mv : ME) : MS := fun sl C => (mv sl C).bind fun t => (mo sl t.2).bind fun p => match objAt p.2 x p.1 with
  | some (i, fs) => if fs.length < 1000 then .ok ((.nx, sl), p.2.set i (.obj x (putFD f t.1 fs))) else .no
  | none => .no
section
variable {X : Cx} {E : XK} {o value e : Expr} {es : List Expr} {mo mv : ME} {mas : MG (List D)} {x f m : Str} {pos pos' apos p1 : Pos}
theorem ne_fld (hc : ClsAt X.K x) (hn : NoAt X.K x f) (ho : NE X E o mo) (hb : attributeBase o f X.env (eval o X.env) = eval o X.env := by rfl) : NE X E (.Attribute o f pos) (m1 (gFld x f) mo) :=
  ⟨pe_imp (pe_fld ho.pe hb) fun s H Q q => by
    obtain ⟨B, F, r, sl, C, hr, hs, o⟩ := q
    refine ⟨B, F, r, sl, C, hr, hs, Out.bind (P := Rep X.K) o fun d C1 F1 r1 H1 v e1 e2 hr1 hx o1 => ?_⟩
    simp only [gFld] at o1
    split at o1
    · rename_i i fs eo
      split at o1
      · rename_i d' ed
        obtain ⟨a, Ca, dx, gs, rfl, _, h1, h2, h3, h4, h5, h6⟩ := objAt_ok hr1 hx eo
        obtain ⟨v', g1, g2⟩ := (fld_ok (f := f) h5 h6).1 d' ed
        exact ⟨a, Ca, dx, gs, v', rfl, h4, hc Ca h3, hn Ca h3, g1, out_ok hr1 g2 o1⟩
      · exact False.elim o1
    · exact False.elim o1⟩
theorem ns_fld (hc : ClsAt X.K x) (hn : NoAt X.K x f) (ho : NE X E o mo) (hv : NE X E value mv) (hs : swapsWith value (some (.Attribute o f pos')) pos.line X.env = pure false := by rfl) : NS X E (.Assign [.Attribute o f pos'] value pos) (sFld x f mo mv) :=
  ⟨ps_imp (ps_fld ho.pe hv.pe hs) fun De s H q => by
    obtain ⟨B, F, r, sl, C, hr, hs, o⟩ := q
    refine ⟨B, F, r, sl, C, hr, hs, OutS.bind (P := Rep X.K) o fun d C0 F0 r0 H0 z k1 k2 hr0 hd o0 => ?_⟩
    refine ⟨B, F0, r0, sl, C0, hr0, hs.mono k1 k2, OutS.bind (P := Rep X.K) o0 fun d2 C1 F1 r1 H1 v e1 e2 hr1 hx o1 => ?_⟩
    have hd2 := hd.mono e1 e2
    simp only at o1
    split at o1
    · rename_i i fs eo
      split at o1
      · rename_i hl
        obtain ⟨a, Ca, dx, gs, rfl, _, h1, h2, h3, h4, h5, h6⟩ := objAt_ok hr1 hx eo
        obtain ⟨g1, g2⟩ := putF_ok (f := f) hd2 h5 h6
        have hlen := congrArg List.length h5
        rw [List.length_map, List.length_map] at hlen
        refine ⟨a, Ca, dx, gs, rfl, h4, hc Ca h3, hn Ca h3, by omega, ?_⟩
        exact OutS.next o1 (hr1.write (o := .ins Ca dx (putF f z gs)) h1 h2 ⟨h2, Ca, dx, _, h3, upd_same, g1, g2⟩) ((hs.mono k1 k2).mono e1 e2)
      · exact False.elim o1
    · exact False.elim o1⟩
end
/-! methods -/
/-- a method of a class, called with the instance -/
def CalM (P : Program) (w : World) (K : PySem.W.Frag) (mg : Str → Option Value) (base : Heap) (cl m : Str) (k n : Nat) (mf : MF) : Prop :=
  ∃ (C f : Addr) (fd : FuncData) (ps : List Str), (∀ C2 : Addr, PySem.W.nsIn K mainGlobals cl = some (some (.ref C2)) → C2 = C) ∧ Cls K C ∧ Meth K C m f ∧ FnG P w K mg base k f fd ps (spN K mg n mf) ∧ L2.Binds K fd ps []
def DefAtM (K : PySem.W.Frag) (cl m qual : Str) (st : Stmt) (ps : List Str) : Prop :=
  ∃ (C f : Addr) (fd : FuncData), (∀ C2 : Addr, PySem.W.nsIn K mainGlobals cl = some (some (.ref C2)) → C2 = C) ∧ Cls K C ∧ Meth K C m f ∧ Fun K m qual st f fd ∧ L2.Binds K fd ps []
section
variable {P : Program} {w : World} {K : PySem.W.Frag} {mg : Str → Option Value} {base : Heap}
theorem CalM.mono {cl m : Str} {j k n : Nat} {mf : MF} (h : CalM P w K mg base cl m j n mf) (hjk : j ≤ k) : CalM P w K mg base cl m k n mf := by
  obtain ⟨C, f, fd, ps, h0, h1, h2, h3, h4⟩ := h
  exact ⟨C, f, fd, ps, h0, h1, h2, h3.mono hjk, h4⟩
theorem CalM.of {cl m qual : Str} {st : Stmt} {N ps : List Str} {k : Nat} {u : MS} (h : DefAtM K cl m qual st ps) (S : FnScope N ps (defScope st))
    (hb : ∀ (f : Addr) (cdv : Value) (A : Around) (outer : List Env) (s : Shared) (H : Hp) (E : XK), Room k (A.deeper (envOfC qual (defScope st) s.heap.objs.size f cdv)) → A.guards = some [] →
      NSs (cxOf (L2.CX P w) P w K mg base N qual (defScope st) f cdv A outer s H E) E (defBody st) u) : CalM P w K mg base cl m (k + 1) ps.length (runD N.length u) := by
  obtain ⟨C, f, fd, h0, h1, h2, h3, h4⟩ := h
  exact ⟨C, f, fd, ps, h0, h1, h2, okD h3 S fun cdv A outer s H E hr hg => hb f cdv A outer s H E hr hg, h4⟩
theorem CalM.ofK {cl m qual : Str} {st : Stmt} {N ps : List Str} {k : Nat} {u : MS} (h : DefAtM K cl m qual st ps) (S : FnScope N ps (defScope st))
    (hb : ∀ (f : Addr) (cdv : Value) (A : Around) (outer : List Env) (s : Shared) (H : Hp) (E : XK), Room k (A.deeper (envOfC qual (defScope st) s.heap.objs.size f cdv)) → A.guards = some [] →
      NSs (cxOf (L2.CX P w) P w K mg base N qual (defScope st) f cdv A outer s H E) E (defBody st) u) : CalM P w K mg base cl m (k + 1) ps.length (runK N.length u) := by
  obtain ⟨C, f, fd, h0, h1, h2, h3, h4⟩ := h
  exact ⟨C, f, fd, ps, h0, h1, h2, okDK h3 S fun cdv A outer s H E hr hg => hb f cdv A outer s H E hr hg, h4⟩
end
/-- o.m(..) -/
def mM (x m : Str) (n : Nat) (mf : MF) (mo : ME) (mas : MG (List D)) : ME := fun sl C => (mo sl C).bind fun p => match objAt p.2 x p.1 with
  | some (_, fs) => if fs.lookup m = none then (mas sl p.2).bind fun q => if q.1.length + 1 = n then mf (p.1 :: q.1) q.2 else .no else .no
  | none => .no
def tMethG (C : Addr) (m : Str) (sp : Sp) (E : XK) (ta : TE) (t : TA) : TE := fun σ H Q => ta σ H fun x H1 => ∃ a dx fs, x = .ref a ∧ H1 a = some (.ins C dx fs) ∧ fs.lookup m = none ∧
  t σ H1 fun vs H2 => sp (x :: vs) H2 Q E
section
variable {X : Cx} {E : XK} {k : Nat} {f C : Addr} {fd : FuncData} {ps : List Str} {sp : Sp} {o e : Expr} {es : List Expr} {x m : Str} {pos apos p1 : Pos} {ta : TE} {t : TA} {mo : ME} {mas : MG (List D)} {n : Nat} {mf : MF}
theorem pe_methG {pl : Sem Bool} (he : PE X o ta) (c : Cls X.K C) (hm : Meth X.K C m f) (F : FnG X.prog X.w X.K X.mg X.base k f fd ps sp) (hr : Room k X.A) (hgd : X.A.guards = some []) (hb : L2.Binds X.K fd ps []) (hx : Passes (L2.CX X.prog X.w) X E) (ha : PA X (e :: es) t)
    (hst : starEach (e :: es) X.env = (false, eval e X.env) :: starEach es X.env) (hpl : (backTo pos (starEach es X.env)).any (·.1) = false)
    (ht : eval (.Call (.Attribute o m apos) (e :: es) [] pos) X.env = (do
      let ov ← eval o X.env
      standAt apos.atName
      let (f, first) ← holding [ov] (getMethod ov m pl)
      callWith pos f first (backTo pos (starEach (e :: es) X.env)) (backToKw pos (keywordEach [] X.env)))) :
    PE X (.Call (.Attribute o m apos) (e :: es) [] pos) (tMethG C m sp E ta t) := by
  refine ⟨fun pins s σ H Q I h => ?_⟩
  refine PySem.W.methodCall_KW (pl := pl) (thn (he.run pins s σ H _ I h) fun u s1 ⟨x, H1, I1, rx, a, dx, fs, ex, ea, l, q⟩ => ?_) ht
  subst ex
  obtain rfl : u = Value.ref a := rx
  refine getmeth_ok I1 ea c hm l ?_
  refine PySem.W.callWith_K (first := [.ref a]) (h₀ := X.base) I.ok.mod.kin hm.kp (thn (ha.run pos pins s1 σ H1 _ I1 q) fun us s2 ⟨vs, H2, I2, r, q2⟩ => ⟨I2.kIn, ?_⟩) hst hpl
  exact run_fnG (us := .ref a :: us) (vs := .ref a :: vs) F hr hgd hb hx I2 (.cons rfl r) q2
theorem pe_methG0 {pl : Sem Bool} (he : PE X o ta) (c : Cls X.K C) (hm : Meth X.K C m f) (F : FnG X.prog X.w X.K X.mg X.base k f fd ps sp) (hr : Room k X.A) (hgd : X.A.guards = some []) (hb : L2.Binds X.K fd ps []) (hx : Passes (L2.CX X.prog X.w) X E)
    (ht : eval (.Call (.Attribute o m apos) [] [] pos) X.env = (do
      let ov ← eval o X.env
      standAt apos.atName
      let (f, first) ← holding [ov] (getMethod ov m pl)
      callWith pos f first (backTo pos (starEach [] X.env)) (backToKw pos (keywordEach [] X.env)))) :
    PE X (.Call (.Attribute o m apos) [] [] pos) (tMethG C m sp E ta tNil) := by
  refine ⟨fun pins s σ H Q I h => ?_⟩
  refine PySem.W.methodCall_KW (pl := pl) (thn (he.run pins s σ H _ I h) fun u s1 ⟨x, H1, I1, rx, a, dx, fs, ex, ea, l, q⟩ => ?_) ht
  subst ex
  obtain rfl : u = Value.ref a := rx
  refine getmeth_ok I1 ea c hm l ?_
  exact PySem.W.callWith_K0 (first := [.ref a]) I1.kIn hm.kp (run_fnG (us := [.ref a]) (vs := [.ref a]) F hr hgd hb hx I1 (.cons rfl .nil) q)
theorem meth_read (hC : ∀ C2 : Addr, PySem.W.nsIn X.K mainGlobals x = some (some (.ref C2)) → C2 = C) {s : L2.St} {H : Hp} {Q : VK}
    (q : LG (Rep X.K) X.K X.mg E (mM x m n mf mo mas) s H Q) :
    LG (Rep X.K) X.K X.mg E mo s H fun v H1 => ∃ a dx fs, v = .ref a ∧ H1 a = some (.ins C dx fs) ∧ fs.lookup m = none ∧ LG (Reps X.K) X.K X.mg E mas s H1 fun vs H2 => spN X.K X.mg n mf (v :: vs) H2 Q E := by
  obtain ⟨B, F, r, sl, C0, hr, hs, o⟩ := q
  refine ⟨B, F, r, sl, C0, hr, hs, Out.bind (P := Rep X.K) o fun d C1 F1 r1 H1 v e1 e2 hr1 hx o1 => ?_⟩
  simp only at o1
  split at o1
  · rename_i i fs eo
    split at o1
    · rename_i hl
      obtain ⟨a, Ca, dx, gs, rfl, ed, h1, h2, h3, h4, h5, h6⟩ := objAt_ok hr1 hx eo
      have hCa := hC Ca h3
      subst hCa
      refine ⟨a, dx, gs, rfl, h4, (fld_ok (f := m) h5 h6).2 hl, ?_⟩
      refine ⟨B, F1, r1, sl, C1, hr1, hs.mono e1 e2, Out.bind (P := Reps X.K) o1 fun ys C2 F2 r2 H2 vs e3 e4 hr2 hy o2 => ?_⟩
      simp only at o2
      split at o2
      · rename_i hn
        exact ⟨B, F2, r2, C2, d :: ys, hr2, .cons (hx.mono e3 e4) hy, by rw [List.length_cons]; exact hn, o2⟩
      · exact False.elim o2
    · exact False.elim o1
  · exact False.elim o1
theorem ne_meth {pl : Sem Bool} (h : CalM X.prog X.w X.K X.mg X.base x m k n mf) (hr : Room k X.A) (hgd : X.A.guards = some []) (hx : Passes (L2.CX X.prog X.w) X E) (ho : NE X E o mo) (ha : NA X E (e :: es) mas)
    (hst : starEach (e :: es) X.env = (false, eval e X.env) :: starEach es X.env := by rfl) (hpl : (backTo pos (starEach es X.env)).any (·.1) = false := by rfl)
    (ht : eval (.Call (.Attribute o m apos) (e :: es) [] pos) X.env = (do
      let ov ← eval o X.env
      standAt apos.atName
      let (f, first) ← holding [ov] (getMethod ov m pl)
      callWith pos f first (backTo pos (starEach (e :: es) X.env)) (backToKw pos (keywordEach [] X.env))) := by rfl) : NE X E (.Call (.Attribute o m apos) (e :: es) [] pos) (mM x m n mf mo mas) := by
  obtain ⟨C, f, fd, ps, h0, h1, h2, h3, h4⟩ := h
  exact ⟨pe_imp (pe_methG (pl := pl) ho.pe h1 h2 h3 hr hgd h4 hx ha.pa hst hpl ht) fun s H Q q => meth_read h0 q⟩
theorem ne_meth0 {pl : Sem Bool} (h : CalM X.prog X.w X.K X.mg X.base x m k n mf) (hr : Room k X.A) (hgd : X.A.guards = some []) (hx : Passes (L2.CX X.prog X.w) X E) (ho : NE X E o mo)
    (ht : eval (.Call (.Attribute o m apos) [] [] pos) X.env = (do
      let ov ← eval o X.env
      standAt apos.atName
      let (f, first) ← holding [ov] (getMethod ov m pl)
      callWith pos f first (backTo pos (starEach [] X.env)) (backToKw pos (keywordEach [] X.env))) := by rfl) : NE X E (.Call (.Attribute o m apos) [] [] pos) (mM x m n mf mo aNil) := by
  obtain ⟨C, f, fd, ps, h0, h1, h2, h3, h4⟩ := h
  refine ⟨pe_imp (pe_methG0 (pl := pl) ho.pe h1 h2 h3 hr hgd h4 hx ht) fun s H Q q => ?_⟩
  obtain ⟨B, F, r, sl, C0, hr, hs, o⟩ := meth_read (mas := aNil) h0 q
  refine ⟨B, F, r, sl, C0, hr, hs, o.imp fun v H1 h => ?_⟩
  obtain ⟨a, dx, fs, rfl, h5, h6, B1, F1, r1, sl1, C1, hr1, hs1, o1⟩ := h
  refine ⟨a, dx, fs, rfl, h5, h6, ?_⟩
  exact o1 F1 r1 H1 [] (.refl _) (.refl _) hr1 .nil
end
/-! methods called by keywords -/
def CalMK (P : Program) (w : World) (K : PySem.W.Frag) (mg : Str → Option Value) (base : Heap) (cl m : Str) (k n : Nat) (ks : List Str) (mf : MF) : Prop :=
  ∃ (C f : Addr) (fd : FuncData) (ps : List Str) (g : List Value → List Value → List Value), (∀ C2 : Addr, PySem.W.nsIn K mainGlobals cl = some (some (.ref C2)) → C2 = C) ∧ Cls K C ∧ Meth K C m f ∧ FnG P w K mg base k f fd ps (spN K mg n mf) ∧ KBn K fd ps 1 ks g (fun vs zs => vs ++ zs)
def DefAtMK (K : PySem.W.Frag) (cl m qual : Str) (st : Stmt) (ps ks : List Str) : Prop :=
  ∃ (C f : Addr) (fd : FuncData) (g : List Value → List Value → List Value), (∀ C2 : Addr, PySem.W.nsIn K mainGlobals cl = some (some (.ref C2)) → C2 = C) ∧ Cls K C ∧ Meth K C m f ∧ Fun K m qual st f fd ∧ KBn K fd ps 1 ks g (fun vs zs => vs ++ zs)
section
variable {P : Program} {w : World} {K : PySem.W.Frag} {mg : Str → Option Value} {base : Heap}
theorem CalMK.ofK {cl m qual : Str} {st : Stmt} {N ps ks : List Str} {k : Nat} {u : MS} (h : DefAtMK K cl m qual st ps ks) (S : FnScope N ps (defScope st))
    (hb : ∀ (f : Addr) (cdv : Value) (A : Around) (outer : List Env) (s : Shared) (H : Hp) (E : XK), Room k (A.deeper (envOfC qual (defScope st) s.heap.objs.size f cdv)) → A.guards = some [] →
      NSs (cxOf (L2.CX P w) P w K mg base N qual (defScope st) f cdv A outer s H E) E (defBody st) u) : CalMK P w K mg base cl m (k + 1) ps.length ks (runK N.length u) := by
  obtain ⟨C, f, fd, g, h0, h1, h2, h3, h4⟩ := h
  exact ⟨C, f, fd, ps, g, h0, h1, h2, okDK h3 S fun cdv A outer s H E hr hg => hb f cdv A outer s H E hr hg, h4⟩
theorem CalMK.of {cl m qual : Str} {st : Stmt} {N ps ks : List Str} {k : Nat} {u : MS} (h : DefAtMK K cl m qual st ps ks) (S : FnScope N ps (defScope st))
    (hb : ∀ (f : Addr) (cdv : Value) (A : Around) (outer : List Env) (s : Shared) (H : Hp) (E : XK), Room k (A.deeper (envOfC qual (defScope st) s.heap.objs.size f cdv)) → A.guards = some [] →
      NSs (cxOf (L2.CX P w) P w K mg base N qual (defScope st) f cdv A outer s H E) E (defBody st) u) : CalMK P w K mg base cl m (k + 1) ps.length ks (runD N.length u) := by
  obtain ⟨C, f, fd, g, h0, h1, h2, h3, h4⟩ := h
  exact ⟨C, f, fd, ps, g, h0, h1, h2, okD h3 S fun cdv A outer s H E hr hg => hb f cdv A outer s H E hr hg, h4⟩
theorem Cal.also {x y : Str} {k n : Nat} {mf : MF} (h : Cal P w K mg base x k n mf) (e : mg y = mg x) : Cal P w K mg base y k n mf := by
  obtain ⟨f, fd, ps, h1, h2, h3⟩ := h
  exact ⟨f, fd, ps, h1, e.trans h2, h3⟩
end
section
variable {X : Cx} {E : XK} {k : Nat} {f C : Addr} {fd : FuncData} {ps ks : List Str} {sp : Sp} {o : Expr} {kws : List Keyword} {x m : Str} {pos apos p1 : Pos} {ta : TE} {tk : TA} {mo : ME} {mks : MG (List D)} {n : Nat} {mf : MF} {g : List Value → List Value → List Value}
end
theorem kw_nil {A : Type} {D : Addr} {t : Sem A} {r : A} (h : t = pure r) : KwChain D [] t r := h
theorem kw_one {A B C : Type} {D : Addr} {q : Str × Value} {t : Sem A} {r : A} {k1 : Option Value → Sem B} {k2 : B → Sem C} {k3 : C → Sem A} {a : B} (h1 : t = ((nsGet D q.1 >>= k1) >>= k2) >>= k3) (h2 : k1 (some q.2) = pure a) (h3 : k2 a >>= k3 = pure r) : KwChain D [q] t r := ⟨_, _, k1, k2, k3, a, h1, h2, h3⟩
/-! a new instance -/
section
variable {P : Program} {w : World} {K : PySem.W.Frag} {mg : Str → Option Value} {base : Heap}
/-- a def with defaults -/
abbrev FunDf (K : PySem.W.Frag) (m qual : Str) (st : Stmt) (dvs : List V) (kws : List (Str × V)) (f : Addr) (fd : FuncData) : Prop := FunD K m qual (defArgs st) (defBody st) (defScope st) dvs kws f fd
theorem okDKD {x qual : Str} {st : Stmt} {dvs : List V} {kws : List (Str × V)} {f : Addr} {fd : FuncData} {N ps : List Str} {k : Nat} {u : MS} (F : FunDf K x qual st dvs kws f fd) (S : FnScope N ps (defScope st))
    (hb : ∀ (cdv : Value) (A : Around) (outer : List Env) (s : Shared) (H : Hp) (E : XK), Room k (A.deeper (envOfC qual (defScope st) s.heap.objs.size f cdv)) → A.guards = some [] →
      NSs (cxOf (L2.CX P w) P w K mg base N qual (defScope st) f cdv A outer s H E) E (defBody st) u) : FnG P w K mg base (k + 1) f fd ps (spN K mg ps.length (runK N.length u)) := by
  obtain ⟨oc, od, dV, kV, doc, pm, an, cdv, ct, osl, rfl, lk, hcd, _, _⟩ := F.ex
  refine ⟨spN_len, fun A outer s H args us vs Q E hr hg e0 hbd rv hsp => ?_⟩
  have hl := spN_len _ _ _ _ hsp
  have there : K.In s.heap := e0.mod.kin.keeps fun b o e => (e0.bs b o e).1
  have lim : s.heap.NoLimit := e0.mod.nolimit.keeps fun b o e => (e0.bs b o e).1
  refine codeAny_call_function hr.depth (there _ _ lk) rfl S.co S.gen rfl (PySem.W.codeRec_of there hcd) (hbd _ _ _ _ ?_)
  refine wpAny_newFunctionEnv_cells S.kind (fun ⟨n, v⟩ hy => ?_) fun env he s1 x => ?_
  · rcases S.par n (List.of_mem_zip hy).1 with q | q
    · exact .inl q
    · exact .inr ⟨q, PySem.W.cellsFrom_some _ _ _ (.inl q)⟩
  subst he
  refine ⟨lim.keeps x.toInCall.keep, codeAny_func ?_⟩
  have I : Inv (cxOf (L2.CX P w) P w K mg base N qual (defScope st) f cdv A outer s H E) [] (start N vs) H s1 := inv_start S hr.hd e0 hl rv x
  refine wpAny_mono ((hb cdv A outer s H E (hr.deeper _) hg).ps.run [] s1 (start N vs) H { nx := fun _ H' => Q .non H', rt := Q } I ?_) (fun fl s' hs => ?_) fun e s' hs => hs
  · obtain ⟨B, F, r, C, ds, hr, hd, hl, o⟩ := hsp
    refine ⟨B, F, r, _, C, hr, Sls.start hd, ?_⟩
    unfold runK at o
    cases hu : u (ds.map some ++ List.replicate (N.length - ds.length) none) C with
    | ok p =>
      obtain ⟨⟨fl, sl'⟩, C'⟩ := p
      rw [hu, R.bind_ok] at o
      intro F' r' H' e1 e2 hr'
      cases fl with
      | nx => exact fun s' _ => o F' r' H' .non e1 e2 hr' rfl
      | rt d => exact fun v hv => o F' r' H' v e1 e2 hr' hv
      | bk => exact False.elim o
      | ct => exact False.elim o
    | ex y Cy => rw [hu] at o; exact o
    | no => rw [hu] at o; exact o
  · cases fl with
    | ret u =>
      obtain ⟨v, σ', H', J, rv, q⟩ := hs
      exact ⟨v, H', J.os, J.bare, J.base, J.hok, rv, q⟩
    | next =>
      obtain ⟨σ', H', J, q⟩ := hs
      exact ⟨.non, H', J.os, J.bare, J.base, J.hok, rfl, q⟩
    | brk => obtain ⟨_, _, _, q⟩ := hs; exact False.elim q
    | cont => obtain ⟨_, _, _, q⟩ := hs; exact False.elim q
end
/-- C(e, ..) with None for what lacks: np values are written ahead (self aside), ks by keywords -/
def CalI (P : Program) (w : World) (K : PySem.W.Frag) (mg : Str → Option Value) (base : Heap) (cl : Str) (k n np : Nat) (ks : List Str) (pre post : Nat) (mf : MF) : Prop :=
  ∃ (C f : Addr) (fd : FuncData) (ps : List Str) (g : List Value → List Value → List Value), mg cl = some (.ref C) ∧ PySem.W.nsIn K mainGlobals cl = some (some (.ref C)) ∧ Mk K C f ∧ FnG P w K mg base k f fd ps (spN K mg n mf) ∧
    KBn K fd ps (np + 1) ks g (fun vs zs => vs ++ (List.replicate pre V.non ++ (zs ++ List.replicate post V.non)))
def DefAtI (K : PySem.W.Frag) (mg : Str → Option Value) (cl qual : Str) (st : Stmt) (ps : List Str) (dvs : List V) (kws : List (Str × V)) (np : Nat) (ks : List Str) (pre post : Nat) : Prop :=
  ∃ (C f : Addr) (fd : FuncData) (g : List Value → List Value → List Value), mg cl = some (.ref C) ∧ PySem.W.nsIn K mainGlobals cl = some (some (.ref C)) ∧ Mk K C f ∧ FunDf K "__init__" qual st dvs kws f fd ∧
    KBn K fd ps (np + 1) ks g (fun vs zs => vs ++ (List.replicate pre V.non ++ (zs ++ List.replicate post V.non)))
section
variable {P : Program} {w : World} {K : PySem.W.Frag} {mg : Str → Option Value} {base : Heap}
theorem CalI.ofK {cl qual : Str} {st : Stmt} {N ps ks : List Str} {dvs : List V} {kws : List (Str × V)} {k np pre post : Nat} {u : MS} (h : DefAtI K mg cl qual st ps dvs kws np ks pre post) (S : FnScope N ps (defScope st))
    (hb : ∀ (f : Addr) (cdv : Value) (A : Around) (outer : List Env) (s : Shared) (H : Hp) (E : XK), Room k (A.deeper (envOfC qual (defScope st) s.heap.objs.size f cdv)) → A.guards = some [] →
      NSs (cxOf (L2.CX P w) P w K mg base N qual (defScope st) f cdv A outer s H E) E (defBody st) u) : CalI P w K mg base cl (k + 1) ps.length np ks pre post (runK N.length u) := by
  obtain ⟨C, f, fd, g, h0, h1, h2, h3, h4⟩ := h
  exact ⟨C, f, fd, ps, g, h0, h1, h2, okDKD h3 S fun cdv A outer s H E hr hg => hb f cdv A outer s H E hr hg, h4⟩
end
/-- x(e, .., k = v, ..) -/
def mI (x : Str) (n np nk pre post : Nat) (mf : MF) (mas mks : MG (List D)) : ME := fun sl C => (mas sl C).bind fun p => (mks sl p.2).bind fun q =>
  if p.1.length = np ∧ q.1.length = nk ∧ 1 + np + pre + nk + post = n then
    (mf (.cell q.2.length :: (p.1 ++ (List.replicate pre .non ++ (q.1 ++ List.replicate post .non)))) (q.2 ++ [.obj x []])).bind fun t => match t.1 with
    | .non => .ok (.cell q.2.length, t.2)
    | _ => .no
  else .no
def tIG (C : Addr) (n m : Nat) (sp : Sp) (gV : List V → List V → List V) (E : XK) (t tk : TA) : TE := fun σ H Q => t σ H fun vs H1 => tk σ H1 fun zs H2 => vs.length = n ∧ zs.length = m ∧ ∀ x dx, H2 x = none → H2 dx = none → dx ≠ x →
  sp (gV (.ref x :: vs) zs) (upd (upd H2 dx (.own x)) x (.ins C dx [])) (fun v H3 => v = .non ∧ Q (.ref x) H3) E
section
variable {X : Cx} {E : XK} {k n np pre post : Nat} {f C : Addr} {fd : FuncData} {ps ks : List Str} {sp : Sp} {e : Expr} {es : List Expr} {kws : List Keyword} {x : Str} {pos p : Pos} {t tk : TA} {mas mks : MG (List D)} {mf : MF} {g : List Value → List Value → List Value} {gV : List V → List V → List V}
theorem run_makeG {pins : List (Addr × Obj)} {σ : L2.St} {H : Hp} {s : Shared} {Q : VK} {us ws : List Value} {vs zs : List V} (M : Mk X.K C f) (F : FnG X.prog X.w X.K X.mg X.base k f fd ps sp) (hr : Room (k + 1) X.A) (hgd : X.A.guards = some []) (hb : KBn X.K fd ps (np + 1) ks g gV) (hx : Passes (L2.CX X.prog X.w) X E)
    (I : L2.Inv X pins σ H s) (r : Vals vs us) (rz : Vals zs ws) (l1 : vs.length = np) (l2 : zs.length = ks.length)
    (h : ∀ x dx, H x = none → H dx = none → dx ≠ x → sp (gV (.ref x :: vs) zs) (upd (upd H dx (.own x)) x (.ins C dx [])) (fun v H2 => v = .non ∧ Q (.ref x) H2) E) :
    wpAny (model X.prog X.w) X.A (call (.ref C) us (ks.zip ws)) (EP X pins σ Q) X.xe s := by
  have hq := h (s.heap.objs.size + 1) s.heap.objs.size (I.hok.fresh (Nat.le_succ _)) (I.hok.fresh (Nat.le_refl _)) (Nat.ne_of_lt (Nat.lt_succ_self _))
  have I2 := Inv.made (C := C) I
  have r1 : Vals (V.ref (s.heap.objs.size + 1) :: vs) (Value.ref (s.heap.objs.size + 1) :: us) := .cons rfl r
  have r2 := hb.rel r1 rz
  have n1 : (Value.ref (s.heap.objs.size + 1) :: us).length = np + 1 := by
    rw [List.length_cons, ← r.length, l1]
  refine wpAny_call (make_map (f := f) I.kIn M.makes M.init (beq_iff_eq.mp M.fn) (codeAny_mono (F.run _ X.stack _ _ ⟨Value.ref (s.heap.objs.size + 1) :: us, ks.zip ws⟩ (g (Value.ref (s.heap.objs.size + 1) :: us) ws) _ _ E (hr.make C us (ks.zip ws)) hgd
    (I2.env0.make C us (ks.zip ws)) (hb.to _ (Value.ref (s.heap.objs.size + 1) :: us) ws I2.kIn n1 (rz.length.symm.trans l2)) r2 hq) fun r s' hq' => ?_))
  cases r with
  | error e => exact hx pins σ _ _ e s' I2 hq'
  | ok fl =>
    cases fl with
    | ret u =>
      obtain ⟨v, H', I3, rv, ev, q3⟩ := I2.after hq'
      subst ev
      exact ⟨rv, ⟨V.ref (s.heap.objs.size + 1), H', I3, rfl, q3⟩⟩
    | next => exact False.elim hq'
    | brk => exact False.elim hq'
    | cont => exact False.elim hq'
/-- C(k = v, ..) -/
theorem pe_makeG0 (M : Mk X.K C f) (F : FnG X.prog X.w X.K X.mg X.base k f fd ps sp) (hr : Room (k + 1) X.A) (hgd : X.A.guards = some []) (hg : Gl X x) (hm : X.mg x = some (.ref C)) (hb : KBn X.K fd ps (0 + 1) ks g gV) (hx : Passes (L2.CX X.prog X.w) X E) (hkw : PK X kws tk)
    (hall : (backToKw pos (keywordEach kws X.env)).all (·.1.isSome) = true) (hks : (backToKw pos (keywordEach kws X.env)).filterMap (·.1) = ks) (hdb : (x == ("__debug__" : Str)) = false)
    (hpl : ((backTo pos (starEach [] X.env)).any (·.1) || (backToKw pos (keywordEach kws X.env)).any (·.1.isNone)) = false) :
    PE X (.Call (.Name x p) [] kws pos) (tIG C 0 ks.length sp gV E tNil tk) := by
  refine ⟨fun pins s σ H Q I h => ?_⟩
  refine wpAny_Call_Name_kw (ld_glob I hg hm ?_ hdb)
  refine PySem.W.callWith_KW0 (h₀ := X.base) I.ok.mod.kin M.kp hall ?_ hpl
  refine thn (hkw.run pos pins s σ H _ I h) fun ws s2 ⟨zs, H2, I2, rz, l1, l2, q2⟩ => ⟨I2.kIn, ?_⟩
  rw [hks]
  exact run_makeG (us := []) (vs := []) M F hr hgd hb hx I2 .nil rz rfl l2 q2
/-- C(e, ..) -/
theorem pe_makeG (M : Mk X.K C f) (F : FnG X.prog X.w X.K X.mg X.base k f fd ps sp) (hr : Room (k + 1) X.A) (hgd : X.A.guards = some []) (hg : Gl X x) (hm : X.mg x = some (.ref C)) (hb : KBn X.K fd ps (np + 1) [] g gV) (hx : Passes (L2.CX X.prog X.w) X E)
    (ha : PA X (e :: es) t) (hdb : (x == ("__debug__" : Str)) = false) (he : starEach (e :: es) X.env = (false, eval e X.env) :: starEach es X.env) (hpl : (backTo pos (starEach es X.env)).any (·.1) = false) :
    PE X (.Call (.Name x p) (e :: es) [] pos) (fun σ H Q => t σ H fun vs H1 => vs.length = np ∧ ∀ x dx, H1 x = none → H1 dx = none → dx ≠ x →
      sp (gV (.ref x :: vs) []) (upd (upd H1 dx (.own x)) x (.ins C dx [])) (fun v H3 => v = .non ∧ Q (.ref x) H3) E) := by
  refine ⟨fun pins s σ H Q I h => ?_⟩
  refine wpAny_Call_Name_kw (ld_glob I hg hm ?_ hdb)
  refine PySem.W.callWith_K (h₀ := X.base) I.ok.mod.kin M.kp (thn (ha.run pos pins s σ H _ I h) fun us s1 ⟨vs, H1, I1, r, l1, q⟩ => ⟨I1.kIn, ?_⟩) he hpl
  exact run_makeG (us := us) (ws := []) (zs := []) M F hr hgd hb hx I1 r .nil l1 rfl q
theorem reps_non {K : PySem.W.Frag} {F : Hp} {r : List Addr} : ∀ n : Nat, Reps K F r (List.replicate n .non) (List.replicate n V.non)
  | 0 => .nil
  | n + 1 => .cons rfl (reps_non n)
theorem make_read {K : PySem.W.Frag} {mg : Str → Option Value} {B F : Hp} {r : List Addr} {H : Hp} {C0 : Store} {ds es : List D} {vs zs : List V} {Q : VK} {Ca : Addr} (hr : Rel K B F r H C0) (hd : Reps K F r ds vs) (he : Reps K F r es zs) (hC : PySem.W.nsIn K mainGlobals x = some (some (.ref Ca)))
    (hn : 1 + ds.length + pre + es.length + post = n)
    (o : Out (Rep K) K mg E B F r ((mf (.cell C0.length :: (ds ++ (List.replicate pre .non ++ (es ++ List.replicate post .non)))) (C0 ++ [.obj x []])).bind fun t => match t.1 with
      | .non => .ok (.cell C0.length, t.2)
      | _ => .no) Q) (a dx : Addr) (ha : H a = none) (hdx : H dx = none) (hne : dx ≠ a) :
    spN K mg n mf (V.ref a :: (vs ++ (List.replicate pre V.non ++ (zs ++ List.replicate post V.non)))) (upd (upd H dx (.own a)) a (.ins Ca dx [])) (fun v H2 => v = .non ∧ Q (.ref a) H2) E := by
  have ha2 : (upd H dx (HO.own a)) a = none := by rw [upd_ne (Ne.symm hne)]; exact ha
  have hr1 := hr.junk (o := .own a) hdx
  have hr2 := hr1.alloc (o := .ins Ca dx []) (c := .obj x []) ha2 ⟨hr1.freeF ha2, Ca, dx, [], hC, upd_same, rfl, .nil⟩
  have hra : (r ++ [a])[C0.length]? = some a := by
    rw [← hr.len, List.getElem?_append_right (Nat.le_refl _)]
    simp
  refine ⟨B, F, r ++ [a], C0 ++ [.obj x []], _, hr2, .cons (show Rep K F (r ++ [a]) (.cell C0.length) (.ref a) from ⟨a, rfl, hra⟩) ((hd.append ((reps_non pre).append (he.append (reps_non post)))).mono (.refl _) (Ex.app r _)), by simp; omega, ?_⟩
  refine Out.bind (P := Rep K) (o.mono (.refl _) (Ex.app r _)) fun d C1 F1 r1 H1 v e1 e2 hr3 hx o1 => ?_
  simp only at o1
  split at o1
  · exact ⟨hx, o1 F1 r1 H1 (.ref a) (.refl _) (.refl _) hr3 ⟨a, rfl, e2 _ _ hra⟩⟩
  · exact False.elim o1
theorem ne_make (h : CalI X.prog X.w X.K X.mg X.base x k n np [] pre post mf) (hr : Room (k + 1) X.A) (hgd : X.A.guards = some []) (hx : Passes (L2.CX X.prog X.w) X E) (ha : NA X E (e :: es) mas) (hg : Gl X x := by rfl) (hdb : (x == ("__debug__" : Str)) = false := by decide)
    (hst : starEach (e :: es) X.env = (false, eval e X.env) :: starEach es X.env := by rfl) (hpl : (backTo pos (starEach es X.env)).any (·.1) = false := by rfl) : NE X E (.Call (.Name x p) (e :: es) [] pos) (mI x n np 0 pre post mf mas aNil) := by
  obtain ⟨C, f, fd, ps, g, h0, h1, h2, h3, h4⟩ := h
  refine ⟨pe_imp (pe_makeG h2 h3 hr hgd hg h0 h4 hx ha.pa hdb hst hpl) fun s H Q q => ?_⟩
  obtain ⟨B, F, r, sl, C0, hr, hs, o⟩ := q
  refine ⟨B, F, r, sl, C0, hr, hs, Out.bind (P := Reps X.K) o fun ds C1 F1 r1 H1 vs e1 e2 hr1 hd o1 => ?_⟩
  simp only [aNil, R.bind_ok] at o1
  split at o1
  · rename_i hl
    refine ⟨by rw [← hd.length]; exact hl.1, fun a dx h5 h6 h7 => ?_⟩
    exact make_read (es := []) (zs := []) hr1 hd .nil h1 (by have h8 := hl.1; have h9 := hl.2.2; simp; omega) o1 a dx h5 h6 h7
  · exact False.elim o1
theorem ne_makeK {nk : Nat} (h : CalI X.prog X.w X.K X.mg X.base x k n 0 ks pre post mf) (hr : Room (k + 1) X.A) (hgd : X.A.guards = some []) (hx : Passes (L2.CX X.prog X.w) X E) (ha : NKs X E kws mks) (hg : Gl X x := by rfl)
    (hall : (backToKw pos (keywordEach kws X.env)).all (·.1.isSome) = true := by rfl) (hks : (backToKw pos (keywordEach kws X.env)).filterMap (·.1) = ks := by rfl) (hdb : (x == ("__debug__" : Str)) = false := by decide)
    (hpl : ((backTo pos (starEach [] X.env)).any (·.1) || (backToKw pos (keywordEach kws X.env)).any (·.1.isNone)) = false := by rfl) (hnk : ks.length = nk := by rfl) : NE X E (.Call (.Name x p) [] kws pos) (mI x n 0 nk pre post mf aNil mks) := by
  subst hnk
  obtain ⟨C, f, fd, ps, g, h0, h1, h2, h3, h4⟩ := h
  refine ⟨pe_imp (pe_makeG0 h2 h3 hr hgd hg h0 h4 hx ha.pk hall hks hdb hpl) fun s H Q q => ?_⟩
  obtain ⟨B, F, r, sl, C0, hr, hs, o⟩ := q
  show LG (Reps X.K) X.K X.mg E mks s H _
  refine ⟨B, F, r, sl, C0, hr, hs, ?_⟩
  simp only [mI, aNil, R.bind_ok] at o
  refine Out.bind (P := Reps X.K) o fun es C1 F1 r1 H1 zs e1 e2 hr1 he o1 => ?_
  simp only at o1
  split at o1
  · rename_i hl
    refine ⟨rfl, by rw [← he.length]; exact hl.2.1, fun a dx h5 h6 h7 => ?_⟩
    exact make_read (ds := []) (vs := []) hr1 .nil he h1 (by have h8 := hl.2.1; have h9 := hl.2.2; simp; omega) o1 a dx h5 h6 h7
  · exact False.elim o1
end
/-! how many: an own __len__ -/
def gLenO (x : Str) (n : Nat) (mf : MF) (d : D) (C : Store) : RE := match objAt C x d with
  | some _ => if n = 1 then (mf [d] C).bind fun t => match t.1 with
    | .int i => if 0 ≤ i ∧ i < 2 ^ 63 then .ok (.int i, t.2) else .no
    | _ => .no
    else .no
  | none => .no
section
variable {X : Cx} {E : XK} {k n : Nat} {x : Str} {mf : MF}
def rLenO (K : PySem.W.Frag) (C : Addr) (sp : Sp) (E : XK) : List V → Hp → VK → Prop := fun vs H Q => ∃ (a dx : Addr) (gs : List (Str × V)), vs = [V.ref a] ∧ H a = some (.ins C dx gs) ∧ sp [.ref a] H (fun v H2 => ∃ i : Int, v = .int i ∧ 0 ≤ i ∧ i < 2 ^ 63 ∧ Q (.int i) H2) E
theorem cr_lenO {C f : Addr} {fd : FuncData} {ps : List Str} {sp : Sp} (hm : Meth X.K C "__len__" f) (F : FnG X.prog X.w X.K X.mg X.base k f fd ps sp) (hr : Room (k + 1) X.A) (hgd : X.A.guards = some []) (hb : L2.Binds X.K fd ps []) (hx : Passes (L2.CX X.prog X.w) X E) : CallR X (.builtin "len") (rLenO X.K C sp E) := by
  intro pins s σ H vs us Q I r h
  obtain ⟨a, dx, gs, rfl, ha, hsp⟩ := h
  rw [Vals.ref1 r]
  obtain ⟨mA, J, _⟩ := ins_get I.hok ha
  obtain ⟨od, J, _⟩ := J.look
  obtain ⟨m, hF⟩ := I.fr
  refine PySem.W.len_K hF I.ok.mod.kin J hm.at_ hm.fn ?_
  have hl := F.len _ _ _ _ hsp
  have hb1 := hb s [.ref a] I.kIn (by simpa using hl)
  rw [List.append_nil] at hb1
  refine wpAny_call (codeAny_mono (F.run X.A.in1 X.stack s H ⟨[.ref a], []⟩ [.ref a] [.ref a] _ E hr.in1 hgd I.env0.in1 hb1 (.cons rfl .nil) hsp) fun r s' hq => ?_)
  cases r with
  | error z => exact hx pins σ H s z s' I hq
  | ok fl =>
    cases fl with
    | ret u =>
      obtain ⟨v, H', I', rv, i, rfl, h0, h1, q⟩ := I.after hq
      obtain ⟨t, rfl⟩ := rv
      exact ⟨⟨h0, h1⟩, .int i, H', I'.tok _, ⟨_, rfl⟩, q⟩
    | next => exact False.elim hq
    | brk => exact False.elim hq
    | cont => exact False.elim hq
theorem lenON {K : PySem.W.Frag} {mg : Str → Option Value} {C : Addr} (hC : ∀ C2 : Addr, PySem.W.nsIn K mainGlobals x = some (some (.ref C2)) → C2 = C) : CallN K mg E (rLenO K C (spN K mg n mf) E) (on1 (gLenO x n mf)) := on1N fun B F r H C0 d v Q hr hd o => by
  unfold gLenO at o
  split at o
  · rename_i p eo
    obtain ⟨i, fs⟩ := p
    split at o
    · rename_i hn
      subst hn
      obtain ⟨a, Ca, dx, gs, rfl, ed, h1, h2, h3, h4, h5, h6⟩ := objAt_ok hr hd eo
      have hCa := hC Ca h3
      subst hCa
      refine ⟨a, dx, gs, rfl, h4, B, F, r, C0, [d], hr, .cons hd .nil, rfl, Out.bind (P := Rep K) o fun t C1 F1 r1 H1 u e1 e2 hr1 hx o1 => ?_⟩
      simp only at o1
      split at o1
      · rename_i i' 
        split at o1
        · rename_i hi
          exact ⟨i', hx, hi.1, hi.2, o1 F1 r1 H1 (.int i') (.refl _) (.refl _) hr1 rfl⟩
        · exact False.elim o1
      · exact False.elim o1
    · exact False.elim o
  · exact False.elim o
theorem ne_lenO {e : Expr} {m : ME} {p1 pos : Pos} (h : CalM X.prog X.w X.K X.mg X.base x "__len__" k n mf) (hr : Room (k + 1) X.A) (hgd : X.A.guards = some []) (hx : Passes (L2.CX X.prog X.w) X E) (hm : X.mg "len" = none) (ho : NE X E e m) (hl : Gl X "len" := by rfl)
    (he : starEach [e] X.env = (false, eval e X.env) :: starEach [] X.env := by rfl) (hpl : (backTo pos (starEach [] X.env)).any (·.1) = false := by rfl) : NE X E (.Call (.Name "len" p1) [e] [] pos) (mCB (on1 (gLenO x n mf)) (aCons m aNil)) := by
  obtain ⟨C, f, fd, ps, h0, h1, h2, h3, h4⟩ := h
  exact ne_callB (cr_lenO h2 h3 hr hgd h4 hx) (lenON h0) hm (na_cons ho na_nil (hs := he)) hl (by decide +kernel) (by decide) (by decide) he hpl
end
/-! steps -/
section
variable {C : Store} {QD : D → Store → Prop} {QS : Fl → Sl → Store → Prop} {x f m : Str} {i n : Nat} {fs : List (Str × D)} {sl : Sl} {mo mv : ME} {mas mks : MG (List D)} {mf : MF}
theorem objAt_c (hk : C[i]? = some (.obj x fs)) : objAt C x (.cell i) = some (i, fs) := by
  unfold objAt
  simp only [hk, if_true]
theorem w_gfld {v : D} (hk : C[i]? = some (.obj x fs)) (hf : fs.lookup f = some v) (q : QD v C) : W (gFld x f (.cell i) C) QD := by
  refine W.of (a := v) (C := C) ?_ q
  unfold gFld
  rw [objAt_c hk]
  simp only [hf]
theorem w_sFld (h : W (mv sl C) fun d C0 => W (mo sl C0) fun p C1 => ∃ i fs, p = .cell i ∧ C1[i]? = some (.obj x fs) ∧ fs.length < 1000 ∧ QS .nx sl (C1.set i (.obj x (putFD f d fs)))) : WS (sFld x f mo mv sl C) QS := by
  refine W.bindS (h.imp fun d C0 h => W.bindS (h.imp fun p C1 h => ?_))
  obtain ⟨i, fs, rfl, hk, hl, q⟩ := h
  simp only [objAt_c hk, if_pos hl]
  exact ⟨_, _, _, rfl, q⟩
theorem w_M (h : W (mo sl C) fun d C1 => ∃ i fs, d = .cell i ∧ C1[i]? = some (.obj x fs) ∧ fs.lookup m = none ∧ W (mas sl C1) fun xs C2 => xs.length + 1 = n ∧ W (mf (.cell i :: xs) C2) QD) : W (mM x m n mf mo mas sl C) QD := by
  refine W.bind (h.imp fun d C1 h => ?_)
  obtain ⟨i, fs, rfl, hk, hl, q⟩ := h
  simp only [objAt_c hk, if_pos hl]
  refine W.bind (q.imp fun xs C2 h => ?_)
  obtain ⟨h1, h2⟩ := h
  simp only [if_pos h1]
  exact h2
theorem w_I {np nk pre post : Nat} (h : W (mas sl C) fun xs C1 => W (mks sl C1) fun ys C2 => xs.length = np ∧ ys.length = nk ∧ 1 + np + pre + nk + post = n ∧ W (mf (.cell C2.length :: (xs ++ (List.replicate pre .non ++ (ys ++ List.replicate post .non)))) (C2 ++ [.obj x []])) fun d C3 => d = .non ∧ QD (.cell C2.length) C3) : W (mI x n np nk pre post mf mas mks sl C) QD := by
  refine W.bind (h.imp fun xs C1 h => W.bind (h.imp fun ys C2 h => ?_))
  obtain ⟨h1, h2, h3, h4⟩ := h
  simp only [if_pos (And.intro h1 (And.intro h2 h3))]
  refine W.bind (h4.imp fun d C3 h => ?_)
  obtain ⟨rfl, q⟩ := h
  exact W.ok q
theorem w_lenO (hk : C[i]? = some (.obj x fs)) (h : W (mf [.cell i] C) fun d C1 => ∃ k : Int, d = .int k ∧ 0 ≤ k ∧ k < 2 ^ 63 ∧ QD (.int k) C1) : W (on1 (gLenO x 1 mf) [.cell i] C) QD := by
  show W (gLenO x 1 mf (.cell i) C) QD
  unfold gLenO
  rw [objAt_c hk]
  simp only [if_true]
  refine W.bind (h.imp fun d C1 h => ?_)
  obtain ⟨k, rfl, h0, h1, q⟩ := h
  simp only [if_pos (And.intro h0 h1)]
  exact W.ok q
end
end Nv

namespace Nv
open PySem PySem.Spec PyProof.Rows L2
/-! == and != by an own __eq__ -/
section
variable {prog : Program} {w : World} {A : Around} {E : Value → Shared → Prop} {s : Shared} {K : PySem.W.Frag} {x C f : Addr} {ox : Obj} {od : Option Obj} {b tb : Value}
theorem ne_bind (self : Value) : bindSpecial (.builtin "object.__ne__") self = pure (.builtin "object.__ne__", [self]) := PySem.F.cmp_object.ne.bind self
theorem ifBound_ne {M : Model} {args : List Value} {Q : Option Value → Shared → Prop} (X : K.In s.heap) (I : PySem.W.InstAt s.heap x ox C od) (hs : PySem.W.findIn K (.ref C) "__ne__" = some (some (.builtin "object.__ne__")))
    (h : wpAny M A (call (.builtin "object.__ne__") (.ref x :: args)) (fun v => Q (some v)) E s) : wpAny M A (callSpecialIfBound? (.ref x) "__ne__" args) Q E s := by
  simp only [callSpecialIfBound?, bindSpecialIfBound?]
  refine wpAny_holding (wpAny_bind (wpAny_bind (wpAny_bind (I.type.here ((PySem.W.looks_findIn X hs).here ?_)))))
  simp only [ne_bind]
  refine wpAny_bind (wpAny_askSetting (wpAny_ite ?_))
  have fin : wpAny M A (call (.builtin "object.__ne__") ([.ref x] ++ args) >>= fun v => pure (some v)) Q E s := wpAny_bind (wpAny_mono h (fun v s' h' => wpAny_pure h') fun _ _ h' => h')
  split
  · exact wpAny_bind (wpAny_pure (wpAny_pure fin))
  · exact wpAny_tryCatch (wpAny_bind (wpAny_pure (wpAny_pure fin)))
theorem ne_entry {Q : Fin → Shared → Prop} (X : K.In s.heap) (I : PySem.W.InstAt s.heap x ox C od) (hu : A.units < cLine) (hs : PySem.W.findIn K (.ref C) "__eq__" = some (some (.ref f))) (hf : PySem.W.isFn K (.ref f) = true)
    (hcall : wpAny (model prog w) A (call (.ref f) [.ref x, b]) (fun v s' => ∃ z, v = .bool z ∧ Q (.done (.ret (.bool (!z)))) s') E s) : wpAny (model prog w) A (Builtin.«object.__ne__» ⟨[.ref x, b], []⟩) Q E s := by
  unfold Builtin.«object.__ne__»
  repeat (first
    | with_reducible refine wpAny_cRoomFor hu ?_
    | (refine wpAny_bind (m := callSpecialIfBound? (.ref x) (Str.ofString "__eq__") [b])
        (PySem.W.ifBound_K X I hs hf (wpAny_mono hcall (fun r s' hr => by
          obtain ⟨z, rfl, hq⟩ := hr
          repeat (first | exact hq | exact wpAny_pure hq | exact wpAny_truthy_bool hq | (refine wpAny_bind (m := truthy (.bool _)) (wpAny_truthy_bool ?_)) | wp_step)) fun _ _ e => e)))
    | wp_step)
theorem ne_K {Q : Value → Shared → Prop} (hu : A.units + 1 < cLine) (X : K.In s.heap) (I : PySem.W.InstAt s.heap x ox C od) (hb : PySem.W.Looks (model prog w) s.heap (typeOf b) tb) (hn : PySem.W.notFirst K C tb = true)
    (hne : PySem.W.findIn K (.ref C) "__ne__" = some (some (.builtin "object.__ne__"))) (hm : PySem.W.mroIn K C (.type "object") = some true)
    (hs : PySem.W.findIn K (.ref C) "__eq__" = some (some (.ref f))) (hf : PySem.W.isFn K (.ref f) = true)
    (h : wpAny (model prog w) A.in1 (call (.ref f) [.ref x, b]) (fun v s' => ∃ z, v = .bool z ∧ Q (.bool (!z)) s') E s) : wpAny (model prog w) A (richCompare .NotEq (.ref x) b) Q E s := by
  have one : wpAny (model prog w) A (tryCompare (.ref x) "__ne__" b) (fun r s' => ∃ v, r = some v ∧ Q v s') E s := by
    unfold tryCompare
    refine wpAny_bind (ifBound_ne X I hne (wpAny_call (codeAny_call_builtin PySem.F.cmp_object.ne.plain PySem.F.cmpEntry_ne
      (PySem.W.check_slot PySem.F.cmpKind_ne PySem.F.cmpSplit_ne (PySem.W.Looks.andThen I.type (PySem.W.looks_mroIn X hm)) (PySem.F.cmpArgs_ne _ _) (ne_entry (A := A.in1) X I hu hs hf (wpAny_mono h (fun v s' hv => ?_) fun _ _ e => e))))))
    obtain ⟨z, rfl, hq⟩ := hv
    first | exact ⟨z, rfl, wpAny_pure ⟨_, rfl, hq⟩⟩ | exact ⟨z, rfl, wpAny_pure (wpAny_pure ⟨_, rfl, hq⟩)⟩ | exact ⟨z, rfl, ⟨_, rfl, hq⟩⟩
  unfold richCompare
  simp only [oneThing_ref]
  refine wpAny_holding (wpAny_bind (wpAny_cRoomFor (Nat.lt_of_succ_lt hu) ?_))
  refine wpAny_bind (I.type.here (wpAny_bind (hb.here ?_)))
  split
  · rename_i q
    have e : PySem.W.subIn K tb (.ref C) = some false := by
      rcases Bool.or_eq_true_iff.mp hn with e | e
      · rw [beq_iff_eq.mp e] at q; simp at q
      · exact beq_iff_eq.mp e
    refine wpAny_bind ((PySem.W.looks_subIn X e).here ?_)
    simp only [Bool.false_eq_true, if_false]
    refine wpAny_bind (wpAny_mono one (fun r s' z => ?_) fun _ _ e => e)
    obtain ⟨v, rfl, hq⟩ := z
    exact wpAny_pure hq
  · refine wpAny_bind (wpAny_pure ?_)
    simp only [Bool.false_eq_true, if_false]
    refine wpAny_bind (wpAny_mono one (fun r s' z => ?_) fun _ _ e => e)
    obtain ⟨v, rfl, hq⟩ := z
    exact wpAny_pure hq
end
/-- what an own class with an own __eq__ must have besides -/
structure OwnC (K : PySem.W.Frag) (C : Addr) : Prop where
  cl : Cls K C
  ha : PySem.W.findIn K (.ref C) "__class__" = some (some (.builtin "object.__class__"))
  hn : PySem.W.specialIn K (.builtin "object.__class__") "__get__" = some (some (.builtin "getset_descriptor.__get__"))
  htk : PySem.W.takesIn K (.builtin "object.__class__") = some true
  hm : PySem.W.mroIn K C (.type "object") = some true
  ne : PySem.W.findIn K (.ref C) "__ne__" = some (some (.builtin "object.__ne__"))
  ty : PySem.W.typeIn K (.ref C) = some (.type "type")
def OwnW (K : PySem.W.Frag) (mg : Str → Option Value) (x : Str) : Prop := ∃ C : Addr, mg x = some (.ref C) ∧ PySem.W.nsIn K mainGlobals x = some (some (.ref C)) ∧ OwnC K C
theorem ns_one {K : PySem.W.Frag} {C : Addr} {x : Str} (h : PySem.W.nsIn K mainGlobals x = some (some (.ref C))) : ∀ C2 : Addr, PySem.W.nsIn K mainGlobals x = some (some (.ref C2)) → C2 = C := fun C2 h2 => by
  rw [h] at h2
  cases h2
  rfl
theorem sub_kinds {K : PySem.W.Frag} {C : Addr} {T : String} (hT : T ∈ kinds) : PySem.W.subIn K (.type T) (.ref C) = some false := by
  have main : ∀ {l : List Value}, fastBuiltinMro T = some l → (∀ v ∈ l, ∃ S : String, v = .type S) → PySem.W.subIn K (.type T) (.ref C) = some false := fun {l} h1 h2 => by
    show (fastBuiltinMro T).map (·.contains (.ref C)) = some false
    rw [h1]
    show some (l.contains (.ref C)) = some false
    congr 1
    rw [Bool.eq_false_iff]
    intro hc
    obtain ⟨S, hS⟩ := h2 _ (List.contains_iff_mem.mp hc)
    cases hS
  have two : ∀ {a b : String} {v : Value}, v ∈ [Value.type a, .type b] → ∃ S : String, v = .type S := fun {a b v} h => by
    rcases List.mem_cons.mp h with rfl | h
    · exact ⟨_, rfl⟩
    · exact ⟨_, List.mem_singleton.mp h⟩
  have three : ∀ {a b c : String} {v : Value}, v ∈ [Value.type a, .type b, .type c] → ∃ S : String, v = .type S := fun {a b c v} h => by
    rcases List.mem_cons.mp h with rfl | h
    · exact ⟨_, rfl⟩
    · exact two h
  simp only [kinds, List.mem_cons, List.not_mem_nil, or_false] at hT
  rcases hT with rfl | rfl | rfl | rfl | rfl | rfl | rfl
  · exact main (l := [.type "NoneType", .type "object"]) (by decide +kernel) fun v hv => two hv
  · exact main (l := [.type "bool", .type "int", .type "object"]) (by decide +kernel) fun v hv => three hv
  · exact main (l := [.type "int", .type "object"]) (by decide +kernel) fun v hv => two hv
  · exact main (l := [.type "str", .type "object"]) (by decide +kernel) fun v hv => two hv
  · exact main (l := [.type "list", .type "object"]) (by decide +kernel) fun v hv => two hv
  · exact main (l := [.type "tuple", .type "object"]) (by decide +kernel) fun v hv => two hv
  · exact main (l := [.type "dict", .type "object"]) (by decide +kernel) fun v hv => two hv
theorem kit_kindO {K : PySem.W.Frag} {C : Addr} {T : String} (O : OwnC K C) (hT : T ∈ kinds) : PySem.W.kitOne K (.type T) (.ref C) = some false := by
  obtain ⟨cd, hc, _⟩ := PySem.W.any_some O.cl.hd
  show (if ((Value.type T : Value) == .ref C) = true then some true else PySem.W.kitCls K (.type T) (.ref C)) = some false
  rw [if_neg (fun z => by have z := beq_iff_eq.mp z; cases z)]
  show (if ((PySem.W.clsIn K C).isSome && PySem.W.typeIn K (.ref C) == some (.type "type")) = true then PySem.W.subIn K (.type T) (.ref C) else none) = some false
  rw [if_pos (by rw [hc, O.ty]; simp), sub_kinds hT]
theorem kitO_self {K : PySem.W.Frag} {C : Addr} : PySem.W.kitOne K (.ref C) (.ref C) = some true := by
  show (if ((Value.ref C : Value) == .ref C) = true then some true else _) = some true
  rw [if_pos (by simp)]
/-- whether a value is of the class -/
def tyO (C : Store) (x : Str) (d : D) : Option Bool := match objAt C x d with
  | some _ => some true
  | none => match tyC C d with
    | some _ => some false
    | none => none
def gIsO (x : Str) (d : D) (C : Store) : RE := match tyO C x d with
  | some b => .ok (.bl b, C)
  | none => .no
section
variable {K : PySem.W.Frag} {mg : Str → Option Value} {B F H : Hp} {r : List Addr} {C : Store} {Cx0 : Addr} {x : Str}
theorem tyO_ok {d : D} {v : V} {b : Bool} (O : OwnC K Cx0) (hC : ∀ C2 : Addr, PySem.W.nsIn K mainGlobals x = some (some (.ref C2)) → C2 = Cx0) (hr : Rel K B F r H C) (hx : Rep K F r d v) (e : tyO C x d = some b) :
    ∃ t, TyX K H v t ∧ PySem.W.kitOne K t (.ref Cx0) = some b ∧ PySem.W.notFirst K Cx0 t = true := by
  unfold tyO at e
  split at e
  · rename_i p eo
    cases e
    obtain ⟨i, fs⟩ := p
    obtain ⟨a, Ca, dx, gs, rfl, ed, h1, h2, h3, h4, h5, h6⟩ := objAt_ok hr hx eo
    have hCa := hC Ca h3
    subst hCa
    exact ⟨.ref Ca, .base (.ins h4 O.cl O.ha O.hn O.htk O.hm), kitO_self, by unfold PySem.W.notFirst; simp⟩
  · split at e
    · rename_i t et
      cases e
      obtain ⟨k1, k2⟩ := tyC_ok hr hx et
      exact ⟨.type t, k2, kit_kindO O k1, by unfold PySem.W.notFirst; rw [sub_kinds k1]; simp⟩
    · cases e
end
section
variable {X : Cx} {E : XK} {x : Str} {ma mb : ME} {a : Expr} {p1 p2 pos : Pos} {k n : Nat} {mf : MF}
theorem ne_isO (h : OwnW X.K X.mg x) (hm : X.mg "isinstance" = none) (ha : NE X E a ma) (hl : Gl X "isinstance" := by rfl) (hlx : Gl X x := by rfl) (hdx : (x == ("__debug__" : Str)) = false := by decide)
    (hs : starEach [a, .Name x p2] X.env = (false, eval a X.env) :: starEach [.Name x p2] X.env := by rfl)
    (hs2 : starEach [.Name x p2] X.env = (false, eval (.Name x p2) X.env) :: starEach [] X.env := by rfl) (hpl : (backTo pos (starEach [.Name x p2] X.env)).any (·.1) = false := by rfl) :
    NE X E (.Call (.Name "isinstance" p1) [a, .Name x p2] [] pos) (m1 (gIsO x) ma) := by
  obtain ⟨C0, gC, hC, O⟩ := h
  exact ⟨pe_imp (pe_callB call_isi hl hm boot_isinstance (pa_cons ha.pe (pa_cons (pe_glob (v := .ref C0) hlx gC rfl hdx) pa_nil hs2) hs) (by decide) (by decide) hs hpl) fun s H Q q => by
    obtain ⟨B, F, r, sl, C, hr, hs, o⟩ := q
    refine ⟨B, F, r, sl, C, hr, hs, Out.bind (P := Rep X.K) o fun d C1 F1 r1 H1 v e1 e2 hr1 hx o1 => ?_⟩
    simp only [gIsO] at o1
    split at o1
    · rename_i b et
      obtain ⟨t, k1, k2, _⟩ := tyO_ok O (ns_one hC) hr1 hx et
      exact ⟨v, .ref C0, t, .ref C0, b, rfl, .own C0, k1, k2, out_ok (d := .bl b) hr1 rfl o1⟩
    · exact False.elim o1⟩
/-- x == y, x != y, x an object of the class -/
def gOwn (neg : Bool) (x : Str) (mf : MF) (a b : D) (C : Store) : RE := match objAt C x a, tyO C x b with
  | some _, some _ => (mf [a, b] C).bind fun t => match t.1 with
    | .bl z => .ok (.bl (if neg = true then !z else z), t.2)
    | _ => .no
  | _, _ => .no
def rOwnB (K : PySem.W.Frag) (C : Addr) (sp : Sp) (E : XK) (neg : Bool) : R2 := fun v u H Q => ∃ (a dx : Addr) (gs : List (Str × V)) (t : Value), v = .ref a ∧ H a = some (.ins C dx gs) ∧ TyX K H u t ∧ PySem.W.notFirst K C t = true ∧
  sp [.ref a, u] H (fun w H2 => ∃ z : Bool, w = .bl z ∧ Q (.bl (if neg = true then !z else z)) H2) E
theorem op_ownE {C f : Addr} {fd : FuncData} {ps : List Str} {sp : Sp} (hm : Meth X.K C "__eq__" f) (F : FnG X.prog X.w X.K X.mg X.base k f fd ps sp) (hr : Room (k + 1) X.A) (hgd : X.A.guards = some []) (hb : L2.Binds X.K fd ps []) (hx : Passes (L2.CX X.prog X.w) X E) : OpR X (compareOp .Eq) (rOwnB X.K C sp E false) := by
  intro pins s σ H v0 u0 v u Q I rv ru h
  obtain ⟨a, dx, gs, t, rfl, ha, ty, hn, hsp⟩ := h
  cases (show v = Value.ref a from rv)
  obtain ⟨mA, J, _⟩ := ins_get I.hok ha
  obtain ⟨od, J, _⟩ := J.look
  obtain ⟨m, hF⟩ := I.fr
  obtain ⟨P, Z, hp, _⟩ := kit_of I ru ty
  show wpAny _ _ (richCompare .Eq (.ref a) u) _ _ _
  refine PySem.W.cmp_K hr.units0 hF I.ok.mod.kin J (Z.ty _ _ I.kIn hp) hn hm.at_ hm.fn ?_
  have hl := F.len _ _ _ _ hsp
  have hb1 := hb s [.ref a, u] I.kIn (by simpa using hl)
  rw [List.append_nil] at hb1
  refine wpAny_call (codeAny_mono (F.run X.A X.stack s H ⟨[.ref a, u], []⟩ [.ref a, u] [.ref a, u0] _ E (hr.mono (by omega)) hgd I.env0 hb1 (.cons rfl (.cons ru .nil)) hsp) fun r s' hq => ?_)
  cases r with
  | error z => exact hx pins σ H s z s' I hq
  | ok fl =>
    cases fl with
    | ret w =>
      obtain ⟨v, H', I', rv, z, rfl, q⟩ := I.after hq
      cases (show w = Value.bool z from rv)
      exact ⟨.bl z, H', I', rfl, q⟩
    | next => exact False.elim hq
    | brk => exact False.elim hq
    | cont => exact False.elim hq
theorem op_ownN {C f : Addr} {fd : FuncData} {ps : List Str} {sp : Sp} (O : OwnC X.K C) (hm : Meth X.K C "__eq__" f) (F : FnG X.prog X.w X.K X.mg X.base k f fd ps sp) (hr : Room (k + 1) X.A) (hgd : X.A.guards = some []) (hb : L2.Binds X.K fd ps []) (hx : Passes (L2.CX X.prog X.w) X E) : OpR X (compareOp .NotEq) (rOwnB X.K C sp E true) := by
  intro pins s σ H v0 u0 v u Q I rv ru h
  obtain ⟨a, dx, gs, t, rfl, ha, ty, hn, hsp⟩ := h
  cases (show v = Value.ref a from rv)
  obtain ⟨mA, J, _⟩ := ins_get I.hok ha
  obtain ⟨od, J, _⟩ := J.look
  obtain ⟨P, Z, hp, _⟩ := kit_of I ru ty
  show wpAny _ _ (richCompare .NotEq (.ref a) u) _ _ _
  refine ne_K (by have := hr.units; omega) I.kIn J (Z.ty _ _ I.kIn hp) hn O.ne O.hm hm.at_ hm.fn ?_
  have hl := F.len _ _ _ _ hsp
  have hb1 := hb s [.ref a, u] I.kIn (by simpa using hl)
  rw [List.append_nil] at hb1
  refine wpAny_call (codeAny_mono (F.run X.A.in1 X.stack s H ⟨[.ref a, u], []⟩ [.ref a, u] [.ref a, u0] _ E hr.in1 hgd I.env0.in1 hb1 (.cons rfl (.cons ru .nil)) hsp) fun r s' hq => ?_)
  cases r with
  | error z => exact hx pins σ H s z s' I hq
  | ok fl =>
    cases fl with
    | ret w =>
      obtain ⟨v, H', I', rv, z, rfl, q⟩ := I.after hq
      cases (show w = Value.bool z from rv)
      exact ⟨z, rfl, .bl (!z), H', I', rfl, q⟩
    | next => exact False.elim hq
    | brk => exact False.elim hq
    | cont => exact False.elim hq
theorem ownN {K : PySem.W.Frag} {mg : Str → Option Value} {C : Addr} {neg : Bool} (O : OwnC K C) (hC : ∀ C2 : Addr, PySem.W.nsIn K mainGlobals x = some (some (.ref C2)) → C2 = C) : OpN K mg E (rOwnB K C (spN K mg 2 mf) E neg) (gOwn neg x mf) := by
  intro B F r H C0 d e v u Q hr hd he o
  unfold gOwn at o
  split at o
  · rename_i p b eo et
    obtain ⟨i, fs⟩ := p
    obtain ⟨t, k1, k2, k3⟩ := tyO_ok O hC hr he et
    obtain ⟨a, Ca, dx, gs, rfl, ed, h1, h2, h3, h4, h5, h6⟩ := objAt_ok hr hd eo
    have hCa := hC Ca h3
    subst hCa
    refine ⟨a, dx, gs, t, rfl, h4, k1, k3, B, F, r, C0, [d, e], hr, .cons hd (.cons he .nil), rfl, Out.bind (P := Rep K) o fun t C1 F1 r1 H1 w e1 e2 hr1 hx o1 => ?_⟩
    simp only at o1
    split at o1
    · rename_i z
      exact ⟨z, hx, o1 F1 r1 H1 _ (.refl _) (.refl _) hr1 rfl⟩
    · exact False.elim o1
  · exact False.elim o
theorem nt_ownE (h : OwnW X.K X.mg x) (c : CalM X.prog X.w X.K X.mg X.base x "__eq__" k 2 mf) (hr : Room (k + 1) X.A) (hgd : X.A.guards = some []) (hx : Passes (L2.CX X.prog X.w) X E) (ha : NE X E a ma) {b : Expr} (hb : NE X E b mb) (hm : behindInMarks .Eq b = false) : NT X E (.Compare a [.Eq] [b] pos) (mT (m2 (gOwn false x mf) ma mb)) := by
  obtain ⟨C, gC, hC, O⟩ := h
  obtain ⟨C', f, fd, ps, h0, h1, h2, h3, h4⟩ := c
  cases h0 C hC
  exact nt_cmp (op_ownE h2 h3 hr hgd h4 hx) (ownN O h0) ha hb hm
theorem nt_ownN (h : OwnW X.K X.mg x) (c : CalM X.prog X.w X.K X.mg X.base x "__eq__" k 2 mf) (hr : Room (k + 1) X.A) (hgd : X.A.guards = some []) (hx : Passes (L2.CX X.prog X.w) X E) (ha : NE X E a ma) {b : Expr} (hb : NE X E b mb) (hm : behindInMarks .NotEq b = false) : NT X E (.Compare a [.NotEq] [b] pos) (mT (m2 (gOwn true x mf) ma mb)) := by
  obtain ⟨C, gC, hC, O⟩ := h
  obtain ⟨C', f, fd, ps, h0, h1, h2, h3, h4⟩ := c
  cases h0 C hC
  exact nt_cmp (op_ownN O h2 h3 hr hgd h4 hx) (ownN O h0) ha hb hm
end
section
variable {C : Store} {QD : D → Store → Prop} {x : Str} {mf : MF} {i : Nat} {fs : List (Str × D)} {b : D} {neg z : Bool}
theorem tyO_c {j : Nat} {gs : List (Str × D)} (h : C[j]? = some (.obj x gs)) : tyO C x (.cell j) = some true := by
  unfold tyO
  rw [objAt_c h]
theorem w_isO (h : tyO C x b = some z) (q : QD (.bl z) C) : W (gIsO x b C) QD := by
  unfold gIsO
  rw [h]
  exact W.ok q
theorem w_own (h1 : C[i]? = some (.obj x fs)) (h2 : tyO C x b = some z) (h : W (mf [.cell i, b] C) fun d C1 => ∃ y : Bool, d = .bl y ∧ QD (.bl (if neg = true then !y else y)) C1) : W (gOwn neg x mf (.cell i) b C) QD := by
  unfold gOwn
  rw [objAt_c h1, h2]
  refine W.bind (h.imp fun d C1 hy => ?_)
  obtain ⟨y, rfl, q⟩ := hy
  exact W.ok q
end
end Nv

namespace Nv
open PySem PySem.Spec PyProof.Rows L2
/-! methods called where an error is caught -/
section
variable {X : Cx} {W : WX} {k n : Nat} {o e : Expr} {es : List Expr} {x m : Str} {pos apos p1 : Pos} {mo : ME} {mas : MG (List D)} {mf : MF}
end
/-! y = [w, n.f] -/
section
variable {X : Cx} {E : XK} {x f y n rx w : Str} {i j : Nat} {body : List Stmt} {np p1 p2 p3 p4 p5 p6 pos pos' : Pos} {mb : MS} {k1 : Nat}
end
section
variable {sl : Sl} {C : Store} {QS : Fl → Sl → Store → Prop} {x f w : Str} {i j : Nat} {d : D}
end
end Nv


namespace Tk
open PySem PySem.Spec PyProof.Rows L2 Nv
def topS (i : Nat) : Stmt := PySem.Challenge.pw_takeback_k28_whole_a_ring_kept_mended.main.body.getD i (.Pass ⟨0, 0, 0, 0⟩)
def bodyS (i j : Nat) : Stmt := match topS i with
  | .ClassDef _ _ _ b _ _ _ _ _ _ _ => b.getD j (.Pass ⟨0, 0, 0, 0⟩)
  | s => s
def bltNames : List Str := ["all", "bool", "dict", "enumerate", "int", "isinstance", "len", "list", "max", "min", "range", "sorted", "str", "tuple"]
def Blts (mg : Str → Option Value) : Prop := ∀ x ∈ bltNames, mg x = none
theorem b_all {mg : Str → Option Value} (h : Blts mg) : mg "all" = none := h _ (by decide +kernel)
theorem b_bool {mg : Str → Option Value} (h : Blts mg) : mg "bool" = none := h _ (by decide +kernel)
theorem b_dict {mg : Str → Option Value} (h : Blts mg) : mg "dict" = none := h _ (by decide +kernel)
theorem b_enumerate {mg : Str → Option Value} (h : Blts mg) : mg "enumerate" = none := h _ (by decide +kernel)
theorem b_int {mg : Str → Option Value} (h : Blts mg) : mg "int" = none := h _ (by decide +kernel)
theorem b_isinstance {mg : Str → Option Value} (h : Blts mg) : mg "isinstance" = none := h _ (by decide +kernel)
theorem b_len {mg : Str → Option Value} (h : Blts mg) : mg "len" = none := h _ (by decide +kernel)
theorem b_list {mg : Str → Option Value} (h : Blts mg) : mg "list" = none := h _ (by decide +kernel)
theorem b_max {mg : Str → Option Value} (h : Blts mg) : mg "max" = none := h _ (by decide +kernel)
theorem b_min {mg : Str → Option Value} (h : Blts mg) : mg "min" = none := h _ (by decide +kernel)
theorem b_range {mg : Str → Option Value} (h : Blts mg) : mg "range" = none := h _ (by decide +kernel)
theorem b_sorted {mg : Str → Option Value} (h : Blts mg) : mg "sorted" = none := h _ (by decide +kernel)
theorem b_str {mg : Str → Option Value} (h : Blts mg) : mg "str" = none := h _ (by decide +kernel)
theorem b_tuple {mg : Str → Option Value} (h : Blts mg) : mg "tuple" = none := h _ (by decide +kernel)
abbrev k_COME_deeds : D := .str "come"
abbrev k_COME_mending : D := .str "come"
abbrev k_FORGOTTEN_mending : D := .str "forgotten"
abbrev k_FORGOTTEN_stands : D := .str "forgotten"
abbrev k_GO : D := .str "go"
abbrev k_HELD_mending : D := .str "held"
abbrev k_HELD_stands : D := .str "held"
abbrev k_LEAST_DANCER : D := .int 1
abbrev k_LEFT_deeds : D := .str "left"
abbrev k_LEFT_mending : D := .str "left"
abbrev k_LEFT_stands : D := .str "left"
abbrev k_MOST_DANCERS : D := .int 200
abbrev k_RIGHT_deeds : D := .str "right"
abbrev k_RIGHT_stands : D := .str "right"
abbrev k_WORDS : D := .tup [(.str "go"), (.str "come")]
def Globs (mg : Str → Option Value) (K : PySem.W.Frag) : Prop := GlobC mg K "COME_deeds" k_COME_deeds ∧ GlobC mg K "COME_mending" k_COME_mending ∧ GlobC mg K "FORGOTTEN_mending" k_FORGOTTEN_mending ∧ GlobC mg K "FORGOTTEN_stands" k_FORGOTTEN_stands ∧ GlobC mg K "GO" k_GO ∧ GlobC mg K "HELD_mending" k_HELD_mending ∧ GlobC mg K "HELD_stands" k_HELD_stands ∧ GlobC mg K "LEAST_DANCER" k_LEAST_DANCER ∧ GlobC mg K "LEFT_deeds" k_LEFT_deeds ∧ GlobC mg K "LEFT_mending" k_LEFT_mending ∧ GlobC mg K "LEFT_stands" k_LEFT_stands ∧ GlobC mg K "MOST_DANCERS" k_MOST_DANCERS ∧ GlobC mg K "RIGHT_deeds" k_RIGHT_deeds ∧ GlobC mg K "RIGHT_stands" k_RIGHT_stands ∧ GlobC mg K "WORDS" k_WORDS
theorem g_COME_deeds {mg : Str → Option Value} {K : PySem.W.Frag} (h : Globs mg K) : GlobC mg K "COME_deeds" k_COME_deeds := h.1
theorem g_COME_mending {mg : Str → Option Value} {K : PySem.W.Frag} (h : Globs mg K) : GlobC mg K "COME_mending" k_COME_mending := h.2.1
theorem g_FORGOTTEN_mending {mg : Str → Option Value} {K : PySem.W.Frag} (h : Globs mg K) : GlobC mg K "FORGOTTEN_mending" k_FORGOTTEN_mending := h.2.2.1
theorem g_FORGOTTEN_stands {mg : Str → Option Value} {K : PySem.W.Frag} (h : Globs mg K) : GlobC mg K "FORGOTTEN_stands" k_FORGOTTEN_stands := h.2.2.2.1
theorem g_GO {mg : Str → Option Value} {K : PySem.W.Frag} (h : Globs mg K) : GlobC mg K "GO" k_GO := h.2.2.2.2.1
theorem g_HELD_mending {mg : Str → Option Value} {K : PySem.W.Frag} (h : Globs mg K) : GlobC mg K "HELD_mending" k_HELD_mending := h.2.2.2.2.2.1
theorem g_HELD_stands {mg : Str → Option Value} {K : PySem.W.Frag} (h : Globs mg K) : GlobC mg K "HELD_stands" k_HELD_stands := h.2.2.2.2.2.2.1
theorem g_LEAST_DANCER {mg : Str → Option Value} {K : PySem.W.Frag} (h : Globs mg K) : GlobC mg K "LEAST_DANCER" k_LEAST_DANCER := h.2.2.2.2.2.2.2.1
theorem g_LEFT_deeds {mg : Str → Option Value} {K : PySem.W.Frag} (h : Globs mg K) : GlobC mg K "LEFT_deeds" k_LEFT_deeds := h.2.2.2.2.2.2.2.2.1
theorem g_LEFT_mending {mg : Str → Option Value} {K : PySem.W.Frag} (h : Globs mg K) : GlobC mg K "LEFT_mending" k_LEFT_mending := h.2.2.2.2.2.2.2.2.2.1
theorem g_LEFT_stands {mg : Str → Option Value} {K : PySem.W.Frag} (h : Globs mg K) : GlobC mg K "LEFT_stands" k_LEFT_stands := h.2.2.2.2.2.2.2.2.2.2.1
theorem g_MOST_DANCERS {mg : Str → Option Value} {K : PySem.W.Frag} (h : Globs mg K) : GlobC mg K "MOST_DANCERS" k_MOST_DANCERS := h.2.2.2.2.2.2.2.2.2.2.2.1
theorem g_RIGHT_deeds {mg : Str → Option Value} {K : PySem.W.Frag} (h : Globs mg K) : GlobC mg K "RIGHT_deeds" k_RIGHT_deeds := h.2.2.2.2.2.2.2.2.2.2.2.2.1
theorem g_RIGHT_stands {mg : Str → Option Value} {K : PySem.W.Frag} (h : Globs mg K) : GlobC mg K "RIGHT_stands" k_RIGHT_stands := h.2.2.2.2.2.2.2.2.2.2.2.2.2.1
theorem g_WORDS {mg : Str → Option Value} {K : PySem.W.Frag} (h : Globs mg K) : GlobC mg K "WORDS" k_WORDS := h.2.2.2.2.2.2.2.2.2.2.2.2.2.2
def errTb : List (Str × List Str) := [("Nothing", ["Nothing", "RingError", "ValueError"])]
section
variable {P : Program} {w : World} {K : PySem.W.Frag} {mg : Str → Option Value} {base : Heap}
abbrev s__law_cells : Stmt := topS 61
abbrev N__law_cells : List Str := ["_law_script", "_law_most"]
theorem sc__law_cells : FnScope N__law_cells ["_law_script", "_law_most"] (defScope s__law_cells) := ⟨rfl, rfl, rfl, by decide +kernel, rfl, by decide +kernel, by decide +kernel⟩
noncomputable def m__law_cells : MF := runD 2 (sRet (m2 (gAdd true) (mSl false (mVar 0) oNone (oSome (mVar 1))) (mRep false (aCons (mC (.int 0)) aNil) (mCB (on1 gInt) (aCons (m2 gEq (mVar 0) (mLst false aNil)) aNil)))))
theorem ok__law_cells (hB : Blts mg) (hG : Globs mg K) (h : DefAt K mg "_law_cells" s__law_cells ["_law_script", "_law_most"]) : Cal P w K mg base "_law_cells" 1 2 m__law_cells := by
  have hN := sc__law_cells.nd
  exact Cal.of (k := 0) h sc__law_cells fun f cdv A outer s H E hr hgd => (nss_one (ns_ret (ne_op op_addA addN (ne_sl (ne_var 0) no_none (no_some (ne_var 1))) (ne_rep (na_cons ne_int na_nil) (ne_callTy call_int3 intN (b_int hB) (na_cons (ne_cmp (op_eqE hr.units) eqN (ne_var 0) (ne_lst na_nil) (nomark _)) na_nil))))))
abbrev s__law_jar : Stmt := topS 59
abbrev N__law_jar : List Str := ["_law_cell", "_law_k"]
theorem sc__law_jar : FnScope N__law_jar ["_law_cell", "_law_k"] (defScope s__law_jar) := ⟨rfl, rfl, rfl, by decide +kernel, rfl, by decide +kernel, by decide +kernel⟩
noncomputable def m__law_jar : MF := runD 2 (sRet (mLst true (aCons (mCB (on2 gMax2) (aCons (mC (.int 0)) (aCons (m2 gSub (mVar 0) (m2 gPow (mC (.int 10)) (mC (.int 18)))) aNil))) (aCons (m2 (gAdd false) (m2 (gAdd false) (m2 gPow (m2 gMod (mVar 0) (m2 (gAdd false) (m2 gPow (mC (.int 10)) (mC (.int 38))) (mC (.int 133)))) (mC (.int 3))) (m2 gMul (mC (.int 611953)) (mVar 1))) (mC (.int 141421356237309505))) (aCons (mC (.int 0)) aNil)))))
theorem ok__law_jar (hB : Blts mg) (hG : Globs mg K) (h : DefAt K mg "_law_jar" s__law_jar ["_law_cell", "_law_k"]) : Cal P w K mg base "_law_jar" 1 2 m__law_jar := by
  have hN := sc__law_jar.nd
  exact Cal.of (k := 0) h sc__law_jar fun f cdv A outer s H E hr hgd => (nss_one (ns_ret (ne_lst (na_cons (ne_callB (call_max2 rfl) max2N (b_max hB) (na_cons ne_int (na_cons (ne_op op_sub subN (ne_var 0) (ne_op op_powW powN ne_int ne_int)) na_nil))) (na_cons (ne_op op_addA addN (ne_op op_addA addN (ne_op op_powW powN (ne_op op_mod modN (ne_var 0) (ne_op op_addA addN (ne_op op_powW powN ne_int ne_int) ne_int)) ne_int) (ne_op op_mulA mulN ne_int (ne_var 1))) ne_int) (na_cons ne_int na_nil))))))
abbrev s_is_between : Stmt := topS 15
abbrev N_is_between : List Str := ["thing", "least", "most"]
theorem sc_is_between : FnScope N_is_between ["thing", "least", "most"] (defScope s_is_between) := ⟨rfl, rfl, rfl, by decide +kernel, rfl, by decide +kernel, by decide +kernel⟩
noncomputable def m_is_between : MF := runD 3 (sRet (mAnd (m1 (gIsi "int") (mVar 0)) (mAnd (mNot (m1 (gIsi "bool") (mVar 0))) (mCh gLe gLe (mVar 1) (mVar 0) (mVar 2)))))
theorem ok_is_between (hB : Blts mg) (hG : Globs mg K) (h : DefAt K mg "is_between" s_is_between ["thing", "least", "most"]) : Cal P w K mg base "is_between" 1 3 m_is_between := by
  have hN := sc_is_between.nd
  exact Cal.of (k := 0) h sc_is_between fun f cdv A outer s H E hr hgd => (nss_one (ns_ret (ne_and (ne_isi (b_isinstance hB) (b_int hB) boot_int (by decide) (ne_var 0)) (ne_and (ne_not (ne_isi (b_isinstance hB) (b_bool hB) boot_bool (by decide) (ne_var 0))) (ne_one (ne_ch op_le op_le leN leN (ne_var 1) (ne_var 0) (ne_var 2)))))))
abbrev s_need_dancers : Stmt := topS 19
abbrev N_need_dancers : List Str := ["n"]
theorem sc_need_dancers : FnScope N_need_dancers ["n"] (defScope s_need_dancers) := ⟨rfl, rfl, rfl, by decide +kernel, rfl, by decide +kernel, by decide +kernel⟩
noncomputable def m_need_dancers : MF := runD 1 (sIf (tNotM (mT (mF 3 m_is_between (aCons (mVar 0) (aCons (mC (.int 1)) (aCons (mC k_MOST_DANCERS) aNil))))))
  sNo
  sNil)
theorem ok_need_dancers (hB : Blts mg) (hG : Globs mg K) (h : DefAt K mg "need_dancers" s_need_dancers ["n"]) (c_is_between : Cal P w K mg base "is_between" 1 3 m_is_between) : Cal P w K mg base "need_dancers" 2 1 m_need_dancers := by
  have hN := sc_need_dancers.nd
  exact Cal.of (k := 1) h sc_need_dancers fun f cdv A outer s H E hr hgd => (nss_one (ns_if (nt_not (nt_val (ne_cal c_is_between (hr.mono (by omega)) hgd pass_cx (na_cons (ne_var 0) (na_cons ne_int (na_cons (ne_glob (g_MOST_DANCERS hG)) na_nil))))))
    (nss_one ns_never)
    nss_nil))
abbrev s_whole : Stmt := topS 20
abbrev N_whole : List Str := ["n"]
theorem sc_whole : FnScope N_whole ["n"] (defScope s_whole) := ⟨rfl, rfl, rfl, by decide +kernel, rfl, by decide +kernel, by decide +kernel⟩
noncomputable def m_whole : MF := runD 1 (sSeq (sDrop (mF 1 m_need_dancers (aCons (mVar 0) aNil)))
  (sRet (mTup (aCons (m2 (gRg true) (mC (.int 1)) (m2 (gAdd false) (mVar 0) (mC (.int 2)))) (aCons (m1 (gRg true (.int 0)) (m2 (gAdd false) (mVar 0) (mC (.int 1)))) aNil)))))
theorem ok_whole (hB : Blts mg) (hG : Globs mg K) (h : DefAt K mg "whole" s_whole ["n"]) (c_need_dancers : Cal P w K mg base "need_dancers" 2 1 m_need_dancers) : Cal P w K mg base "whole" 3 1 m_whole := by
  have hN := sc_whole.nd
  exact Cal.of (k := 2) h sc_whole fun f cdv A outer s H E hr hgd => (nss_cons (ns_expr (ne_cal c_need_dancers (hr.mono (by omega)) hgd pass_cx (na_cons (ne_var 0) na_nil)))
    (nss_one (ns_ret (ne_tup (na_cons (ne_listRg2 rfl (b_list hB) (b_range hB) ne_int (ne_op op_addA addN (ne_var 0) ne_int)) (na_cons (ne_listRg1 rfl (b_list hB) (b_range hB) (ne_op op_addA addN (ne_var 0) ne_int)) na_nil))))))
abbrev s_is_stand : Stmt := topS 16
abbrev N_is_stand : List Str := ["thing", "rights", "lefts", "many", "i", "hands"]
theorem sc_is_stand : FnScope N_is_stand ["thing"] (defScope s_is_stand) := ⟨rfl, rfl, rfl, by decide +kernel, rfl, by decide +kernel, by decide +kernel⟩
noncomputable def m_is_stand : MF := runD 6 (sSeq (sIf (tOrM (tNotM (mT (m1 (gIsi "tuple") (mVar 0)))) (tOrM (mT (m2 gNe (mCB (on1 gLen) (aCons (mVar 0) aNil)) (mC (.int 2)))) (tNotM (mT (mCB (on1 gAll) (aCons (mLc false [5] (iTp (mVar 0)) (gmN 5) tTrue (m1 (gIsi "list") (mVar 5))) aNil))))))
  (sRet (mC (.bl false)))
  sNil)
  (sSeq (sAsg (mVar 0) (gmSq 2 (gmCons (gmN 1) (gmCons (gmN 2) gmNil))))
  (sSeq (sAsg (mCB (on1 gLen) (aCons (mVar 1) aNil)) (gmN 3))
  (sSeq (sIf (tOrM (mT (m2 gLt (mVar 3) (mC (.int 2)))) (tOrM (mT (m2 gNe (mCB (on1 gLen) (aCons (mVar 2) aNil)) (mVar 3))) (tNotM (mT (mCB (on1 gAll) (aCons (mLc false [4] (iRg1 (aCons (mVar 3) aNil)) (gmN 4) tTrue (mF 3 m_is_between (aCons (m2 gIx (mVar 1) (mVar 4)) (aCons (m2 (gAdd false) (mVar 4) (mC (.int 1))) (aCons (mVar 3) aNil))))) aNil))))))
  (sRet (mC (.bl false)))
  sNil)
  (sRet (mCB (on1 gAll) (aCons (mLc false [4] (iRg1 (aCons (mVar 3) aNil)) (gmN 4) tTrue (mF 3 m_is_between (aCons (m2 gIx (mVar 2) (mVar 4)) (aCons (mC (.int 0)) (aCons (mVar 4) aNil))))) aNil)))))))
theorem ok_is_stand (hB : Blts mg) (hG : Globs mg K) (h : DefAt K mg "is_stand" s_is_stand ["thing"]) (c_is_between : Cal P w K mg base "is_between" 1 3 m_is_between) : Cal P w K mg base "is_stand" 2 1 m_is_stand := by
  have hN := sc_is_stand.nd
  exact Cal.of (k := 1) h sc_is_stand fun f cdv A outer s H E hr hgd => (nss_cons (ns_if (nt_w (nw_or (nt_not (nt_val (ne_isi (b_isinstance hB) (b_tuple hB) boot_tuple (by decide) (ne_var 0)))) (nw_or (nt_cmp (op_neE hr.units) neN (ne_callB call_len lenN (b_len hB) (na_cons (ne_var 0) na_nil)) ne_int (nomark _)) (nw_or1 (nt_not (nt_val (ne_callB (cr_all rfl) allN (b_all hB) (na_cons (ne_lc (own := [("hands", 5)]) rfl hN (ni_tup (ne_var 0)) (blkOk_by (N := N_is_stand) (sc := defScope s_is_stand) (by decide +kernel)) (fun _ _ _ _ _ => (ng_name (own := [5]) 5 (by decide) hN rfl (.inl rfl))) (fun _ _ _ _ _ => nts_nil) (fun _ _ _ _ _ => (ne_isi (b_isinstance hB) (b_list hB) boot_list (by decide) (ne_var 5)))) na_nil))))))))
    (nss_one (ns_ret ne_bl))
    nss_nil)
    (nss_cons (ns_asg (ne_var 0) (ng_sq rfl (ngs_cons (ng_name (own := [1, 2]) 1 (by decide) hN rfl (.inr rfl)) (ngs_cons (ng_name (own := [1, 2]) 2 (by decide) hN rfl (.inr rfl)) ngs_nil))))
    (nss_cons (ns_set 3 hN rfl (.inr rfl) (ne_callB call_len lenN (b_len hB) (na_cons (ne_var 1) na_nil)))
    (nss_cons (ns_if (nt_w (nw_or (nt_cmp op_lt ltN (ne_var 3) ne_int (nomark _)) (nw_or (nt_cmp (op_neE hr.units) neN (ne_callB call_len lenN (b_len hB) (na_cons (ne_var 2) na_nil)) (ne_var 3) (nomark _)) (nw_or1 (nt_not (nt_val (ne_callB (cr_all rfl) allN (b_all hB) (na_cons (ne_lc (own := [("i", 4)]) rfl hN (ni_range1 (b_range hB) (na_cons (ne_var 3) na_nil)) (blkOk_by (N := N_is_stand) (sc := defScope s_is_stand) (by decide +kernel)) (fun _ _ _ _ _ => (ng_name (own := [4]) 4 (by decide) hN rfl (.inl rfl))) (fun _ _ _ _ _ => nts_nil) (fun _ _ _ _ _ => (ne_cal c_is_between (hr.mono (by omega)) hgd passL (na_cons (ne_ix (ne_var 1) (ne_var 4)) (na_cons (ne_op op_addA addN (ne_var 4) ne_int) (na_cons (ne_var 3) na_nil)))))) na_nil))))))))
    (nss_one (ns_ret ne_bl))
    nss_nil)
    (nss_one (ns_ret (ne_callB (cr_all rfl) allN (b_all hB) (na_cons (ne_lc (own := [("i", 4)]) rfl hN (ni_range1 (b_range hB) (na_cons (ne_var 3) na_nil)) (blkOk_by (N := N_is_stand) (sc := defScope s_is_stand) (by decide +kernel)) (fun _ _ _ _ _ => (ng_name (own := [4]) 4 (by decide) hN rfl (.inl rfl))) (fun _ _ _ _ _ => nts_nil) (fun _ _ _ _ _ => (ne_cal c_is_between (hr.mono (by omega)) hgd passL (na_cons (ne_ix (ne_var 2) (ne_var 4)) (na_cons ne_int (na_cons (ne_var 4) na_nil)))))) na_nil))))))))
abbrev s_need_stand : Stmt := topS 17
abbrev N_need_stand : List Str := ["stand"]
theorem sc_need_stand : FnScope N_need_stand ["stand"] (defScope s_need_stand) := ⟨rfl, rfl, rfl, by decide +kernel, rfl, by decide +kernel, by decide +kernel⟩
noncomputable def m_need_stand : MF := runD 1 (sIf (tNotM (mT (mF 1 m_is_stand (aCons (mVar 0) aNil))))
  sNo
  sNil)
theorem ok_need_stand (hB : Blts mg) (hG : Globs mg K) (h : DefAt K mg "need_stand" s_need_stand ["stand"]) (c_is_stand : Cal P w K mg base "is_stand" 2 1 m_is_stand) : Cal P w K mg base "need_stand" 3 1 m_need_stand := by
  have hN := sc_need_stand.nd
  exact Cal.of (k := 2) h sc_need_stand fun f cdv A outer s H E hr hgd => (nss_one (ns_if (nt_not (nt_val (ne_cal c_is_stand (hr.mono (by omega)) hgd pass_cx (na_cons (ne_var 0) na_nil))))
    (nss_one ns_never)
    nss_nil))
abbrev s_copied : Stmt := topS 18
abbrev N_copied : List Str := ["stand"]
theorem sc_copied : FnScope N_copied ["stand"] (defScope s_copied) := ⟨rfl, rfl, rfl, by decide +kernel, rfl, by decide +kernel, by decide +kernel⟩
noncomputable def m_copied : MF := runD 1 (sRet (mTup (aCons (mCB (on1 (gList true)) (aCons (m2 gIx (mVar 0) (mC (.int 0))) aNil)) (aCons (mCB (on1 (gList true)) (aCons (m2 gIx (mVar 0) (mC (.int 1))) aNil)) aNil))))
theorem ok_copied (hB : Blts mg) (hG : Globs mg K) (h : DefAt K mg "copied" s_copied ["stand"]) : Cal P w K mg base "copied" 1 1 m_copied := by
  have hN := sc_copied.nd
  exact Cal.of (k := 0) h sc_copied fun f cdv A outer s H E hr hgd => (nss_one (ns_ret (ne_tup (na_cons (ne_callTy call_list_of listN (b_list hB) (na_cons (ne_ix (ne_var 0) ne_int) na_nil)) (na_cons (ne_callTy call_list_of listN (b_list hB) (na_cons (ne_ix (ne_var 0) ne_int) na_nil)) na_nil)))))
abbrev s_first_stand : Stmt := topS 56
abbrev N_first_stand : List Str := ["n", "stand"]
theorem sc_first_stand : FnScope N_first_stand ["n", "stand"] (defScope s_first_stand) := ⟨rfl, rfl, rfl, by decide +kernel, rfl, by decide +kernel, by decide +kernel⟩
noncomputable def m_first_stand : MF := runD 2 (sSeq (sIf (mT (m2 gEq (m2 gIs (mVar 0) (mC .non)) (m2 gIs (mVar 1) (mC .non))))
  sNo
  sNil)
  (sSeq (sIf (mT (m2 gIs (mVar 1) (mC .non)))
  (sRet (mF 1 m_whole (aCons (mVar 0) aNil)))
  sNil)
  (sSeq (sDrop (mF 1 m_need_stand (aCons (mVar 1) aNil)))
  (sRet (mF 1 m_copied (aCons (mVar 1) aNil))))))
theorem ok_first_stand (hB : Blts mg) (hG : Globs mg K) (h : DefAt K mg "first_stand" s_first_stand ["n", "stand"]) (c_need_stand : Cal P w K mg base "need_stand" 3 1 m_need_stand) (c_copied : Cal P w K mg base "copied" 1 1 m_copied) (c_whole : Cal P w K mg base "whole" 3 1 m_whole) : Cal P w K mg base "first_stand" 4 2 m_first_stand := by
  have hN := sc_first_stand.nd
  exact Cal.of (k := 3) h sc_first_stand fun f cdv A outer s H E hr hgd => (nss_cons (ns_if (nt_cmp (op_eqE hr.units) eqN (ne_cmp op_is2 isN2 (ne_var 0) ne_non (nomark _)) (ne_cmp op_is2 isN2 (ne_var 1) ne_non (nomark _)) (nomark _))
    (nss_one ns_never)
    nss_nil)
    (nss_cons (ns_if (nt_cmp op_is2 isN2 (ne_var 1) ne_non (nomark _))
    (nss_one (ns_ret (ne_cal c_whole (hr.mono (by omega)) hgd pass_cx (na_cons (ne_var 0) na_nil))))
    nss_nil)
    (nss_cons (ns_expr (ne_cal c_need_stand (hr.mono (by omega)) hgd pass_cx (na_cons (ne_var 1) na_nil)))
    (nss_one (ns_ret (ne_cal c_copied (hr.mono (by omega)) hgd pass_cx (na_cons (ne_var 1) na_nil)))))))
abbrev s_Ring____init__ : Stmt := bodyS 57 0
abbrev N_Ring____init__ : List Str := ["self", "n", "stand"]
theorem sc_Ring____init__ : FnScope N_Ring____init__ ["self", "n", "stand"] (defScope s_Ring____init__) := ⟨rfl, rfl, rfl, by decide +kernel, rfl, by decide +kernel, by decide +kernel⟩
noncomputable def m_Ring____init__ : MF := runK 3 (sSeq (sFld "Ring" "stand_held" (mVar 0) (mFz 2 (mF 2 m_first_stand (aCons (mVar 1) (aCons (mVar 2) aNil)))))
  (sSeq (sFld "Ring" "done_held" (mVar 0) (mLst true aNil))
  (sFld "Ring" "back_held" (mVar 0) (mLst true aNil))))
abbrev s_Ring__history : Stmt := bodyS 57 15
abbrev N_Ring__history : List Str := ["self", "deed", "before"]
theorem sc_Ring__history : FnScope N_Ring__history ["self"] (defScope s_Ring__history) := ⟨rfl, rfl, rfl, by decide +kernel, rfl, by decide +kernel, by decide +kernel⟩
noncomputable def m_Ring__history : MF := runD 3 (sRet (mLc true [1, 2] (iLst (m1 (gFld "Ring" "done_held") (mVar 0))) (gmSq 2 (gmCons (gmN 1) (gmCons (gmN 2) gmNil))) tTrue (mVar 1)))
theorem ok_Ring__history (hB : Blts mg) (hG : Globs mg K) (h : DefAtM K "Ring" "history" "Ring.history" s_Ring__history ["self"]) (cl_Ring : ClsAt K "Ring") (nf_Ring_done_held : NoAt K "Ring" "done_held") : CalM P w K mg base "Ring" "history" 1 1 m_Ring__history := by
  have hN := sc_Ring__history.nd
  exact CalM.of (k := 0) h sc_Ring__history fun f cdv A outer s H E hr hgd => (nss_one (ns_ret (ne_lc (own := [("deed", 1), ("before", 2)]) rfl hN (ni_list (ne_fld cl_Ring nf_Ring_done_held (ne_var 0))) (blkOk_by (N := N_Ring__history) (sc := defScope s_Ring__history) (by decide +kernel)) (fun _ _ _ _ _ => (ng_sq rfl (ngs_cons (ng_name (own := [1, 2]) 1 (by decide) hN rfl (.inl rfl)) (ngs_cons (ng_name (own := [1, 2]) 2 (by decide) hN rfl (.inl rfl)) ngs_nil)))) (fun _ _ _ _ _ => nts_nil) (fun _ _ _ _ _ => (ne_var 1)))))
abbrev s_Ring__twin : Stmt := bodyS 57 16
abbrev N_Ring__twin : List Str := ["self", "found"]
theorem sc_Ring__twin : FnScope N_Ring__twin ["self"] (defScope s_Ring__twin) := ⟨rfl, rfl, rfl, by decide +kernel, rfl, by decide +kernel, by decide +kernel⟩
noncomputable def m_Ring__twin : MF := runK 2 (sSeq (sAsg (mI "Ring" 3 0 1 1 0 m_Ring____init__ aNil (aCons (m1 (gFld "Ring" "stand_held") (mVar 0)) aNil)) (gmN 1))
  (sSeq (sDrop (mMt isL gExtend (m1 (gFld "Ring" "done_held") (mVar 1)) (aCons (m1 (gFld "Ring" "done_held") (mVar 0)) aNil)))
  (sSeq (sDrop (mMt isL gExtend (m1 (gFld "Ring" "back_held") (mVar 1)) (aCons (m1 (gFld "Ring" "back_held") (mVar 0)) aNil)))
  (sRet (mVar 1)))))
theorem ok_Ring__twin (hB : Blts mg) (hG : Globs mg K) (h : DefAtM K "Ring" "twin" "Ring.twin" s_Ring__twin ["self"]) (cI_Ring_0 : CalI P w K mg base "Ring" 5 3 0 ["stand"] 1 0 m_Ring____init__) (cl_Ring : ClsAt K "Ring") (nf_Ring_stand_held : NoAt K "Ring" "stand_held") (nf_Ring_done_held : NoAt K "Ring" "done_held") (nf_Ring_back_held : NoAt K "Ring" "back_held") : CalM P w K mg base "Ring" "twin" 7 1 m_Ring__twin := by
  have hN := sc_Ring__twin.nd
  exact CalM.ofK (k := 6) h sc_Ring__twin fun f cdv A outer s H E hr hgd => (nss_cons (ns_set 1 hN rfl (.inl rfl) (ne_makeK cI_Ring_0 (hr.mono (by omega)) hgd pass_cx (nk_cons (ne_fld cl_Ring nf_Ring_stand_held (ne_var 0)) nk_nil)))
    (nss_cons (ns_expr (ne_mt PySem.F.plainAttrs_list PySem.F.slot_list_extend PySem.F.type_list_extend mt_extend chk_list extendN (ne_fld cl_Ring nf_Ring_done_held (ne_var 1)) (na_cons (ne_fld cl_Ring nf_Ring_done_held (ne_var 0)) na_nil)))
    (nss_cons (ns_expr (ne_mt PySem.F.plainAttrs_list PySem.F.slot_list_extend PySem.F.type_list_extend mt_extend chk_list extendN (ne_fld cl_Ring nf_Ring_back_held (ne_var 1)) (na_cons (ne_fld cl_Ring nf_Ring_back_held (ne_var 0)) na_nil)))
    (nss_one (ns_ret (ne_var 1))))))
abbrev s_hands_by : Stmt := topS 34
abbrev N_hands_by : List Str := ["stand", "deed", "rights", "lefts", "word", "dancer", "ahead", "behind_it", "new"]
theorem sc_hands_by : FnScope N_hands_by ["stand", "deed"] (defScope s_hands_by) := ⟨rfl, rfl, rfl, by decide +kernel, rfl, by decide +kernel, by decide +kernel⟩
noncomputable def m_hands_by : MF := runD 9 (sSeq (sAsg (mVar 0) (gmSq 2 (gmCons (gmN 2) (gmCons (gmN 3) gmNil))))
  (sSeq (sAsg (mVar 1) (gmSq 2 (gmCons (gmN 4) (gmCons (gmN 5) gmNil))))
  (sSeq (sPar 6 7 (aCons (m2 gIx (mVar 3) (m2 gSub (mVar 5) (mC (.int 1)))) (aCons (m2 gIx (mVar 2) (mVar 5)) aNil)))
  (sSeq (sAsg (mIf (mT (m2 gEq (mVar 4) (mC k_GO))) (mTup (aCons (mVar 7) (aCons (mVar 6) aNil))) (mTup (aCons (mVar 5) (aCons (mVar 5) aNil)))) (gmN 8))
  (sRet (mLst true (aCons (mTup (aCons (mC k_RIGHT_deeds) (aCons (mVar 6) (aCons (mVar 6) (aCons (m2 gIx (mVar 8) (mC (.int 0))) aNil))))) (aCons (mTup (aCons (mC k_LEFT_deeds) (aCons (mVar 7) (aCons (m2 gSub (mVar 7) (mC (.int 1))) (aCons (m2 gIx (mVar 8) (mC (.int 1))) aNil))))) aNil))))))))
theorem ok_hands_by (hB : Blts mg) (hG : Globs mg K) (h : DefAt K mg "hands_by" s_hands_by ["stand", "deed"]) : Cal P w K mg base "hands_by" 1 2 m_hands_by := by
  have hN := sc_hands_by.nd
  exact Cal.of (k := 0) h sc_hands_by fun f cdv A outer s H E hr hgd => (nss_cons (ns_asg (ne_var 0) (ng_sq rfl (ngs_cons (ng_name (own := [2, 3]) 2 (by decide) hN rfl (.inl rfl)) (ngs_cons (ng_name (own := [2, 3]) 3 (by decide) hN rfl (.inl rfl)) ngs_nil))))
    (nss_cons (ns_asg (ne_var 1) (ng_sq rfl (ngs_cons (ng_name (own := [4, 5]) 4 (by decide) hN rfl (.inl rfl)) (ngs_cons (ng_name (own := [4, 5]) 5 (by decide) hN rfl (.inl rfl)) ngs_nil))))
    (nss_cons (ns_par 6 7 rfl hN rfl rfl (by decide) rfl rfl (na_cons (ne_ix (ne_var 3) (ne_op op_sub subN (ne_var 5) ne_int)) (na_cons (ne_ix (ne_var 2) (ne_var 5)) na_nil)) (by rfl))
    (nss_cons (ns_set 8 hN rfl (.inl rfl) (ne_if (nt_cmp (op_eqE hr.units) eqN (ne_var 4) (ne_glob (g_GO hG)) (nomark _)) (ne_tup (na_cons (ne_var 7) (na_cons (ne_var 6) na_nil))) (ne_tup (na_cons (ne_var 5) (na_cons (ne_var 5) na_nil)))))
    (nss_one (ns_ret (ne_lst (na_cons (ne_tup (na_cons (ne_glob (g_RIGHT_deeds hG)) (na_cons (ne_var 6) (na_cons (ne_var 6) (na_cons (ne_ix (ne_var 8) ne_int) na_nil))))) (na_cons (ne_tup (na_cons (ne_glob (g_LEFT_deeds hG)) (na_cons (ne_var 7) (na_cons (ne_op op_sub subN (ne_var 7) ne_int) (na_cons (ne_ix (ne_var 8) ne_int) na_nil))))) na_nil)))))))))
abbrev s_with_deed : Stmt := topS 35
abbrev N_with_deed : List Str := ["stand", "deed", "found", "side", "who", "place", "new"]
theorem sc_with_deed : FnScope N_with_deed ["stand", "deed"] (defScope s_with_deed) := ⟨rfl, rfl, rfl, by decide +kernel, rfl, by decide +kernel, by decide +kernel⟩
noncomputable def m_with_deed : MF := runD 7 (sSeq (sAsg (mF 1 m_copied (aCons (mVar 0) aNil)) (gmN 2))
  (sSeq (sFor (iLst (mFz 2 (mF 2 m_hands_by (aCons (mVar 0) (aCons (mVar 1) aNil))))) (gmSq 4 (gmCons (gmN 3) (gmCons (gmN 4) (gmCons (gmN 5) (gmCons (gmN 6) gmNil)))))
  (sAsg (mVar 6) (gmSub (m2 gIx (mVar 2) (mCB (on1 gInt) (aCons (m2 gEq (mVar 3) (mC k_LEFT_deeds)) aNil))) (mVar 5))))
  (sRet (mVar 2))))
theorem ok_with_deed (hB : Blts mg) (hG : Globs mg K) (h : DefAt K mg "with_deed" s_with_deed ["stand", "deed"]) (c_copied : Cal P w K mg base "copied" 1 1 m_copied) (c_hands_by : Cal P w K mg base "hands_by" 1 2 m_hands_by) : Cal P w K mg base "with_deed" 2 2 m_with_deed := by
  have hN := sc_with_deed.nd
  exact Cal.of (k := 1) h sc_with_deed fun f cdv A outer s H E hr hgd => (nss_cons (ns_set 2 hN rfl (.inl rfl) (ne_cal c_copied (hr.mono (by omega)) hgd pass_cx (na_cons (ne_var 0) na_nil)))
    (nss_cons (ns_for own_cx rfl (ni_list (ne_fz 2 (ne_cal c_hands_by (hr.mono (by omega)) hgd pass_cx (na_cons (ne_var 0) (na_cons (ne_var 1) na_nil))))) (ng_sq rfl (ngs_cons (ng_name (own := [3, 4, 5, 6]) 3 (by decide) hN rfl (.inl rfl)) (ngs_cons (ng_name (own := [3, 4, 5, 6]) 4 (by decide) hN rfl (.inl rfl)) (ngs_cons (ng_name (own := [3, 4, 5, 6]) 5 (by decide) hN rfl (.inl rfl)) (ngs_cons (ng_name (own := [3, 4, 5, 6]) 6 (by decide) hN rfl (.inl rfl)) ngs_nil)))))
    (nss_one (ns_asg (ne_var 6) (ng_sub (own := []) (ne_ix (ne_var 2) (ne_callTy call_int3 intN (b_int hB) (na_cons (ne_cmp (op_eqE hr.units) eqN (ne_var 3) (ne_glob (g_LEFT_deeds hG)) (nomark _)) na_nil))) (ne_var 5)))))
    (nss_one (ns_ret (ne_var 2)))))
abbrev s_Ring__put : Stmt := bodyS 57 3
abbrev N_Ring__put : List Str := ["self", "deed"]
theorem sc_Ring__put : FnScope N_Ring__put ["self", "deed"] (defScope s_Ring__put) := ⟨rfl, rfl, rfl, by decide +kernel, rfl, by decide +kernel, by decide +kernel⟩
noncomputable def m_Ring__put : MF := runK 2 (sSeq (sDrop (mMt isL gAppend (m1 (gFld "Ring" "done_held") (mVar 0)) (aCons (mTup (aCons (mVar 1) (aCons (m1 (gFld "Ring" "stand_held") (mVar 0)) aNil))) aNil)))
  (sFld "Ring" "stand_held" (mVar 0) (mFz 2 (mF 2 m_with_deed (aCons (m1 (gFld "Ring" "stand_held") (mVar 0)) (aCons (mVar 1) aNil))))))
theorem ok_Ring__put (hB : Blts mg) (hG : Globs mg K) (h : DefAtM K "Ring" "put" "Ring.put" s_Ring__put ["self", "deed"]) (c_with_deed : Cal P w K mg base "with_deed" 2 2 m_with_deed) (cl_Ring : ClsAt K "Ring") (nf_Ring_done_held : NoAt K "Ring" "done_held") (nf_Ring_stand_held : NoAt K "Ring" "stand_held") : CalM P w K mg base "Ring" "put" 3 2 m_Ring__put := by
  have hN := sc_Ring__put.nd
  exact CalM.ofK (k := 2) h sc_Ring__put fun f cdv A outer s H E hr hgd => (nss_cons (ns_expr (ne_mt PySem.F.plainAttrs_list PySem.F.slot_list_append PySem.F.type_list_append mt_append chk_list appendN (ne_fld cl_Ring nf_Ring_done_held (ne_var 0)) (na_cons (ne_tup (na_cons (ne_var 1) (na_cons (ne_fld cl_Ring nf_Ring_stand_held (ne_var 0)) na_nil))) na_nil)))
    (nss_one (ns_fld cl_Ring nf_Ring_stand_held (ne_var 0) (ne_fz 2 (ne_cal c_with_deed (hr.mono (by omega)) hgd pass_cx (na_cons (ne_fld cl_Ring nf_Ring_stand_held (ne_var 0)) (na_cons (ne_var 1) na_nil)))))))
abbrev s_is_deed : Stmt := topS 31
abbrev N_is_deed : List Str := ["thing", "most", "dancer"]
theorem sc_is_deed : FnScope N_is_deed ["thing", "most"] (defScope s_is_deed) := ⟨rfl, rfl, rfl, by decide +kernel, rfl, by decide +kernel, by decide +kernel⟩
noncomputable def m_is_deed : MF := runD 3 (sSeq (sIf (tOrM (tNotM (mT (m1 (gIsi "tuple") (mVar 0)))) (tOrM (mT (m2 gNe (mCB (on1 gLen) (aCons (mVar 0) aNil)) (mC (.int 2)))) (tOrM (tNotM (mT (m1 (gIsi "str") (m2 gIx (mVar 0) (mC (.int 0)))))) (mT (m2 (gIn true) (m2 gIx (mVar 0) (mC (.int 0))) (mC k_WORDS))))))
  (sRet (mC (.bl false)))
  sNil)
  (sSeq (sAsg (m2 gIx (mVar 0) (mC (.int 1))) (gmN 2))
  (sRet (mF 3 m_is_between (aCons (mVar 2) (aCons (mC k_LEAST_DANCER) (aCons (mIf (mT (m2 gIs (mVar 1) (mC .non))) (mVar 2) (mVar 1)) aNil)))))))
theorem ok_is_deed (hB : Blts mg) (hG : Globs mg K) (h : DefAt K mg "is_deed" s_is_deed ["thing", "most"]) (c_is_between : Cal P w K mg base "is_between" 1 3 m_is_between) : Cal P w K mg base "is_deed" 2 2 m_is_deed := by
  have hN := sc_is_deed.nd
  exact Cal.of (k := 1) h sc_is_deed fun f cdv A outer s H E hr hgd => (nss_cons (ns_if (nt_w (nw_or (nt_not (nt_val (ne_isi (b_isinstance hB) (b_tuple hB) boot_tuple (by decide) (ne_var 0)))) (nw_or (nt_cmp (op_neE hr.units) neN (ne_callB call_len lenN (b_len hB) (na_cons (ne_var 0) na_nil)) ne_int (nomark _)) (nw_or (nt_not (nt_val (ne_isi (b_isinstance hB) (b_str hB) boot_str (by decide) (ne_ix (ne_var 0) ne_int)))) (nw_or1 (nt_cmp op_notIn_seq inN (ne_ix (ne_var 0) ne_int) (ne_glob (g_WORDS hG)) (by rfl)))))))
    (nss_one (ns_ret ne_bl))
    nss_nil)
    (nss_cons (ns_set 2 hN rfl (.inl rfl) (ne_ix (ne_var 0) ne_int))
    (nss_one (ns_ret (ne_cal c_is_between (hr.mono (by omega)) hgd pass_cx (na_cons (ne_var 2) (na_cons (ne_glob (g_LEAST_DANCER hG)) (na_cons (ne_if (nt_cmp op_is2 isN2 (ne_var 1) ne_non (nomark _)) (ne_var 2) (ne_var 1)) na_nil))))))))
abbrev s_dancers_of : Stmt := topS 33
abbrev N_dancers_of : List Str := ["stand"]
theorem sc_dancers_of : FnScope N_dancers_of ["stand"] (defScope s_dancers_of) := ⟨rfl, rfl, rfl, by decide +kernel, rfl, by decide +kernel, by decide +kernel⟩
noncomputable def m_dancers_of : MF := runD 1 (sRet (m2 gSub (mCB (on1 gLen) (aCons (m2 gIx (mVar 0) (mC (.int 0))) aNil)) (mC (.int 1))))
theorem ok_dancers_of (hB : Blts mg) (hG : Globs mg K) (h : DefAt K mg "dancers_of" s_dancers_of ["stand"]) : Cal P w K mg base "dancers_of" 1 1 m_dancers_of := by
  have hN := sc_dancers_of.nd
  exact Cal.of (k := 0) h sc_dancers_of fun f cdv A outer s H E hr hgd => (nss_one (ns_ret (ne_op op_sub subN (ne_callB call_len lenN (b_len hB) (na_cons (ne_ix (ne_var 0) ne_int) na_nil)) ne_int)))
abbrev s_Ring__did : Stmt := bodyS 57 4
abbrev N_Ring__did : List Str := ["self", "word", "dancer"]
theorem sc_Ring__did : FnScope N_Ring__did ["self", "word", "dancer"] (defScope s_Ring__did) := ⟨rfl, rfl, rfl, by decide +kernel, rfl, by decide +kernel, by decide +kernel⟩
noncomputable def m_Ring__did : MF := runK 3 (sSeq (sIf (tNotM (mT (mF 2 m_is_deed (aCons (mTup (aCons (mVar 1) (aCons (mVar 2) aNil))) (aCons (mF 1 m_dancers_of (aCons (m1 (gFld "Ring" "stand_held") (mVar 0)) aNil)) aNil)))))
  sNo
  sNil)
  (sSeq (sDrop (mM "Ring" "put" 2 m_Ring__put (mVar 0) (aCons (mTup (aCons (mVar 1) (aCons (mVar 2) aNil))) aNil)))
  (sFld "Ring" "back_held" (mVar 0) (mLst true aNil))))
theorem ok_Ring__did (hB : Blts mg) (hG : Globs mg K) (h : DefAtM K "Ring" "did" "Ring.did" s_Ring__did ["self", "word", "dancer"]) (c_Ring__put : CalM P w K mg base "Ring" "put" 3 2 m_Ring__put) (c_is_deed : Cal P w K mg base "is_deed" 2 2 m_is_deed) (c_dancers_of : Cal P w K mg base "dancers_of" 1 1 m_dancers_of) (cl_Ring : ClsAt K "Ring") (nf_Ring_stand_held : NoAt K "Ring" "stand_held") (nf_Ring_back_held : NoAt K "Ring" "back_held") : CalM P w K mg base "Ring" "did" 4 3 m_Ring__did := by
  have hN := sc_Ring__did.nd
  exact CalM.ofK (k := 3) h sc_Ring__did fun f cdv A outer s H E hr hgd => (nss_cons (ns_if (nt_not (nt_val (ne_cal c_is_deed (hr.mono (by omega)) hgd pass_cx (na_cons (ne_tup (na_cons (ne_var 1) (na_cons (ne_var 2) na_nil))) (na_cons (ne_cal c_dancers_of (hr.mono (by omega)) hgd pass_cx (na_cons (ne_fld cl_Ring nf_Ring_stand_held (ne_var 0)) na_nil)) na_nil)))))
    (nss_one ns_never)
    nss_nil)
    (nss_cons (ns_expr (ne_meth c_Ring__put (hr.mono (by omega)) hgd pass_cx (ne_var 0) (na_cons (ne_tup (na_cons (ne_var 1) (na_cons (ne_var 2) na_nil))) na_nil)))
    (nss_one (ns_fld cl_Ring nf_Ring_back_held (ne_var 0) (ne_lst na_nil)))))
abbrev s_Ring__go : Stmt := bodyS 57 5
abbrev N_Ring__go : List Str := ["self", "x"]
theorem sc_Ring__go : FnScope N_Ring__go ["self", "x"] (defScope s_Ring__go) := ⟨rfl, rfl, rfl, by decide +kernel, rfl, by decide +kernel, by decide +kernel⟩
noncomputable def m_Ring__go : MF := runK 2 (sDrop (mM "Ring" "did" 3 m_Ring__did (mVar 0) (aCons (mC k_GO) (aCons (mVar 1) aNil))))
theorem ok_Ring__go (hB : Blts mg) (hG : Globs mg K) (h : DefAtM K "Ring" "go" "Ring.go" s_Ring__go ["self", "x"]) (c_Ring__did : CalM P w K mg base "Ring" "did" 4 3 m_Ring__did) : CalM P w K mg base "Ring" "go" 5 2 m_Ring__go := by
  have hN := sc_Ring__go.nd
  exact CalM.ofK (k := 4) h sc_Ring__go fun f cdv A outer s H E hr hgd => (nss_one (ns_expr (ne_meth c_Ring__did (hr.mono (by omega)) hgd pass_cx (ne_var 0) (na_cons (ne_glob (g_GO hG)) (na_cons (ne_var 1) na_nil)))))
abbrev s_Ring__come : Stmt := bodyS 57 6
abbrev N_Ring__come : List Str := ["self", "x"]
theorem sc_Ring__come : FnScope N_Ring__come ["self", "x"] (defScope s_Ring__come) := ⟨rfl, rfl, rfl, by decide +kernel, rfl, by decide +kernel, by decide +kernel⟩
noncomputable def m_Ring__come : MF := runK 2 (sDrop (mM "Ring" "did" 3 m_Ring__did (mVar 0) (aCons (mC k_COME_deeds) (aCons (mVar 1) aNil))))
theorem ok_Ring__come (hB : Blts mg) (hG : Globs mg K) (h : DefAtM K "Ring" "come" "Ring.come" s_Ring__come ["self", "x"]) (c_Ring__did : CalM P w K mg base "Ring" "did" 4 3 m_Ring__did) : CalM P w K mg base "Ring" "come" 5 2 m_Ring__come := by
  have hN := sc_Ring__come.nd
  exact CalM.ofK (k := 4) h sc_Ring__come fun f cdv A outer s H E hr hgd => (nss_one (ns_expr (ne_meth c_Ring__did (hr.mono (by omega)) hgd pass_cx (ne_var 0) (na_cons (ne_glob (g_COME_deeds hG)) (na_cons (ne_var 1) na_nil)))))
abbrev s__law_goes : Stmt := topS 64
abbrev N__law_goes : List Str := ["_law_ring", "_law_order_here", "_law_word", "_law_who"]
theorem sc__law_goes : FnScope N__law_goes ["_law_ring", "_law_order_here", "_law_word"] (defScope s__law_goes) := ⟨rfl, rfl, rfl, by decide +kernel, rfl, by decide +kernel, by decide +kernel⟩
noncomputable def m__law_goes : MF := runK 4 (sFor (iLst (mVar 1)) (gmN 3)
  (sIf (mT (m2 gEq (mVar 2) (mC (.str "go"))))
  (sDrop (mM "Ring" "go" 2 m_Ring__go (mVar 0) (aCons (mVar 3) aNil)))
  (sDrop (mM "Ring" "come" 2 m_Ring__come (mVar 0) (aCons (mVar 3) aNil)))))
theorem ok__law_goes (hB : Blts mg) (hG : Globs mg K) (h : DefAt K mg "_law_goes" s__law_goes ["_law_ring", "_law_order_here", "_law_word"]) (c_Ring__go : CalM P w K mg base "Ring" "go" 5 2 m_Ring__go) (c_Ring__come : CalM P w K mg base "Ring" "come" 5 2 m_Ring__come) : Cal P w K mg base "_law_goes" 6 3 m__law_goes := by
  have hN := sc__law_goes.nd
  exact Cal.ofK (k := 5) h sc__law_goes fun f cdv A outer s H E hr hgd => (nss_one (ns_for own_cx rfl (ni_list (ne_var 1)) (ng_name (own := [3]) 3 (by decide) hN rfl (.inl rfl))
    (nss_one (ns_if (nt_cmp (op_eqE hr.units) eqN (ne_var 2) ne_str (nomark _))
    (nss_one (ns_expr (ne_meth c_Ring__go (hr.mono (by omega)) hgd pass_cx (ne_var 0) (na_cons (ne_var 3) na_nil))))
    (nss_one (ns_expr (ne_meth c_Ring__come (hr.mono (by omega)) hgd pass_cx (ne_var 0) (na_cons (ne_var 3) na_nil))))))))
abbrev s__law_pull : Stmt := topS 60
abbrev N__law_pull : List Str := ["_law_jar_here", "_law_count", "_law_found"]
theorem sc__law_pull : FnScope N__law_pull ["_law_jar_here", "_law_count"] (defScope s__law_pull) := ⟨rfl, rfl, rfl, by decide +kernel, rfl, by decide +kernel, by decide +kernel⟩
noncomputable def m__law_pull : MF := runD 3 (sSeq (sIf (mT (m2 gGt (m2 gIx (mVar 0) (mC (.int 0))) (mC (.int 0))))
  (sSeq (sAsg (m2 gMod (m2 gIx (mVar 0) (mC (.int 0))) (mVar 1)) (gmN 2))
  (sSeq (sAsg (m2 gDiv (m2 gIx (mVar 0) (mC (.int 0))) (mVar 1)) (gmSub (mVar 0) (mC (.int 0))))
  (sRet (mVar 2))))
  sNil)
  (sSeq (sAsg (m2 (gAdd false) (m2 gIx (mVar 0) (mC (.int 2))) (mC (.int 1))) (gmSub (mVar 0) (mC (.int 2))))
  (sSeq (sAsg (m2 gMod (m2 (gAdd false) (m2 (gAdd false) (m2 gPow (m2 gIx (mVar 0) (mC (.int 1))) (mC (.int 3))) (m2 gMul (mC (.int 362880007)) (m2 gIx (mVar 0) (mC (.int 2))))) (mC (.int 5))) (m2 (gAdd false) (m2 gPow (mC (.int 10)) (mC (.int 33))) (mC (.int 61)))) (gmSub (mVar 0) (mC (.int 1))))
  (sRet (m2 gMod (m2 gDiv (m2 gIx (mVar 0) (mC (.int 1))) (m2 gPow (mC (.int 10)) (mC (.int 8)))) (mVar 1))))))
theorem ok__law_pull (hB : Blts mg) (hG : Globs mg K) (h : DefAt K mg "_law_pull" s__law_pull ["_law_jar_here", "_law_count"]) : Cal P w K mg base "_law_pull" 1 2 m__law_pull := by
  have hN := sc__law_pull.nd
  exact Cal.of (k := 0) h sc__law_pull fun f cdv A outer s H E hr hgd => (nss_cons (ns_if (nt_cmp op_gt gtN (ne_ix (ne_var 0) ne_int) ne_int (nomark _))
    (nss_cons (ns_set 2 hN rfl (.inl rfl) (ne_op op_mod modN (ne_ix (ne_var 0) ne_int) (ne_var 1)))
    (nss_cons (ns_asg (ne_op op_fdivW divN (ne_ix (ne_var 0) ne_int) (ne_var 1)) (ng_sub (own := []) (ne_var 0) ne_int))
    (nss_one (ns_ret (ne_var 2)))))
    nss_nil)
    (nss_cons (ns_asg (ne_op op_addA addN (ne_ix (ne_var 0) ne_int) ne_int) (ng_sub (own := []) (ne_var 0) ne_int))
    (nss_cons (ns_asg (ne_op op_mod modN (ne_op op_addA addN (ne_op op_addA addN (ne_op op_powW powN (ne_ix (ne_var 0) ne_int) ne_int) (ne_op op_mulA mulN ne_int (ne_ix (ne_var 0) ne_int))) ne_int) (ne_op op_addA addN (ne_op op_powW powN ne_int ne_int) ne_int)) (ng_sub (own := []) (ne_var 0) ne_int))
    (nss_one (ns_ret (ne_op op_mod modN (ne_op op_fdivW divN (ne_ix (ne_var 0) ne_int) (ne_op op_powW powN ne_int ne_int)) (ne_var 1)))))))
abbrev s__law_size : Stmt := topS 62
abbrev N__law_size : List Str := ["_law_jar_here", "_law_script", "_law_some"]
theorem sc__law_size : FnScope N__law_size ["_law_jar_here", "_law_script"] (defScope s__law_size) := ⟨rfl, rfl, rfl, by decide +kernel, rfl, by decide +kernel, by decide +kernel⟩
noncomputable def m__law_size : MF := runD 3 (sSeq (sIf (mT (m2 gEq (mVar 1) (mLst false aNil)))
  (sRet (m2 (gAdd true) (mC (.int 2)) (mF 2 m__law_pull (aCons (mVar 0) (aCons (mC (.int 2)) aNil)))))
  sNil)
  (sSeq (sAsg (mLst false (aCons (mC (.int 1)) (aCons (m2 (gAdd false) (mC (.int 1)) (mF 2 m__law_pull (aCons (mVar 0) (aCons (mC (.int 6)) aNil)))) (aCons (m2 (gAdd false) (mC (.int 1)) (mF 2 m__law_pull (aCons (mVar 0) (aCons (mC (.int 40)) aNil)))) (aCons (m2 gSub (mC (.int 200)) (mF 2 m__law_pull (aCons (mVar 0) (aCons (mC (.int 3)) aNil)))) (aCons (m2 (gAdd false) (mC (.int 41)) (mF 2 m__law_pull (aCons (mVar 0) (aCons (mC (.int 157)) aNil)))) aNil)))))) (gmN 2))
  (sRet (m2 gIx (mVar 2) (mF 2 m__law_pull (aCons (mVar 0) (aCons (mC (.int 5)) aNil)))))))
theorem ok__law_size (hB : Blts mg) (hG : Globs mg K) (h : DefAt K mg "_law_size" s__law_size ["_law_jar_here", "_law_script"]) (c__law_pull : Cal P w K mg base "_law_pull" 1 2 m__law_pull) : Cal P w K mg base "_law_size" 2 2 m__law_size := by
  have hN := sc__law_size.nd
  exact Cal.of (k := 1) h sc__law_size fun f cdv A outer s H E hr hgd => (nss_cons (ns_if (nt_cmp (op_eqE hr.units) eqN (ne_var 1) (ne_lst na_nil) (nomark _))
    (nss_one (ns_ret (ne_op op_addA addN ne_int (ne_cal c__law_pull (hr.mono (by omega)) hgd pass_cx (na_cons (ne_var 0) (na_cons ne_int na_nil))))))
    nss_nil)
    (nss_cons (ns_set 2 hN rfl (.inl rfl) (ne_lst (na_cons ne_int (na_cons (ne_op op_addA addN ne_int (ne_cal c__law_pull (hr.mono (by omega)) hgd pass_cx (na_cons (ne_var 0) (na_cons ne_int na_nil)))) (na_cons (ne_op op_addA addN ne_int (ne_cal c__law_pull (hr.mono (by omega)) hgd pass_cx (na_cons (ne_var 0) (na_cons ne_int na_nil)))) (na_cons (ne_op op_sub subN ne_int (ne_cal c__law_pull (hr.mono (by omega)) hgd pass_cx (na_cons (ne_var 0) (na_cons ne_int na_nil)))) (na_cons (ne_op op_addA addN ne_int (ne_cal c__law_pull (hr.mono (by omega)) hgd pass_cx (na_cons (ne_var 0) (na_cons ne_int na_nil)))) na_nil)))))))
    (nss_one (ns_ret (ne_ix (ne_var 2) (ne_cal c__law_pull (hr.mono (by omega)) hgd pass_cx (na_cons (ne_var 0) (na_cons ne_int na_nil))))))))
abbrev s_Ring__back : Stmt := bodyS 57 8
abbrev N_Ring__back : List Str := ["self", "deed", "before"]
theorem sc_Ring__back : FnScope N_Ring__back ["self"] (defScope s_Ring__back) := ⟨rfl, rfl, rfl, by decide +kernel, rfl, by decide +kernel, by decide +kernel⟩
noncomputable def m_Ring__back : MF := runK 3 (sSeq (sIf (mT (m2 gEq (m1 (gFld "Ring" "done_held") (mVar 0)) (mLst false aNil)))
  (sRaise0 "Nothing")
  sNil)
  (sSeq (sAsg (mMt0 isL gPop (m1 (gFld "Ring" "done_held") (mVar 0))) (gmSq 2 (gmCons (gmN 1) (gmCons (gmN 2) gmNil))))
  (sSeq (sDrop (mMt isL gAppend (m1 (gFld "Ring" "back_held") (mVar 0)) (aCons (mVar 1) aNil)))
  (sFld "Ring" "stand_held" (mVar 0) (mVar 2)))))
theorem ok_Ring__back (hB : Blts mg) (hG : Globs mg K) (h : DefAtM K "Ring" "back" "Ring.back" s_Ring__back ["self"]) (cl_Ring : ClsAt K "Ring") (nf_Ring_done_held : NoAt K "Ring" "done_held") (r_Nothing : Raise0 K mg "Nothing") (nf_Ring_back_held : NoAt K "Ring" "back_held") (nf_Ring_stand_held : NoAt K "Ring" "stand_held") : CalM P w K mg base "Ring" "back" 1 1 m_Ring__back := by
  have hN := sc_Ring__back.nd
  exact CalM.ofK (k := 0) h sc_Ring__back fun f cdv A outer s H E hr hgd => (nss_cons (ns_if (nt_cmp (op_eqE hr.units) eqN (ne_fld cl_Ring nf_Ring_done_held (ne_var 0)) (ne_lst na_nil) (nomark _))
    (nss_one (ns_raise0X r_Nothing rfl (takes_of rfl rfl rfl rfl)))
    nss_nil)
    (nss_cons (ns_asg (ne_mt0 PySem.F.plainAttrs_list PySem.F.slot_list_pop PySem.F.type_list_pop mt_pop2 chk_list popN (ne_fld cl_Ring nf_Ring_done_held (ne_var 0))) (ng_sq rfl (ngs_cons (ng_name (own := [1, 2]) 1 (by decide) hN rfl (.inl rfl)) (ngs_cons (ng_name (own := [1, 2]) 2 (by decide) hN rfl (.inl rfl)) ngs_nil))))
    (nss_cons (ns_expr (ne_mt PySem.F.plainAttrs_list PySem.F.slot_list_append PySem.F.type_list_append mt_append chk_list appendN (ne_fld cl_Ring nf_Ring_back_held (ne_var 0)) (na_cons (ne_var 1) na_nil)))
    (nss_one (ns_fld cl_Ring nf_Ring_stand_held (ne_var 0) (ne_var 2))))))
abbrev s_Ring____eq__ : Stmt := bodyS 57 2
abbrev N_Ring____eq__ : List Str := ["self", "other"]
theorem sc_Ring____eq__ : FnScope N_Ring____eq__ ["self", "other"] (defScope s_Ring____eq__) := ⟨rfl, rfl, rfl, by decide +kernel, rfl, by decide +kernel, by decide +kernel⟩
noncomputable def m_Ring____eq__ : MF := runD 2 (sRet (mAnd (m1 (gIsO "Ring") (mVar 1)) (m2 gEq (m1 (gFld "Ring" "stand_held") (mVar 0)) (m1 (gFld "Ring" "stand_held") (mVar 1)))))
theorem ok_Ring____eq__ (hB : Blts mg) (hG : Globs mg K) (h : DefAtM K "Ring" "__eq__" "Ring.__eq__" s_Ring____eq__ ["self", "other"]) (ow_Ring : OwnW K mg "Ring") (cl_Ring : ClsAt K "Ring") (nf_Ring_stand_held : NoAt K "Ring" "stand_held") : CalM P w K mg base "Ring" "__eq__" 1 2 m_Ring____eq__ := by
  have hN := sc_Ring____eq__.nd
  exact CalM.of (k := 0) h sc_Ring____eq__ fun f cdv A outer s H E hr hgd => (nss_one (ns_ret (ne_and (ne_isO ow_Ring (b_isinstance hB) (ne_var 1)) (ne_one (ne_cmp (op_eqE hr.units) eqN (ne_fld cl_Ring nf_Ring_stand_held (ne_var 0)) (ne_fld cl_Ring nf_Ring_stand_held (ne_var 1)) (nomark _))))))
abbrev s__law_order : Stmt := topS 63
abbrev N__law_order : List Str := ["_law_jar_here", "_law_size_here", "_law_left", "_law_count", "_law_k"]
theorem sc__law_order : FnScope N__law_order ["_law_jar_here", "_law_size_here"] (defScope s__law_order) := ⟨rfl, rfl, rfl, by decide +kernel, rfl, by decide +kernel, by decide +kernel⟩
noncomputable def m__law_order : MF := runD 5 (sSeq (sAsg (m2 (gRg true) (mC (.int 1)) (m2 (gAdd false) (mVar 1) (mC (.int 1)))) (gmN 2))
  (sSeq (sAsg (m2 gIx (mLst false (aCons (mVar 1) (aCons (m2 (gAdd false) (mC (.int 1)) (mF 2 m__law_pull (aCons (mVar 0) (aCons (mVar 1) aNil)))) (aCons (mCB (on2 gMin2) (aCons (mVar 1) (aCons (mC (.int 3)) aNil))) aNil)))) (mF 2 m__law_pull (aCons (mVar 0) (aCons (mC (.int 3)) aNil)))) (gmN 3))
  (sRet (mLc true [4] (iRg1 (aCons (mVar 3) aNil)) (gmN 4) tTrue (mMt isL gPop (mVar 2) (aCons (mF 2 m__law_pull (aCons (mVar 0) (aCons (mCB (on1 gLen) (aCons (mVar 2) aNil)) aNil))) aNil))))))
theorem ok__law_order (hB : Blts mg) (hG : Globs mg K) (h : DefAt K mg "_law_order" s__law_order ["_law_jar_here", "_law_size_here"]) (c__law_pull : Cal P w K mg base "_law_pull" 1 2 m__law_pull) : Cal P w K mg base "_law_order" 2 2 m__law_order := by
  have hN := sc__law_order.nd
  exact Cal.of (k := 1) h sc__law_order fun f cdv A outer s H E hr hgd => (nss_cons (ns_set 2 hN rfl (.inr rfl) (ne_listRg2 rfl (b_list hB) (b_range hB) ne_int (ne_op op_addA addN (ne_var 1) ne_int)))
    (nss_cons (ns_set 3 hN rfl (.inl rfl) (ne_ix (ne_lst (na_cons (ne_var 1) (na_cons (ne_op op_addA addN ne_int (ne_cal c__law_pull (hr.mono (by omega)) hgd pass_cx (na_cons (ne_var 0) (na_cons (ne_var 1) na_nil)))) (na_cons (ne_callB (call_min2 rfl) min2N (b_min hB) (na_cons (ne_var 1) (na_cons ne_int na_nil))) na_nil)))) (ne_cal c__law_pull (hr.mono (by omega)) hgd pass_cx (na_cons (ne_var 0) (na_cons ne_int na_nil)))))
    (nss_one (ns_ret (ne_lc (own := [("_law_k", 4)]) rfl hN (ni_range1 (b_range hB) (na_cons (ne_var 3) na_nil)) (blkOk_by (N := N__law_order) (sc := defScope s__law_order) (by decide +kernel)) (fun _ _ _ _ _ => (ng_name (own := [4]) 4 (by decide) hN rfl (.inl rfl))) (fun _ _ _ _ _ => nts_nil) (fun _ _ _ _ _ => (ne_mt PySem.F.plainAttrs_list PySem.F.slot_list_pop PySem.F.type_list_pop mt_pop2 chk_list popN (ne_var 2) (na_cons (ne_cal c__law_pull (hr.mono (by omega)) hgd passL (na_cons (ne_var 0) (na_cons (ne_callB call_len lenN (b_len hB) (na_cons (ne_var 2) na_nil)) na_nil))) na_nil))))))))
abbrev s_word_of : Stmt := topS 21
abbrev N_word_of : List Str := ["stand", "border", "rights", "lefts", "by_left", "by_right"]
theorem sc_word_of : FnScope N_word_of ["stand", "border"] (defScope s_word_of) := ⟨rfl, rfl, rfl, by decide +kernel, rfl, by decide +kernel, by decide +kernel⟩
noncomputable def m_word_of : MF := runD 6 (sSeq (sAsg (mVar 0) (gmSq 2 (gmCons (gmN 2) (gmCons (gmN 3) gmNil))))
  (sSeq (sPar 4 5 (aCons (m2 gEq (m2 gIx (mVar 2) (mVar 1)) (m2 (gAdd false) (mVar 1) (mC (.int 1)))) (aCons (m2 gEq (m2 gIx (mVar 3) (mVar 1)) (mVar 1)) aNil)))
  (sSeq (sIf (mT (mVar 4))
  (sRet (mIf (mT (mVar 5)) (mC k_HELD_stands) (mC k_LEFT_stands)))
  sNil)
  (sRet (mIf (mT (mVar 5)) (mC k_RIGHT_stands) (mC k_FORGOTTEN_stands))))))
theorem ok_word_of (hB : Blts mg) (hG : Globs mg K) (h : DefAt K mg "word_of" s_word_of ["stand", "border"]) : Cal P w K mg base "word_of" 1 2 m_word_of := by
  have hN := sc_word_of.nd
  exact Cal.of (k := 0) h sc_word_of fun f cdv A outer s H E hr hgd => (nss_cons (ns_asg (ne_var 0) (ng_sq rfl (ngs_cons (ng_name (own := [2, 3]) 2 (by decide) hN rfl (.inl rfl)) (ngs_cons (ng_name (own := [2, 3]) 3 (by decide) hN rfl (.inl rfl)) ngs_nil))))
    (nss_cons (ns_par 4 5 rfl hN rfl rfl (by decide) rfl rfl (na_cons (ne_cmp (op_eqE hr.units) eqN (ne_ix (ne_var 2) (ne_var 1)) (ne_op op_addA addN (ne_var 1) ne_int) (nomark _)) (na_cons (ne_cmp (op_eqE hr.units) eqN (ne_ix (ne_var 3) (ne_var 1)) (ne_var 1) (nomark _)) na_nil)) (by rfl))
    (nss_cons (ns_if (nt_val (ne_var 4))
    (nss_one (ns_ret (ne_if (nt_val (ne_var 5)) (ne_glob (g_HELD_stands hG)) (ne_glob (g_LEFT_stands hG)))))
    nss_nil)
    (nss_one (ns_ret (ne_if (nt_val (ne_var 5)) (ne_glob (g_RIGHT_stands hG)) (ne_glob (g_FORGOTTEN_stands hG))))))))
abbrev s_words : Stmt := topS 22
abbrev N_words : List Str := ["stand", "border"]
theorem sc_words : FnScope N_words ["stand"] (defScope s_words) := ⟨rfl, rfl, rfl, by decide +kernel, rfl, by decide +kernel, by decide +kernel⟩
noncomputable def m_words : MF := runD 2 (sSeq (sDrop (mF 1 m_need_stand (aCons (mVar 0) aNil)))
  (sRet (mLc true [1] (iRg1 (aCons (mCB (on1 gLen) (aCons (m2 gIx (mVar 0) (mC (.int 0))) aNil)) aNil)) (gmN 1) tTrue (mF 2 m_word_of (aCons (mVar 0) (aCons (mVar 1) aNil))))))
theorem ok_words (hB : Blts mg) (hG : Globs mg K) (h : DefAt K mg "words" s_words ["stand"]) (c_need_stand : Cal P w K mg base "need_stand" 3 1 m_need_stand) (c_word_of : Cal P w K mg base "word_of" 1 2 m_word_of) : Cal P w K mg base "words" 4 1 m_words := by
  have hN := sc_words.nd
  exact Cal.of (k := 3) h sc_words fun f cdv A outer s H E hr hgd => (nss_cons (ns_expr (ne_cal c_need_stand (hr.mono (by omega)) hgd pass_cx (na_cons (ne_var 0) na_nil)))
    (nss_one (ns_ret (ne_lc (own := [("border", 1)]) rfl hN (ni_range1 (b_range hB) (na_cons (ne_callB call_len lenN (b_len hB) (na_cons (ne_ix (ne_var 0) ne_int) na_nil)) na_nil)) (blkOk_by (N := N_words) (sc := defScope s_words) (by decide +kernel)) (fun _ _ _ _ _ => (ng_name (own := [1]) 1 (by decide) hN rfl (.inl rfl))) (fun _ _ _ _ _ => nts_nil) (fun _ _ _ _ _ => (ne_cal c_word_of (hr.mono (by omega)) hgd passL (na_cons (ne_var 0) (na_cons (ne_var 1) na_nil))))))))
theorem ok_words_stands (h : mg "words_stands" = mg "words") (c : Cal P w K mg base "words" 4 1 m_words) : Cal P w K mg base "words_stands" 4 1 m_words := c.also h
abbrev s_owners_in : Stmt := topS 43
abbrev N_owners_in : List Str := ["told", "border", "word"]
theorem sc_owners_in : FnScope N_owners_in ["told"] (defScope s_owners_in) := ⟨rfl, rfl, rfl, by decide +kernel, rfl, by decide +kernel, by decide +kernel⟩
noncomputable def m_owners_in : MF := runD 3 (sRet (mLc true [1, 2] (iEn (aCons (mVar 0) aNil)) (gmSq 2 (gmCons (gmN 1) (gmCons (gmN 2) gmNil))) (mT (m2 gNe (mVar 2) (mC k_HELD_mending))) (mTup (aCons (mVar 1) (aCons (m2 (gAdd false) (mVar 1) (mCB (on1 gInt) (aCons (m2 gNe (mVar 2) (mC k_LEFT_mending)) aNil))) aNil)))))
theorem ok_owners_in (hB : Blts mg) (hG : Globs mg K) (h : DefAt K mg "owners_in" s_owners_in ["told"]) : Cal P w K mg base "owners_in" 1 1 m_owners_in := by
  have hN := sc_owners_in.nd
  exact Cal.of (k := 0) h sc_owners_in fun f cdv A outer s H E hr hgd => (nss_one (ns_ret (ne_lc (own := [("border", 1), ("word", 2)]) rfl hN (ni_enum (b_enumerate hB) (na_cons (ne_var 0) na_nil)) (blkOk_by (N := N_owners_in) (sc := defScope s_owners_in) (by decide +kernel)) (fun _ _ _ _ _ => (ng_sq rfl (ngs_cons (ng_name (own := [1, 2]) 1 (by decide) hN rfl (.inl rfl)) (ngs_cons (ng_name (own := [1, 2]) 2 (by decide) hN rfl (.inl rfl)) ngs_nil)))) (fun _ _ _ _ _ => (nts_one (nt_cmp (op_neE hr.units) neN (ne_var 2) (ne_glob (g_HELD_mending hG)) (nomark _)))) (fun _ _ _ _ _ => (ne_tup (na_cons (ne_var 1) (na_cons (ne_op op_addA addN (ne_var 1) (ne_callTy call_int3 intN (b_int hB) (na_cons (ne_cmp (op_neE hr.units) neN (ne_var 2) (ne_glob (g_LEFT_mending hG)) (nomark _)) na_nil))) na_nil)))))))
abbrev s_fewest : Stmt := topS 47
abbrev N_fewest : List Str := ["stand", "told", "border", "dancer"]
theorem sc_fewest : FnScope N_fewest ["stand"] (defScope s_fewest) := ⟨rfl, rfl, rfl, by decide +kernel, rfl, by decide +kernel, by decide +kernel⟩
noncomputable def m_fewest : MF := runD 4 (sSeq (sAsg (mFz 2 (mF 1 m_words (aCons (mVar 0) aNil))) (gmN 1))
  (sSeq (sIf (mT (m2 (gIn false) (mC k_FORGOTTEN_mending) (mVar 1)))
  (sRet (mC .non))
  sNil)
  (sRet (mSc gLenSc [2, 3] (iLst (mFz 2 (mF 1 m_owners_in (aCons (mVar 1) aNil)))) (gmSq 2 (gmCons (gmN 2) (gmCons (gmN 3) gmNil))) tTrue (mVar 3)))))
theorem ok_fewest (hB : Blts mg) (hG : Globs mg K) (h : DefAt K mg "fewest" s_fewest ["stand"]) (c_words_stands : Cal P w K mg base "words_stands" 4 1 m_words) (c_owners_in : Cal P w K mg base "owners_in" 1 1 m_owners_in) : Cal P w K mg base "fewest" 5 1 m_fewest := by
  have hN := sc_fewest.nd
  exact Cal.of (k := 4) h sc_fewest fun f cdv A outer s H E hr hgd => (nss_cons (ns_set 1 hN rfl (.inl rfl) (ne_fz 2 (ne_cal c_words_stands (hr.mono (by omega)) hgd pass_cx (na_cons (ne_var 0) na_nil))))
    (nss_cons (ns_if (nt_cmp op_in_seq inN (ne_glob (g_FORGOTTEN_mending hG)) (ne_var 1) (by rfl))
    (nss_one (ns_ret ne_non))
    nss_nil)
    (nss_one (ns_ret (ne_lenSc (own := [("border", 2), ("dancer", 3)]) (b_len hB) rfl hN (ni_list (ne_fz 2 (ne_cal c_owners_in (hr.mono (by omega)) hgd pass_cx (na_cons (ne_var 1) na_nil)))) (blkOk_by (N := N_fewest) (sc := defScope s_fewest) (by decide +kernel)) (fun _ _ _ _ _ => (ng_sq rfl (ngs_cons (ng_name (own := [2, 3]) 2 (by decide) hN rfl (.inl rfl)) (ngs_cons (ng_name (own := [2, 3]) 3 (by decide) hN rfl (.inl rfl)) ngs_nil)))) (fun _ _ _ _ _ => nts_nil) (fun _ _ _ _ _ => (ne_var 3)))))))
theorem ok_fewest_mending (h : mg "fewest_mending" = mg "fewest") (c : Cal P w K mg base "fewest" 5 1 m_fewest) : Cal P w K mg base "fewest_mending" 5 1 m_fewest := c.also h
abbrev s_Ring__fewest : Stmt := bodyS 57 12
abbrev N_Ring__fewest : List Str := ["self"]
theorem sc_Ring__fewest : FnScope N_Ring__fewest ["self"] (defScope s_Ring__fewest) := ⟨rfl, rfl, rfl, by decide +kernel, rfl, by decide +kernel, by decide +kernel⟩
noncomputable def m_Ring__fewest : MF := runD 1 (sRet (mF 1 m_fewest (aCons (m1 (gFld "Ring" "stand_held") (mVar 0)) aNil)))
theorem ok_Ring__fewest (hB : Blts mg) (hG : Globs mg K) (h : DefAtM K "Ring" "fewest" "Ring.fewest" s_Ring__fewest ["self"]) (c_fewest_mending : Cal P w K mg base "fewest_mending" 5 1 m_fewest) (cl_Ring : ClsAt K "Ring") (nf_Ring_stand_held : NoAt K "Ring" "stand_held") : CalM P w K mg base "Ring" "fewest" 6 1 m_Ring__fewest := by
  have hN := sc_Ring__fewest.nd
  exact CalM.of (k := 5) h sc_Ring__fewest fun f cdv A outer s H E hr hgd => (nss_one (ns_ret (ne_cal c_fewest_mending (hr.mono (by omega)) hgd pass_cx (na_cons (ne_fld cl_Ring nf_Ring_stand_held (ne_var 0)) na_nil))))
abbrev s_Ring____len__ : Stmt := bodyS 57 1
abbrev N_Ring____len__ : List Str := ["self"]
theorem sc_Ring____len__ : FnScope N_Ring____len__ ["self"] (defScope s_Ring____len__) := ⟨rfl, rfl, rfl, by decide +kernel, rfl, by decide +kernel, by decide +kernel⟩
noncomputable def m_Ring____len__ : MF := runD 1 (sRet (mCB (on1 gLen) (aCons (m1 (gFld "Ring" "done_held") (mVar 0)) aNil)))
theorem ok_Ring____len__ (hB : Blts mg) (hG : Globs mg K) (h : DefAtM K "Ring" "__len__" "Ring.__len__" s_Ring____len__ ["self"]) (cl_Ring : ClsAt K "Ring") (nf_Ring_done_held : NoAt K "Ring" "done_held") : CalM P w K mg base "Ring" "__len__" 1 1 m_Ring____len__ := by
  have hN := sc_Ring____len__.nd
  exact CalM.of (k := 0) h sc_Ring____len__ fun f cdv A outer s H E hr hgd => (nss_one (ns_ret (ne_callB call_len lenN (b_len hB) (na_cons (ne_fld cl_Ring nf_Ring_done_held (ne_var 0)) na_nil))))
abbrev s_need_known : Stmt := topS 42
abbrev N_need_known : List Str := ["stand", "told"]
theorem sc_need_known : FnScope N_need_known ["stand"] (defScope s_need_known) := ⟨rfl, rfl, rfl, by decide +kernel, rfl, by decide +kernel, by decide +kernel⟩
noncomputable def m_need_known : MF := runD 2 (sSeq (sAsg (mFz 2 (mF 1 m_words (aCons (mVar 0) aNil))) (gmN 1))
  (sSeq (sIf (mT (m2 (gIn false) (mC k_FORGOTTEN_mending) (mVar 1)))
  sNo
  sNil)
  (sRet (mVar 1))))
theorem ok_need_known (hB : Blts mg) (hG : Globs mg K) (h : DefAt K mg "need_known" s_need_known ["stand"]) (c_words_stands : Cal P w K mg base "words_stands" 4 1 m_words) : Cal P w K mg base "need_known" 5 1 m_need_known := by
  have hN := sc_need_known.nd
  exact Cal.of (k := 4) h sc_need_known fun f cdv A outer s H E hr hgd => (nss_cons (ns_set 1 hN rfl (.inl rfl) (ne_fz 2 (ne_cal c_words_stands (hr.mono (by omega)) hgd pass_cx (na_cons (ne_var 0) na_nil))))
    (nss_cons (ns_if (nt_cmp op_in_seq inN (ne_glob (g_FORGOTTEN_mending hG)) (ne_var 1) (by rfl))
    (nss_one ns_never)
    nss_nil)
    (nss_one (ns_ret (ne_var 1)))))
abbrev s_owners : Stmt := topS 44
abbrev N_owners : List Str := ["stand"]
theorem sc_owners : FnScope N_owners ["stand"] (defScope s_owners) := ⟨rfl, rfl, rfl, by decide +kernel, rfl, by decide +kernel, by decide +kernel⟩
noncomputable def m_owners : MF := runD 1 (sRet (mF 1 m_owners_in (aCons (mFz 2 (mF 1 m_need_known (aCons (mVar 0) aNil))) aNil)))
theorem ok_owners (hB : Blts mg) (hG : Globs mg K) (h : DefAt K mg "owners" s_owners ["stand"]) (c_owners_in : Cal P w K mg base "owners_in" 1 1 m_owners_in) (c_need_known : Cal P w K mg base "need_known" 5 1 m_need_known) : Cal P w K mg base "owners" 6 1 m_owners := by
  have hN := sc_owners.nd
  exact Cal.of (k := 5) h sc_owners fun f cdv A outer s H E hr hgd => (nss_one (ns_ret (ne_cal c_owners_in (hr.mono (by omega)) hgd pass_cx (na_cons (ne_fz 2 (ne_cal c_need_known (hr.mono (by omega)) hgd pass_cx (na_cons (ne_var 0) na_nil))) na_nil))))
abbrev s_is_sure : Stmt := topS 46
abbrev N_is_sure : List Str := ["stand", "dancer", "rights", "lefts"]
theorem sc_is_sure : FnScope N_is_sure ["stand", "dancer"] (defScope s_is_sure) := ⟨rfl, rfl, rfl, by decide +kernel, rfl, by decide +kernel, by decide +kernel⟩
noncomputable def m_is_sure : MF := runD 4 (sSeq (sAsg (mVar 0) (gmSq 2 (gmCons (gmN 2) (gmCons (gmN 3) gmNil))))
  (sRet (mAnd (m2 gEq (m2 gIx (mVar 2) (mVar 1)) (m2 (gAdd false) (mVar 1) (mC (.int 1)))) (m2 gEq (m2 gIx (mVar 3) (m2 gSub (mVar 1) (mC (.int 1)))) (m2 gSub (mVar 1) (mC (.int 1)))))))
theorem ok_is_sure (hB : Blts mg) (hG : Globs mg K) (h : DefAt K mg "is_sure" s_is_sure ["stand", "dancer"]) : Cal P w K mg base "is_sure" 1 2 m_is_sure := by
  have hN := sc_is_sure.nd
  exact Cal.of (k := 0) h sc_is_sure fun f cdv A outer s H E hr hgd => (nss_cons (ns_asg (ne_var 0) (ng_sq rfl (ngs_cons (ng_name (own := [2, 3]) 2 (by decide) hN rfl (.inl rfl)) (ngs_cons (ng_name (own := [2, 3]) 3 (by decide) hN rfl (.inl rfl)) ngs_nil))))
    (nss_one (ns_ret (ne_and (ne_cmp (op_eqE hr.units) eqN (ne_ix (ne_var 2) (ne_var 1)) (ne_op op_addA addN (ne_var 1) ne_int) (nomark _)) (ne_one (ne_cmp (op_eqE hr.units) eqN (ne_ix (ne_var 3) (ne_op op_sub subN (ne_var 1) ne_int)) (ne_op op_sub subN (ne_var 1) ne_int) (nomark _)))))))
abbrev s_waits : Stmt := topS 49
abbrev N_waits : List Str := ["stand", "found", "border", "dancer"]
theorem sc_waits : FnScope N_waits ["stand"] (defScope s_waits) := ⟨rfl, rfl, rfl, by decide +kernel, rfl, by decide +kernel, by decide +kernel⟩
noncomputable def m_waits : MF := runD 4 (sSeq (sAsg (mLst true aNil) (gmN 1))
  (sSeq (sFor (iLst (mFz 2 (mF 1 m_owners (aCons (mVar 0) aNil)))) (gmSq 2 (gmCons (gmN 2) (gmCons (gmN 3) gmNil)))
  (sIf (tNotM (mT (mF 2 m_is_sure (aCons (mVar 0) (aCons (mVar 3) aNil)))))
  (sDrop (mMt isL gAppend (mVar 1) (aCons (mTup (aCons (mVar 3) (aCons (mIf (mT (m2 gEq (mVar 2) (mVar 3))) (m2 gSub (mVar 3) (mC (.int 1))) (m2 (gAdd false) (mVar 3) (mC (.int 1)))) aNil))) aNil)))
  sNil))
  (sRet (mVar 1))))
theorem ok_waits (hB : Blts mg) (hG : Globs mg K) (h : DefAt K mg "waits" s_waits ["stand"]) (c_owners : Cal P w K mg base "owners" 6 1 m_owners) (c_is_sure : Cal P w K mg base "is_sure" 1 2 m_is_sure) : Cal P w K mg base "waits" 7 1 m_waits := by
  have hN := sc_waits.nd
  exact Cal.of (k := 6) h sc_waits fun f cdv A outer s H E hr hgd => (nss_cons (ns_set 1 hN rfl (.inl rfl) (ne_lst na_nil))
    (nss_cons (ns_for own_cx rfl (ni_list (ne_fz 2 (ne_cal c_owners (hr.mono (by omega)) hgd pass_cx (na_cons (ne_var 0) na_nil)))) (ng_sq rfl (ngs_cons (ng_name (own := [2, 3]) 2 (by decide) hN rfl (.inl rfl)) (ngs_cons (ng_name (own := [2, 3]) 3 (by decide) hN rfl (.inl rfl)) ngs_nil)))
    (nss_one (ns_if (nt_not (nt_val (ne_cal c_is_sure (hr.mono (by omega)) hgd pass_cx (na_cons (ne_var 0) (na_cons (ne_var 3) na_nil)))))
    (nss_one (ns_expr (ne_mt PySem.F.plainAttrs_list PySem.F.slot_list_append PySem.F.type_list_append mt_append chk_list appendN (ne_var 1) (na_cons (ne_tup (na_cons (ne_var 3) (na_cons (ne_if (nt_cmp (op_eqE hr.units) eqN (ne_var 2) (ne_var 3) (nomark _)) (ne_op op_sub subN (ne_var 3) ne_int) (ne_op op_addA addN (ne_var 3) ne_int)) na_nil))) na_nil))))
    nss_nil)))
    (nss_one (ns_ret (ne_var 1)))))
abbrev s_unlike_owners : Stmt := topS 45
abbrev N_unlike_owners : List Str := ["stand", "border", "dancer"]
theorem sc_unlike_owners : FnScope N_unlike_owners ["stand"] (defScope s_unlike_owners) := ⟨rfl, rfl, rfl, by decide +kernel, rfl, by decide +kernel, by decide +kernel⟩
noncomputable def m_unlike_owners : MF := runD 3 (sRet (mSc (gSortSc true) [1, 2] (iLst (mFz 2 (mF 1 m_owners (aCons (mVar 0) aNil)))) (gmSq 2 (gmCons (gmN 1) (gmCons (gmN 2) gmNil))) tTrue (mVar 2)))
theorem ok_unlike_owners (hB : Blts mg) (hG : Globs mg K) (h : DefAt K mg "unlike_owners" s_unlike_owners ["stand"]) (c_owners : Cal P w K mg base "owners" 6 1 m_owners) : Cal P w K mg base "unlike_owners" 7 1 m_unlike_owners := by
  have hN := sc_unlike_owners.nd
  exact Cal.of (k := 6) h sc_unlike_owners fun f cdv A outer s H E hr hgd => (nss_one (ns_ret (ne_sortSc (own := [("border", 1), ("dancer", 2)]) (b_sorted hB) rfl hN (ni_list (ne_fz 2 (ne_cal c_owners (hr.mono (by omega)) hgd pass_cx (na_cons (ne_var 0) na_nil)))) (blkOk_by (N := N_unlike_owners) (sc := defScope s_unlike_owners) (by decide +kernel)) (fun _ _ _ _ _ => (ng_sq rfl (ngs_cons (ng_name (own := [1, 2]) 1 (by decide) hN rfl (.inl rfl)) (ngs_cons (ng_name (own := [1, 2]) 2 (by decide) hN rfl (.inl rfl)) ngs_nil)))) (fun _ _ _ _ _ => nts_nil) (fun _ _ _ _ _ => (ne_var 2)))))
abbrev s_burdens : Stmt := topS 50
abbrev N_burdens : List Str := ["stand", "ahead", "found", "dancer", "here"]
theorem sc_burdens : FnScope N_burdens ["stand"] (defScope s_burdens) := ⟨rfl, rfl, rfl, by decide +kernel, rfl, by decide +kernel, by decide +kernel⟩
noncomputable def m_burdens : MF := runD 5 (sSeq (sAsg (mCB (on1 gDictK) (aCons (mFz 2 (mF 1 m_waits (aCons (mVar 0) aNil))) aNil)) (gmN 1))
  (sSeq (sAsg (mDc [3] (iLst (mFz 2 (mF 1 m_unlike_owners (aCons (mVar 0) aNil)))) (gmN 3) tTrue (mVar 3) (mC (.int 0))) (gmN 2))
  (sSeq (sFor (iLst (mCB (on1 (gListDk false)) (aCons (mVar 2) aNil))) (gmN 3)
  (sSeq (sAsg (mVar 3) (gmN 4))
  (sSeq (sDAddK (mVar 2) (mVar 4) (mC (.int 1)))
  (whileM (mT (mDInK false (mVar 4) (mVar 1)))
  (sSeq (sAsg (mDGetK (mVar 1) (mVar 4)) (gmN 4))
  (sDAddK (mVar 2) (mVar 4) (mC (.int 1)))) 100000))))
  (sRet (mVar 2)))))
theorem ok_burdens (hB : Blts mg) (hG : Globs mg K) (h : DefAt K mg "burdens" s_burdens ["stand"]) (c_waits : Cal P w K mg base "waits" 7 1 m_waits) (c_unlike_owners : Cal P w K mg base "unlike_owners" 7 1 m_unlike_owners) : Cal P w K mg base "burdens" 8 1 m_burdens := by
  have hN := sc_burdens.nd
  exact Cal.of (k := 7) h sc_burdens fun f cdv A outer s H E hr hgd => (nss_cons (ns_set 1 hN rfl (.inl rfl) (ne_callTy (cr_dictK rfl) dictKN (b_dict hB) (na_cons (ne_fz 2 (ne_cal c_waits (hr.mono (by omega)) hgd pass_cx (na_cons (ne_var 0) na_nil))) na_nil)))
    (nss_cons (ns_setDc (own := [("dancer", 3)]) 2 rfl hN rfl rfl (sw_trueD rfl rfl rfl (by decide +kernel)) (ni_list (ne_fz 2 (ne_cal c_unlike_owners (hr.mono (by omega)) hgd pass_cx (na_cons (ne_var 0) na_nil)))) (blkOk_by (N := N_burdens) (sc := defScope s_burdens) (by decide +kernel)) (fun _ _ _ _ _ => (ng_name (own := [3]) 3 (by decide) hN rfl (.inl rfl))) (fun _ _ _ _ _ => nts_nil) (fun _ _ _ _ _ => (ne_var 3)) (fun _ _ _ _ _ => ne_int))
    (nss_cons (ns_for own_cx rfl (ni_list (ne_callTy (cr_listDk rfl) listDkN (b_list hB) (na_cons (ne_var 2) na_nil))) (ng_name (own := [3]) 3 (by decide) hN rfl (.inl rfl))
    (nss_cons (ns_set 4 hN rfl (.inl rfl) (ne_var 3))
    (nss_cons (ns_daddk hr.units (ne_var 2) (ne_var 4) ne_int)
    (nss_one (ns_while 100000 own_cx (nt_dinK hr.units (ne_var 4) (ne_var 1))
    (nss_cons (ns_set 4 hN rfl (.inl rfl) (ne_dgetK hr.units (ne_var 1) (ne_var 4)))
    (nss_one (ns_daddk hr.units (ne_var 2) (ne_var 4) ne_int))))))))
    (nss_one (ns_ret (ne_var 2))))))
abbrev s_counted_by : Stmt := topS 51
abbrev N_counted_by : List Str := ["numbers", "found", "many", "number"]
theorem sc_counted_by : FnScope N_counted_by ["numbers"] (defScope s_counted_by) := ⟨rfl, rfl, rfl, by decide +kernel, rfl, by decide +kernel, by decide +kernel⟩
noncomputable def m_counted_by : MF := runD 4 (sSeq (sAsg (mC (.int 1)) (gmN 1))
  (sSeq (sFor (iRg2 (aCons (mC (.int 1)) (aCons (m2 (gAdd false) (mCB (on1 gLen) (aCons (mVar 0) aNil)) (mC (.int 1))) aNil))) (gmN 2)
  (sAug 1 gMul (mVar 2)))
  (sSeq (sFor (iLst (mVar 0)) (gmN 3)
  (sAug 1 gDiv (mVar 3)))
  (sRet (mVar 1)))))
theorem ok_counted_by (hB : Blts mg) (hG : Globs mg K) (h : DefAt K mg "counted_by" s_counted_by ["numbers"]) : Cal P w K mg base "counted_by" 1 1 m_counted_by := by
  have hN := sc_counted_by.nd
  exact Cal.of (k := 0) h sc_counted_by fun f cdv A outer s H E hr hgd => (nss_cons (ns_set 1 hN rfl (.inl rfl) ne_int)
    (nss_cons (ns_for own_cx rfl (ni_range2 (b_range hB) (na_cons ne_int (na_cons (ne_op op_addA addN (ne_callB call_len lenN (b_len hB) (na_cons (ne_var 0) na_nil)) ne_int) na_nil))) (ng_name (own := [2]) 2 (by decide) hN rfl (.inl rfl))
    (nss_one (ns_aug 1 hN rfl (.inl rfl) (ne_var 2) ip_mulA mulN)))
    (nss_cons (ns_for own_cx rfl (ni_list (ne_var 0)) (ng_name (own := [3]) 3 (by decide) hN rfl (.inl rfl))
    (nss_one (ns_aug 1 hN rfl (.inl rfl) (ne_var 3) ip_divA divN)))
    (nss_one (ns_ret (ne_var 1))))))
abbrev s_next_at : Stmt := topS 52
abbrev N_next_at : List Str := ["shares", "number", "dancer", "share"]
theorem sc_next_at : FnScope N_next_at ["shares", "number"] (defScope s_next_at) := ⟨rfl, rfl, rfl, by decide +kernel, rfl, by decide +kernel, by decide +kernel⟩
noncomputable def m_next_at : MF := runD 4 (sSeq (sFor (iLst (mVar 0)) (gmSq 2 (gmCons (gmN 2) (gmCons (gmN 3) gmNil)))
  (sSeq (sIf (mT (m2 gLt (mVar 1) (mVar 3)))
  (sRet (mTup (aCons (mVar 2) (aCons (mVar 3) (aCons (mVar 1) aNil)))))
  sNil)
  (sAug 1 gSub (mVar 3))))
  sNo)
theorem ok_next_at (hB : Blts mg) (hG : Globs mg K) (h : DefAt K mg "next_at" s_next_at ["shares", "number"]) : Cal P w K mg base "next_at" 1 2 m_next_at := by
  have hN := sc_next_at.nd
  exact Cal.of (k := 0) h sc_next_at fun f cdv A outer s H E hr hgd => (nss_cons (ns_for own_cx rfl (ni_list (ne_var 0)) (ng_sq rfl (ngs_cons (ng_name (own := [2, 3]) 2 (by decide) hN rfl (.inl rfl)) (ngs_cons (ng_name (own := [2, 3]) 3 (by decide) hN rfl (.inl rfl)) ngs_nil)))
    (nss_cons (ns_if (nt_cmp op_lt ltN (ne_var 1) (ne_var 3) (nomark _))
    (nss_one (ns_ret (ne_tup (na_cons (ne_var 2) (na_cons (ne_var 3) (na_cons (ne_var 1) na_nil))))))
    nss_nil)
    (nss_one (ns_aug 1 hN rfl (.inl rfl) (ne_var 3) ip_sub subN))))
    (nss_one ns_never))
abbrev s_tidy_at : Stmt := topS 53
abbrev N_tidy_at : List Str := ["stand", "number", "heavy", "ahead", "many", "found", "left", "may_come", "shares", "dancer", "one"]
theorem sc_tidy_at : FnScope N_tidy_at ["stand", "number"] (defScope s_tidy_at) := ⟨rfl, rfl, rfl, by decide +kernel, rfl, by decide +kernel, by decide +kernel⟩
noncomputable def m_tidy_at : MF := runD 11 (sSeq (sAsg (mF 1 m_burdens (aCons (mVar 0) aNil)) (gmN 2))
  (sSeq (sAsg (mCB (on1 gDictK) (aCons (mFz 2 (mF 1 m_waits (aCons (mVar 0) aNil))) aNil)) (gmN 3))
  (sSeq (sAsg (mF 1 m_counted_by (aCons (mListVals false (mVar 2)) aNil)) (gmN 4))
  (sSeq (sAsg (mLst true aNil) (gmN 5))
  (sSeq (sAsg (mCB (on1 gDictC) (aCons (mVar 2) aNil)) (gmN 6))
  (sSeq (whileM (mT (m2 gNeDE (mVar 6) mDEmp))
  (sSeq (sLkS 2 (sAsg (mLc false [10] (iKey (mVar 2)) (gmN 10) (tAndM (mT (mDInK false (mVar 10) (mVar 6))) (mT (mDInQ true (mDGet1 (mVar 3) (mVar 10)) (mVar 6)))) (mVar 10)) (gmN 7)))
  (sSeq (sAsg (mLc false [10] (iLst (mVar 7)) (gmN 10) tTrue (mTup (aCons (mVar 10) (aCons (m2 gDiv (m2 gMul (mVar 4) (mDGetK (mVar 2) (mVar 10))) (mCB (on1 gLenK) (aCons (mVar 6) aNil))) aNil)))) (gmN 8))
  (sSeq (sAsg (mFz 2 (mF 2 m_next_at (aCons (mVar 8) (aCons (mVar 1) aNil)))) (gmSq 3 (gmCons (gmN 9) (gmCons (gmN 4) (gmCons (gmN 1) gmNil)))))
  (sSeq (sDrop (mMt isL gAppend (mVar 5) (aCons (mTup (aCons (mC k_COME_mending) (aCons (mVar 9) aNil))) aNil)))
  (sDrop (mDPop1 (mVar 6) (mVar 9))))))) 100000)
  (sRet (mVar 5))))))))
theorem ok_tidy_at (hB : Blts mg) (hG : Globs mg K) (h : DefAt K mg "tidy_at" s_tidy_at ["stand", "number"]) (c_burdens : Cal P w K mg base "burdens" 8 1 m_burdens) (c_counted_by : Cal P w K mg base "counted_by" 1 1 m_counted_by) (c_waits : Cal P w K mg base "waits" 7 1 m_waits) (c_next_at : Cal P w K mg base "next_at" 1 2 m_next_at) : Cal P w K mg base "tidy_at" 9 2 m_tidy_at := by
  have hN := sc_tidy_at.nd
  exact Cal.of (k := 8) h sc_tidy_at fun f cdv A outer s H E hr hgd => (nss_cons (ns_set 2 hN rfl (.inr rfl) (ne_cal c_burdens (hr.mono (by omega)) hgd pass_cx (na_cons (ne_var 0) na_nil)))
    (nss_cons (ns_set 3 hN rfl (.inr rfl) (ne_callTy (cr_dictK rfl) dictKN (b_dict hB) (na_cons (ne_fz 2 (ne_cal c_waits (hr.mono (by omega)) hgd pass_cx (na_cons (ne_var 0) na_nil))) na_nil)))
    (nss_cons (ns_set 4 hN rfl (.inr rfl) (ne_cal c_counted_by (hr.mono (by omega)) hgd pass_cx (na_cons (ne_listVals rfl (b_list hB) (ne_var 2)) na_nil)))
    (nss_cons (ns_set 5 hN rfl (.inl rfl) (ne_lst na_nil))
    (nss_cons (ns_set 6 hN rfl (.inr rfl) (ne_callTy cr_dictC dictCN (b_dict hB) (na_cons (ne_var 2) na_nil)))
    (nss_cons (ns_while 100000 own_cx (nt_cmp (op_neDE hr.units) neDEN (ne_var 6) ne_demp (nomark _))
    (nss_cons (ns_lkS 2 (ns_setLc (own := [("one", 10)]) 7 rfl hN rfl rfl (sw_true rfl rfl rfl (by decide +kernel)) (ni_keys (ne_var 2)) (blkOk_by (N := N_tidy_at) (sc := defScope s_tidy_at) (by decide +kernel)) (fun _ _ _ _ _ => (ng_name (own := [10]) 10 (by decide) hN rfl (.inl rfl))) (fun _ _ _ _ _ => (nts_one (nt_w (nw_and (nt_dinK hr.units (ne_var 10) (ne_var 6)) (nw_and1 (nt_dninQ hr.units (ne_dget1 hr.units (ne_var 3) (ne_var 10)) (ne_var 6))))))) (fun _ _ _ _ _ => (ne_var 10))))
    (nss_cons (ns_setLc (own := [("one", 10)]) 8 rfl hN rfl rfl (sw_true rfl rfl rfl (by decide +kernel)) (ni_list (ne_var 7)) (blkOk_by (N := N_tidy_at) (sc := defScope s_tidy_at) (by decide +kernel)) (fun _ _ _ _ _ => (ng_name (own := [10]) 10 (by decide) hN rfl (.inl rfl))) (fun _ _ _ _ _ => nts_nil) (fun _ _ _ _ _ => (ne_tup (na_cons (ne_var 10) (na_cons (ne_op op_fdivW divN (ne_op op_mulA mulN (ne_var 4) (ne_dgetK hr.units (ne_var 2) (ne_var 10))) (ne_callB call_lenD lenKN (b_len hB) (na_cons (ne_var 6) na_nil))) na_nil)))))
    (nss_cons (ns_asg (ne_fz 2 (ne_cal c_next_at (hr.mono (by omega)) hgd pass_cx (na_cons (ne_var 8) (na_cons (ne_var 1) na_nil)))) (ng_sq rfl (ngs_cons (ng_name (own := [9, 4, 1]) 9 (by decide) hN rfl (.inl rfl)) (ngs_cons (ng_name (own := [9, 4, 1]) 4 (by decide) hN rfl (.inr rfl)) (ngs_cons (ng_name (own := [9, 4, 1]) 1 (by decide) hN rfl (.inl rfl)) ngs_nil)))))
    (nss_cons (ns_expr (ne_mt PySem.F.plainAttrs_list PySem.F.slot_list_append PySem.F.type_list_append mt_append chk_list appendN (ne_var 5) (na_cons (ne_tup (na_cons (ne_glob (g_COME_mending hG)) (na_cons (ne_var 9) na_nil))) na_nil)))
    (nss_one (ns_expr (ne_dpop1 (ne_var 6) (ne_var 9)))))))))
    (nss_one (ns_ret (ne_var 5)))))))))
abbrev s_mending : Stmt := topS 54
abbrev N_mending : List Str := ["stand"]
theorem sc_mending : FnScope N_mending ["stand"] (defScope s_mending) := ⟨rfl, rfl, rfl, by decide +kernel, rfl, by decide +kernel, by decide +kernel⟩
noncomputable def m_mending : MF := runD 1 (sRet (mF 2 m_tidy_at (aCons (mVar 0) (aCons (mC (.int 0)) aNil))))
theorem ok_mending (hB : Blts mg) (hG : Globs mg K) (h : DefAt K mg "mending" s_mending ["stand"]) (c_tidy_at : Cal P w K mg base "tidy_at" 9 2 m_tidy_at) : Cal P w K mg base "mending" 10 1 m_mending := by
  have hN := sc_mending.nd
  exact Cal.of (k := 9) h sc_mending fun f cdv A outer s H E hr hgd => (nss_one (ns_ret (ne_cal c_tidy_at (hr.mono (by omega)) hgd pass_cx (na_cons (ne_var 0) (na_cons ne_int na_nil)))))
abbrev s_Ring__mend : Stmt := bodyS 57 7
abbrev N_Ring__mend : List Str := ["self", "deeds", "deed"]
theorem sc_Ring__mend : FnScope N_Ring__mend ["self"] (defScope s_Ring__mend) := ⟨rfl, rfl, rfl, by decide +kernel, rfl, by decide +kernel, by decide +kernel⟩
noncomputable def m_Ring__mend : MF := runK 3 (sSeq (sAsg (mFz 2 (mF 1 m_mending (aCons (m1 (gFld "Ring" "stand_held") (mVar 0)) aNil))) (gmN 1))
  (sSeq (sFor (iLst (mVar 1)) (gmN 2)
  (sSeq (sDrop (mM "Ring" "put" 2 m_Ring__put (mVar 0) (aCons (mVar 2) aNil)))
  (sFld "Ring" "back_held" (mVar 0) (mLst true aNil))))
  (sRet (mCB (on1 (gList true)) (aCons (mVar 1) aNil)))))
theorem ok_Ring__mend (hB : Blts mg) (hG : Globs mg K) (h : DefAtM K "Ring" "mend" "Ring.mend" s_Ring__mend ["self"]) (c_mending : Cal P w K mg base "mending" 10 1 m_mending) (c_Ring__put : CalM P w K mg base "Ring" "put" 3 2 m_Ring__put) (cl_Ring : ClsAt K "Ring") (nf_Ring_stand_held : NoAt K "Ring" "stand_held") (nf_Ring_back_held : NoAt K "Ring" "back_held") : CalM P w K mg base "Ring" "mend" 11 1 m_Ring__mend := by
  have hN := sc_Ring__mend.nd
  exact CalM.ofK (k := 10) h sc_Ring__mend fun f cdv A outer s H E hr hgd => (nss_cons (ns_set 1 hN rfl (.inl rfl) (ne_fz 2 (ne_cal c_mending (hr.mono (by omega)) hgd pass_cx (na_cons (ne_fld cl_Ring nf_Ring_stand_held (ne_var 0)) na_nil))))
    (nss_cons (ns_for own_cx rfl (ni_list (ne_var 1)) (ng_name (own := [2]) 2 (by decide) hN rfl (.inl rfl))
    (nss_cons (ns_expr (ne_meth c_Ring__put (hr.mono (by omega)) hgd pass_cx (ne_var 0) (na_cons (ne_var 2) na_nil)))
    (nss_one (ns_fld cl_Ring nf_Ring_back_held (ne_var 0) (ne_lst na_nil)))))
    (nss_one (ns_ret (ne_callTy call_list_of listN (b_list hB) (na_cons (ne_var 1) na_nil))))))
abbrev s_Ring__stand : Stmt := bodyS 57 10
abbrev N_Ring__stand : List Str := ["self"]
theorem sc_Ring__stand : FnScope N_Ring__stand ["self"] (defScope s_Ring__stand) := ⟨rfl, rfl, rfl, by decide +kernel, rfl, by decide +kernel, by decide +kernel⟩
noncomputable def m_Ring__stand : MF := runD 1 (sRet (mF 1 m_copied (aCons (m1 (gFld "Ring" "stand_held") (mVar 0)) aNil)))
theorem ok_Ring__stand (hB : Blts mg) (hG : Globs mg K) (h : DefAtM K "Ring" "stand" "Ring.stand" s_Ring__stand ["self"]) (c_copied : Cal P w K mg base "copied" 1 1 m_copied) (cl_Ring : ClsAt K "Ring") (nf_Ring_stand_held : NoAt K "Ring" "stand_held") : CalM P w K mg base "Ring" "stand" 2 1 m_Ring__stand := by
  have hN := sc_Ring__stand.nd
  exact CalM.of (k := 1) h sc_Ring__stand fun f cdv A outer s H E hr hgd => (nss_one (ns_ret (ne_cal c_copied (hr.mono (by omega)) hgd pass_cx (na_cons (ne_fld cl_Ring nf_Ring_stand_held (ne_var 0)) na_nil))))
abbrev s__law_mended_right : Stmt := topS 65
abbrev N__law_mended_right : List Str := ["_law_ring", "_law_pair", "_law_few", "_law_count", "_law_told", "_law_word", "_law_who"]
theorem sc__law_mended_right : FnScope N__law_mended_right ["_law_ring", "_law_pair"] (defScope s__law_mended_right) := ⟨rfl, rfl, rfl, by decide +kernel, rfl, by decide +kernel, by decide +kernel⟩
noncomputable def m__law_mended_right : MF := runK 7 (sSeq (sAsg (mM "Ring" "fewest" 1 m_Ring__fewest (mVar 0) aNil) (gmN 2))
  (sSeq (sAsg (mCB (on1 (gLenO "Ring" 1 m_Ring____len__)) (aCons (mVar 0) aNil)) (gmN 3))
  (sSeq (sAsg (mM "Ring" "mend" 1 m_Ring__mend (mVar 0) aNil) (gmN 4))
  (sSeq (sIf (tOrM (mT (m2 gIs (mVar 2) (mC .non))) (tOrM (mT (m2 gNe (mCB (on1 gLen) (aCons (mVar 4) aNil)) (mVar 2))) (tOrM (mT (m2 gNe (mCB (on1 (gLenO "Ring" 1 m_Ring____len__)) (aCons (mVar 0) aNil)) (m2 (gAdd false) (mVar 3) (mVar 2)))) (mT (m2 gNe (mM "Ring" "fewest" 1 m_Ring__fewest (mVar 0) aNil) (mC (.int 0)))))))
  (sRet (mC (.bl false)))
  sNil)
  (sRet (mAnd (m2 gEq (mFz 2 (mM "Ring" "stand" 1 m_Ring__stand (mVar 0) aNil)) (mVar 1)) (m2 gEq (mLc false [5, 6] (iLst (mVar 4)) (gmSq 2 (gmCons (gmN 5) (gmCons (gmN 6) gmNil))) (mT (m2 gNe (mVar 5) (mC (.str "come")))) (mVar 5)) (mLst false aNil))))))))
theorem ok__law_mended_right (hB : Blts mg) (hG : Globs mg K) (h : DefAt K mg "_law_mended_right" s__law_mended_right ["_law_ring", "_law_pair"]) (c_Ring__fewest : CalM P w K mg base "Ring" "fewest" 6 1 m_Ring__fewest) (c_Ring____len__ : CalM P w K mg base "Ring" "__len__" 1 1 m_Ring____len__) (c_Ring__mend : CalM P w K mg base "Ring" "mend" 11 1 m_Ring__mend) (c_Ring__stand : CalM P w K mg base "Ring" "stand" 2 1 m_Ring__stand) : Cal P w K mg base "_law_mended_right" 12 2 m__law_mended_right := by
  have hN := sc__law_mended_right.nd
  exact Cal.ofK (k := 11) h sc__law_mended_right fun f cdv A outer s H E hr hgd => (nss_cons (ns_set 2 hN rfl (.inl rfl) (ne_meth0 c_Ring__fewest (hr.mono (by omega)) hgd pass_cx (ne_var 0)))
    (nss_cons (ns_set 3 hN rfl (.inl rfl) (ne_lenO c_Ring____len__ (hr.mono (by omega)) hgd pass_cx (b_len hB) (ne_var 0)))
    (nss_cons (ns_set 4 hN rfl (.inl rfl) (ne_meth0 c_Ring__mend (hr.mono (by omega)) hgd pass_cx (ne_var 0)))
    (nss_cons (ns_if (nt_w (nw_or (nt_cmp op_is2 isN2 (ne_var 2) ne_non (nomark _)) (nw_or (nt_cmp (op_neE hr.units) neN (ne_callB call_len lenN (b_len hB) (na_cons (ne_var 4) na_nil)) (ne_var 2) (nomark _)) (nw_or (nt_cmp (op_neE hr.units) neN (ne_lenO c_Ring____len__ (hr.mono (by omega)) hgd pass_cx (b_len hB) (ne_var 0)) (ne_op op_addA addN (ne_var 3) (ne_var 2)) (nomark _)) (nw_or1 (nt_cmp (op_neE hr.units) neN (ne_meth0 c_Ring__fewest (hr.mono (by omega)) hgd pass_cx (ne_var 0)) ne_int (nomark _)))))))
    (nss_one (ns_ret ne_bl))
    nss_nil)
    (nss_one (ns_ret (ne_and (ne_cmp (op_eqE hr.units) eqN (ne_fz 2 (ne_meth0 c_Ring__stand (hr.mono (by omega)) hgd pass_cx (ne_var 0))) (ne_var 1) (nomark _)) (ne_one (ne_cmp (op_eqE hr.units) eqN (ne_lc (own := [("_law_word", 5), ("_law_who", 6)]) rfl hN (ni_list (ne_var 4)) (blkOk_by (N := N__law_mended_right) (sc := defScope s__law_mended_right) (by decide +kernel)) (fun _ _ _ _ _ => (ng_sq rfl (ngs_cons (ng_name (own := [5, 6]) 5 (by decide) hN rfl (.inl rfl)) (ngs_cons (ng_name (own := [5, 6]) 6 (by decide) hN rfl (.inl rfl)) ngs_nil)))) (fun _ _ _ _ _ => (nts_one (nt_cmp (op_neE hr.units) neN (ne_var 5) ne_str (nomark _)))) (fun _ _ _ _ _ => (ne_var 5))) (ne_lst na_nil) (nomark _))))))))))
abbrev s__law_due : Stmt := topS 66
abbrev N__law_due : List Str := ["_law_order_here", "_law_size_here", "_law_at", "_law_found", "_law_who", "_law_sooner", "_law_k", "_law_one"]
theorem sc__law_due : FnScope N__law_due ["_law_order_here", "_law_size_here"] (defScope s__law_due) := ⟨rfl, rfl, rfl, by decide +kernel, rfl, by decide +kernel, by decide +kernel⟩
noncomputable def m__law_due : MF := runD 8 (sSeq (sAsg (mCB (on1 gDictK) (aCons (mLc false [6] (iRg1 (aCons (mCB (on1 gLen) (aCons (mVar 0) aNil)) aNil)) (gmN 6) tTrue (mTup (aCons (m2 gIx (mVar 0) (mVar 6)) (aCons (mVar 6) aNil)))) aNil)) (gmN 2))
  (sSeq (sAsg (mC (.int 0)) (gmN 3))
  (sSeq (sFor (iLst (mVar 0)) (gmN 4)
  (sSeq (sAsg (mLc false [7] (iLst (mLst false (aCons (m2 gSub (mVar 4) (mC (.int 1))) (aCons (m2 (gAdd false) (mVar 4) (mC (.int 1))) aNil)))) (gmN 7) (tAndM (mT (mDInK false (mVar 7) (mVar 2))) (mT (m2 gLt (mDGetK (mVar 2) (mVar 7)) (mDGetK (mVar 2) (mVar 4))))) (mVar 7)) (gmN 5))
  (sAsg (m2 (gAdd false) (mVar 3) (mCB (on1 gInt) (aCons (m2 gLt (mCB (on1 gLen) (aCons (mVar 5) aNil)) (mC (.int 2))) aNil))) (gmN 3))))
  (sRet (mVar 3)))))
theorem ok__law_due (hB : Blts mg) (hG : Globs mg K) (h : DefAt K mg "_law_due" s__law_due ["_law_order_here", "_law_size_here"]) : Cal P w K mg base "_law_due" 1 2 m__law_due := by
  have hN := sc__law_due.nd
  exact Cal.of (k := 0) h sc__law_due fun f cdv A outer s H E hr hgd => (nss_cons (ns_set 2 hN rfl (.inr rfl) (ne_callTy (cr_dictK rfl) dictKN (b_dict hB) (na_cons (ne_lc (own := [("_law_k", 6)]) rfl hN (ni_range1 (b_range hB) (na_cons (ne_callB call_len lenN (b_len hB) (na_cons (ne_var 0) na_nil)) na_nil)) (blkOk_by (N := N__law_due) (sc := defScope s__law_due) (by decide +kernel)) (fun _ _ _ _ _ => (ng_name (own := [6]) 6 (by decide) hN rfl (.inl rfl))) (fun _ _ _ _ _ => nts_nil) (fun _ _ _ _ _ => (ne_tup (na_cons (ne_ix (ne_var 0) (ne_var 6)) (na_cons (ne_var 6) na_nil))))) na_nil)))
    (nss_cons (ns_set 3 hN rfl (.inl rfl) ne_int)
    (nss_cons (ns_for own_cx rfl (ni_list (ne_var 0)) (ng_name (own := [4]) 4 (by decide) hN rfl (.inr rfl))
    (nss_cons (ns_setLc (own := [("_law_one", 7)]) 5 rfl hN rfl rfl (sw_true rfl rfl rfl (by decide +kernel)) (ni_list (ne_lst (na_cons (ne_op op_sub subN (ne_var 4) ne_int) (na_cons (ne_op op_addA addN (ne_var 4) ne_int) na_nil)))) (blkOk_by (N := N__law_due) (sc := defScope s__law_due) (by decide +kernel)) (fun _ _ _ _ _ => (ng_name (own := [7]) 7 (by decide) hN rfl (.inl rfl))) (fun _ _ _ _ _ => (nts_one (nt_w (nw_and (nt_dinK hr.units (ne_var 7) (ne_var 2)) (nw_and1 (nt_cmp op_lt ltN (ne_dgetK hr.units (ne_var 2) (ne_var 7)) (ne_dgetK hr.units (ne_var 2) (ne_var 4)) (nomark _))))))) (fun _ _ _ _ _ => (ne_var 7)))
    (nss_one (ns_set 3 hN rfl (.inl rfl) (ne_op op_addA addN (ne_var 3) (ne_callTy call_int3 intN (b_int hB) (na_cons (ne_cmp op_lt ltN (ne_callB call_len lenN (b_len hB) (na_cons (ne_var 5) na_nil)) ne_int (nomark _)) na_nil)))))))
    (nss_one (ns_ret (ne_var 3))))))
abbrev s__law_round_right : Stmt := topS 67
abbrev N__law_round_right : List Str := ["_law_jar_here", "_law_ring", "_law_size_here", "_law_pair", "_law_order_here", "_law_mates", "_law_mixed", "_law_rest", "_law_every", "_law_k", "_law_who"]
theorem sc__law_round_right : FnScope N__law_round_right ["_law_jar_here", "_law_ring", "_law_size_here", "_law_pair"] (defScope s__law_round_right) := ⟨rfl, rfl, rfl, by decide +kernel, rfl, by decide +kernel, by decide +kernel⟩
noncomputable def m__law_round_right : MF := runK 11 (sSeq (sAsg (mFz 2 (mF 2 m__law_order (aCons (mVar 0) (aCons (mVar 2) aNil)))) (gmN 4))
  (sSeq (sAsg (mCB (on1 (gList true)) (aCons (mVar 4) aNil)) (gmN 5))
  (sSeq (sAsg (mLc false [9] (iRg1 (aCons (mCB (on1 gLen) (aCons (mVar 4) aNil)) aNil)) (gmN 9) tTrue (mMt isL gPop (mVar 5) (aCons (mF 2 m__law_pull (aCons (mVar 0) (aCons (mCB (on1 gLen) (aCons (mVar 5) aNil)) aNil))) aNil))) (gmN 6))
  (sSeq (sDrop (mF 3 m__law_goes (aCons (mVar 1) (aCons (mVar 4) (aCons (mC (.str "go")) aNil)))))
  (sSeq (sDrop (mF 3 m__law_goes (aCons (mVar 1) (aCons (mVar 6) (aCons (mC (.str "come")) aNil)))))
  (sSeq (sIf (tNotM (mT (mF 2 m__law_mended_right (aCons (mVar 1) (aCons (mVar 3) aNil)))))
  (sRet (mC (.bl false)))
  sNil)
  (sSeq (sAsg (mLc false [10] (iRg2 (aCons (mC (.int 1)) (aCons (m2 (gAdd false) (mVar 2) (mC (.int 1))) aNil))) (gmN 10) (mT (m2 (gIn true) (mVar 10) (mVar 4))) (mVar 10)) (gmN 7))
  (sSeq (sAsg (m2 (gAdd false) (mVar 4) (mVar 7)) (gmN 8))
  (sSeq (sDrop (mF 3 m__law_goes (aCons (mVar 1) (aCons (mVar 8) (aCons (mC (.str "go")) aNil)))))
  (sRet (mAnd (m2 gEq (mM "Ring" "fewest" 1 m_Ring__fewest (mVar 1) aNil) (mF 2 m__law_due (aCons (mVar 8) (aCons (mVar 2) aNil)))) (mF 2 m__law_mended_right (aCons (mVar 1) (aCons (mVar 3) aNil))))))))))))))
theorem ok__law_round_right (hB : Blts mg) (hG : Globs mg K) (h : DefAt K mg "_law_round_right" s__law_round_right ["_law_jar_here", "_law_ring", "_law_size_here", "_law_pair"]) (c__law_order : Cal P w K mg base "_law_order" 2 2 m__law_order) (c__law_goes : Cal P w K mg base "_law_goes" 6 3 m__law_goes) (c__law_mended_right : Cal P w K mg base "_law_mended_right" 12 2 m__law_mended_right) (c__law_pull : Cal P w K mg base "_law_pull" 1 2 m__law_pull) (c_Ring__fewest : CalM P w K mg base "Ring" "fewest" 6 1 m_Ring__fewest) (c__law_due : Cal P w K mg base "_law_due" 1 2 m__law_due) : Cal P w K mg base "_law_round_right" 13 4 m__law_round_right := by
  have hN := sc__law_round_right.nd
  exact Cal.ofK (k := 12) h sc__law_round_right fun f cdv A outer s H E hr hgd => (nss_cons (ns_set 4 hN rfl (.inr rfl) (ne_fz 2 (ne_cal c__law_order (hr.mono (by omega)) hgd pass_cx (na_cons (ne_var 0) (na_cons (ne_var 2) na_nil)))))
    (nss_cons (ns_set 5 hN rfl (.inr rfl) (ne_callTy call_list_of listN (b_list hB) (na_cons (ne_var 4) na_nil)))
    (nss_cons (ns_setLc (own := [("_law_k", 9)]) 6 rfl hN rfl rfl (sw_true rfl rfl rfl (by decide +kernel)) (ni_range1 (b_range hB) (na_cons (ne_callB call_len lenN (b_len hB) (na_cons (ne_var 4) na_nil)) na_nil)) (blkOk_by (N := N__law_round_right) (sc := defScope s__law_round_right) (by decide +kernel)) (fun _ _ _ _ _ => (ng_name (own := [9]) 9 (by decide) hN rfl (.inl rfl))) (fun _ _ _ _ _ => nts_nil) (fun _ _ _ _ _ => (ne_mt PySem.F.plainAttrs_list PySem.F.slot_list_pop PySem.F.type_list_pop mt_pop2 chk_list popN (ne_var 5) (na_cons (ne_cal c__law_pull (hr.mono (by omega)) hgd passL (na_cons (ne_var 0) (na_cons (ne_callB call_len lenN (b_len hB) (na_cons (ne_var 5) na_nil)) na_nil))) na_nil))))
    (nss_cons (ns_expr (ne_cal c__law_goes (hr.mono (by omega)) hgd pass_cx (na_cons (ne_var 1) (na_cons (ne_var 4) (na_cons ne_str na_nil)))))
    (nss_cons (ns_expr (ne_cal c__law_goes (hr.mono (by omega)) hgd pass_cx (na_cons (ne_var 1) (na_cons (ne_var 6) (na_cons ne_str na_nil)))))
    (nss_cons (ns_if (nt_not (nt_val (ne_cal c__law_mended_right (hr.mono (by omega)) hgd pass_cx (na_cons (ne_var 1) (na_cons (ne_var 3) na_nil)))))
    (nss_one (ns_ret ne_bl))
    nss_nil)
    (nss_cons (ns_setLc (own := [("_law_who", 10)]) 7 rfl hN rfl rfl (sw_true rfl rfl rfl (by decide +kernel)) (ni_range2 (b_range hB) (na_cons ne_int (na_cons (ne_op op_addA addN (ne_var 2) ne_int) na_nil))) (blkOk_by (N := N__law_round_right) (sc := defScope s__law_round_right) (by decide +kernel)) (fun _ _ _ _ _ => (ng_name (own := [10]) 10 (by decide) hN rfl (.inl rfl))) (fun _ _ _ _ _ => (nts_one (nt_cmp op_notIn_seq inN (ne_var 10) (ne_var 4) (by rfl)))) (fun _ _ _ _ _ => (ne_var 10)))
    (nss_cons (ns_set 8 hN rfl (.inl rfl) (ne_op op_addA addN (ne_var 4) (ne_var 7)))
    (nss_cons (ns_expr (ne_cal c__law_goes (hr.mono (by omega)) hgd pass_cx (na_cons (ne_var 1) (na_cons (ne_var 8) (na_cons ne_str na_nil)))))
    (nss_one (ns_ret (ne_and (ne_cmp (op_eqE hr.units) eqN (ne_meth0 c_Ring__fewest (hr.mono (by omega)) hgd pass_cx (ne_var 1)) (ne_cal c__law_due (hr.mono (by omega)) hgd pass_cx (na_cons (ne_var 8) (na_cons (ne_var 2) na_nil))) (nomark _)) (ne_one (ne_cal c__law_mended_right (hr.mono (by omega)) hgd pass_cx (na_cons (ne_var 1) (na_cons (ne_var 3) na_nil))))))))))))))))
abbrev s_need_deeds : Stmt := topS 32
abbrev N_need_deeds : List Str := ["deeds", "most", "number", "deed"]
theorem sc_need_deeds : FnScope N_need_deeds ["deeds", "most"] (defScope s_need_deeds) := ⟨rfl, rfl, rfl, by decide +kernel, rfl, by decide +kernel, by decide +kernel⟩
noncomputable def m_need_deeds : MF := runD 4 (sSeq (sIf (tNotM (mT (m1 (gIsi "list") (mVar 0))))
  sNo
  sNil)
  (sFor (iEn (aCons (mVar 0) aNil)) (gmSq 2 (gmCons (gmN 2) (gmCons (gmN 3) gmNil)))
  (sIf (tNotM (mT (mF 2 m_is_deed (aCons (mVar 3) (aCons (mVar 1) aNil)))))
  sNo
  sNil)))
theorem ok_need_deeds (hB : Blts mg) (hG : Globs mg K) (h : DefAt K mg "need_deeds" s_need_deeds ["deeds", "most"]) (c_is_deed : Cal P w K mg base "is_deed" 2 2 m_is_deed) : Cal P w K mg base "need_deeds" 3 2 m_need_deeds := by
  have hN := sc_need_deeds.nd
  exact Cal.of (k := 2) h sc_need_deeds fun f cdv A outer s H E hr hgd => (nss_cons (ns_if (nt_not (nt_val (ne_isi (b_isinstance hB) (b_list hB) boot_list (by decide) (ne_var 0))))
    (nss_one ns_never)
    nss_nil)
    (nss_one (ns_for own_cx rfl (ni_enum (b_enumerate hB) (na_cons (ne_var 0) na_nil)) (ng_sq rfl (ngs_cons (ng_name (own := [2, 3]) 2 (by decide) hN rfl (.inl rfl)) (ngs_cons (ng_name (own := [2, 3]) 3 (by decide) hN rfl (.inl rfl)) ngs_nil)))
    (nss_one (ns_if (nt_not (nt_val (ne_cal c_is_deed (hr.mono (by omega)) hgd pass_cx (na_cons (ne_var 3) (na_cons (ne_var 1) na_nil)))))
    (nss_one ns_never)
    nss_nil)))))
abbrev s_behind : Stmt := topS 36
abbrev N_behind : List Str := ["stand", "deeds", "found", "deed", "side", "who", "place", "new"]
theorem sc_behind : FnScope N_behind ["stand", "deeds"] (defScope s_behind) := ⟨rfl, rfl, rfl, by decide +kernel, rfl, by decide +kernel, by decide +kernel⟩
noncomputable def m_behind : MF := runD 8 (sSeq (sDrop (mF 1 m_need_stand (aCons (mVar 0) aNil)))
  (sSeq (sDrop (mF 2 m_need_deeds (aCons (mVar 1) (aCons (mF 1 m_dancers_of (aCons (mVar 0) aNil)) aNil))))
  (sSeq (sAsg (mF 1 m_copied (aCons (mVar 0) aNil)) (gmN 2))
  (sSeq (sFor (iLst (mVar 1)) (gmN 3)
  (sFor (iLst (mFz 2 (mF 2 m_hands_by (aCons (mVar 2) (aCons (mVar 3) aNil))))) (gmSq 4 (gmCons (gmN 4) (gmCons (gmN 5) (gmCons (gmN 6) (gmCons (gmN 7) gmNil)))))
  (sAsg (mVar 7) (gmSub (m2 gIx (mVar 2) (mCB (on1 gInt) (aCons (m2 gEq (mVar 4) (mC k_LEFT_deeds)) aNil))) (mVar 6)))))
  (sRet (mVar 2))))))
theorem ok_behind (hB : Blts mg) (hG : Globs mg K) (h : DefAt K mg "behind" s_behind ["stand", "deeds"]) (c_need_stand : Cal P w K mg base "need_stand" 3 1 m_need_stand) (c_need_deeds : Cal P w K mg base "need_deeds" 3 2 m_need_deeds) (c_copied : Cal P w K mg base "copied" 1 1 m_copied) (c_dancers_of : Cal P w K mg base "dancers_of" 1 1 m_dancers_of) (c_hands_by : Cal P w K mg base "hands_by" 1 2 m_hands_by) : Cal P w K mg base "behind" 4 2 m_behind := by
  have hN := sc_behind.nd
  exact Cal.of (k := 3) h sc_behind fun f cdv A outer s H E hr hgd => (nss_cons (ns_expr (ne_cal c_need_stand (hr.mono (by omega)) hgd pass_cx (na_cons (ne_var 0) na_nil)))
    (nss_cons (ns_expr (ne_cal c_need_deeds (hr.mono (by omega)) hgd pass_cx (na_cons (ne_var 1) (na_cons (ne_cal c_dancers_of (hr.mono (by omega)) hgd pass_cx (na_cons (ne_var 0) na_nil)) na_nil))))
    (nss_cons (ns_set 2 hN rfl (.inl rfl) (ne_cal c_copied (hr.mono (by omega)) hgd pass_cx (na_cons (ne_var 0) na_nil)))
    (nss_cons (ns_for own_cx rfl (ni_list (ne_var 1)) (ng_name (own := [3]) 3 (by decide) hN rfl (.inl rfl))
    (nss_one (ns_for own_cx rfl (ni_list (ne_fz 2 (ne_cal c_hands_by (hr.mono (by omega)) hgd pass_cx (na_cons (ne_var 2) (na_cons (ne_var 3) na_nil))))) (ng_sq rfl (ngs_cons (ng_name (own := [4, 5, 6, 7]) 4 (by decide) hN rfl (.inl rfl)) (ngs_cons (ng_name (own := [4, 5, 6, 7]) 5 (by decide) hN rfl (.inl rfl)) (ngs_cons (ng_name (own := [4, 5, 6, 7]) 6 (by decide) hN rfl (.inl rfl)) (ngs_cons (ng_name (own := [4, 5, 6, 7]) 7 (by decide) hN rfl (.inl rfl)) ngs_nil)))))
    (nss_one (ns_asg (ne_var 7) (ng_sub (own := []) (ne_ix (ne_var 2) (ne_callTy call_int3 intN (b_int hB) (na_cons (ne_cmp (op_eqE hr.units) eqN (ne_var 4) (ne_glob (g_LEFT_deeds hG)) (nomark _)) na_nil))) (ne_var 6)))))))
    (nss_one (ns_ret (ne_var 2)))))))
abbrev s_law : Stmt := topS 68
abbrev N_law : List Str := ["_law_script", "_law_cells_here", "_law_k", "_law_jar_here", "_law_size_here", "_law_pair", "_law_ring", "_law_turn", "_law_acts", "_law_twin", "_law_one"]
theorem sc_law : FnScope N_law ["_law_script"] (defScope s_law) := ⟨rfl, rfl, rfl, by decide +kernel, rfl, by decide +kernel, by decide +kernel⟩
noncomputable def m_law : MF := runD 11 (sSeq (sAsg (mFz 2 (mF 2 m__law_cells (aCons (mVar 0) (aCons (mC (.int 4)) aNil)))) (gmN 1))
  (sSeq (sFor (iRg1 (aCons (mCB (on1 gLen) (aCons (mVar 1) aNil)) aNil)) (gmN 2)
  (sGc [2, 3, 4, 5, 6, 7, 8, 9, 10] (sSeq (sAsg (mF 2 m__law_jar (aCons (m2 gIx (mVar 1) (mVar 2)) (aCons (mVar 2) aNil))) (gmN 3))
  (sSeq (sAsg (mCB (on2 gMin2) (aCons (m2 gIx (mLst false (aCons (mC (.int 40)) (aCons (mC (.int 20)) aNil))) (mCB (on1 gInt) (aCons (m2 gGt (mVar 2) (mC (.int 0))) aNil))) (aCons (mFz 2 (mF 2 m__law_size (aCons (mVar 3) (aCons (mVar 0) aNil)))) aNil))) (gmN 4))
  (sSeq (sAsg (mFz 2 (mF 1 m_whole (aCons (mVar 4) aNil))) (gmN 5))
  (sSeq (sAsg (mI "Ring" 3 1 0 0 1 m_Ring____init__ (aCons (mVar 4) aNil) aNil) (gmN 6))
  (sSeq (sFor (iRg1 (aCons (m2 (gAdd false) (mC (.int 1)) (mCB (on1 gInt) (aCons (m2 gGt (mVar 2) (mC (.int 0))) aNil))) aNil)) (gmN 7)
  (sIf (tNotM (mT (mF 4 m__law_round_right (aCons (mVar 3) (aCons (mVar 6) (aCons (mVar 4) (aCons (mVar 5) aNil)))))))
  (sRet (mC (.bl false)))
  sNil))
  (sSeq (sAsg (mFz 2 (mM "Ring" "history" 1 m_Ring__history (mVar 6) aNil)) (gmN 8))
  (sSeq (sIf (tOrM (mT (m2 gNe (mFz 2 (mF 2 m_behind (aCons (mVar 5) (aCons (mVar 8) aNil)))) (mFz 2 (mM "Ring" "stand" 1 m_Ring__stand (mVar 6) aNil)))) (mT (m2 gNe (mCB (on1 gLen) (aCons (mVar 8) aNil)) (mCB (on1 (gLenO "Ring" 1 m_Ring____len__)) (aCons (mVar 6) aNil)))))
  (sRet (mC (.bl false)))
  sNil)
  (sSeq (sAsg (mM "Ring" "twin" 1 m_Ring__twin (mVar 6) aNil) (gmN 9))
  (sSeq (sFor (iLst (mLst false (aCons (mVar 6) (aCons (mVar 9) aNil)))) (gmN 10)
  (sSeq (sFor (iRg1 (aCons (mCB (on1 gLen) (aCons (mVar 8) aNil)) aNil)) (gmN 7)
  (sDrop (mM "Ring" "back" 1 m_Ring__back (mVar 10) aNil)))
  (sSeq (sIf (tOrM (mT (m2 gNe (mFz 2 (mM "Ring" "stand" 1 m_Ring__stand (mVar 10) aNil)) (mVar 5))) (tOrM (mT (m2 gNe (mCB (on1 (gLenO "Ring" 1 m_Ring____len__)) (aCons (mVar 10) aNil)) (mC (.int 0)))) (mT (m2 gNe (mFz 2 (mM "Ring" "history" 1 m_Ring__history (mVar 10) aNil)) (mLst false aNil)))))
  (sRet (mC (.bl false)))
  sNil)
  (sSeq (sDrop (mF 3 m__law_goes (aCons (mVar 10) (aCons (mLst false (aCons (mC (.int 1)) aNil)) (aCons (mC (.str "go")) aNil)))))
  (sDrop (mM "Ring" "back" 1 m_Ring__back (mVar 10) aNil))))))
  (sSeq (sDrop (mF 3 m__law_goes (aCons (mVar 9) (aCons (mLst false (aCons (mC (.int 1)) aNil)) (aCons (mC (.str "go")) aNil)))))
  (sIf (tOrM (mT (m2 (gOwn true "Ring" m_Ring____eq__) (mVar 6) (mI "Ring" 3 1 0 0 1 m_Ring____init__ (aCons (mVar 4) aNil) aNil))) (tOrM (mT (m2 (gOwn false "Ring" m_Ring____eq__) (mVar 9) (mVar 6))) (tOrM (mT (m2 gNe (mM "Ring" "mend" 1 m_Ring__mend (mVar 9) aNil) (mLst false (aCons (mTup (aCons (mC (.str "come")) (aCons (mC (.int 1)) aNil))) aNil)))) (mT (m2 (gOwn true "Ring" m_Ring____eq__) (mVar 9) (mVar 6))))))
  (sRet (mC (.bl false)))
  sNil)))))))))))))
  (sRet (mC (.bl true)))))
theorem ok_law {f : Addr} {fd : FuncData} (hB : Blts mg) (hG : Globs mg K) (h : Fun K "law" "law" s_law f fd) (c__law_cells : Cal P w K mg base "_law_cells" 1 2 m__law_cells) (c__law_jar : Cal P w K mg base "_law_jar" 1 2 m__law_jar) (c_whole : Cal P w K mg base "whole" 3 1 m_whole) (c_Ring__history : CalM P w K mg base "Ring" "history" 1 1 m_Ring__history) (c_Ring__twin : CalM P w K mg base "Ring" "twin" 7 1 m_Ring__twin) (c__law_goes : Cal P w K mg base "_law_goes" 6 3 m__law_goes) (c__law_size : Cal P w K mg base "_law_size" 2 2 m__law_size) (c_Ring__back : CalM P w K mg base "Ring" "back" 1 1 m_Ring__back) (c_Ring____eq__ : CalM P w K mg base "Ring" "__eq__" 1 2 m_Ring____eq__) (c__law_round_right : Cal P w K mg base "_law_round_right" 13 4 m__law_round_right) (c_behind : Cal P w K mg base "behind" 4 2 m_behind) (c_Ring__stand : CalM P w K mg base "Ring" "stand" 2 1 m_Ring__stand) (c_Ring____len__ : CalM P w K mg base "Ring" "__len__" 1 1 m_Ring____len__) (c_Ring__mend : CalM P w K mg base "Ring" "mend" 11 1 m_Ring__mend) (cI_Ring_1 : CalI P w K mg base "Ring" 5 3 1 [] 0 1 m_Ring____init__) (ow_Ring : OwnW K mg "Ring") : FnG P w K mg base 14 f fd ["_law_script"] (spN K mg 1 m_law) := by
  have hN := sc_law.nd
  exact okD (k := 13) h sc_law fun cdv A outer s H E hr hgd => (nss_cons (ns_set 1 hN rfl (.inl rfl) (ne_fz 2 (ne_cal c__law_cells (hr.mono (by omega)) hgd pass_cx (na_cons (ne_var 0) (na_cons ne_int na_nil)))))
    (nss_cons (ns_for own_cx rfl (ni_range1 (b_range hB) (na_cons (ne_callB call_len lenN (b_len hB) (na_cons (ne_var 1) na_nil)) na_nil)) (ng_name (own := [2]) 2 (by decide) hN rfl (.inl rfl))
    (nss_gc [2, 3, 4, 5, 6, 7, 8, 9, 10] (nss_cons (ns_set 3 hN rfl (.inl rfl) (ne_cal c__law_jar (hr.mono (by omega)) hgd pass_cx (na_cons (ne_ix (ne_var 1) (ne_var 2)) (na_cons (ne_var 2) na_nil))))
    (nss_cons (ns_set 4 hN rfl (.inl rfl) (ne_callB (call_min2 rfl) min2N (b_min hB) (na_cons (ne_ix (ne_lst (na_cons ne_int (na_cons ne_int na_nil))) (ne_callTy call_int3 intN (b_int hB) (na_cons (ne_cmp op_gt gtN (ne_var 2) ne_int (nomark _)) na_nil))) (na_cons (ne_fz 2 (ne_cal c__law_size (hr.mono (by omega)) hgd pass_cx (na_cons (ne_var 3) (na_cons (ne_var 0) na_nil)))) na_nil))))
    (nss_cons (ns_set 5 hN rfl (.inl rfl) (ne_fz 2 (ne_cal c_whole (hr.mono (by omega)) hgd pass_cx (na_cons (ne_var 4) na_nil))))
    (nss_cons (ns_set 6 hN rfl (.inl rfl) (ne_make cI_Ring_1 (hr.mono (by omega)) hgd pass_cx (na_cons (ne_var 4) na_nil)))
    (nss_cons (ns_for own_cx rfl (ni_range1 (b_range hB) (na_cons (ne_op op_addA addN ne_int (ne_callTy call_int3 intN (b_int hB) (na_cons (ne_cmp op_gt gtN (ne_var 2) ne_int (nomark _)) na_nil))) na_nil)) (ng_name (own := [7]) 7 (by decide) hN rfl (.inl rfl))
    (nss_one (ns_if (nt_not (nt_val (ne_cal c__law_round_right (hr.mono (by omega)) hgd pass_cx (na_cons (ne_var 3) (na_cons (ne_var 6) (na_cons (ne_var 4) (na_cons (ne_var 5) na_nil)))))))
    (nss_one (ns_ret ne_bl))
    nss_nil)))
    (nss_cons (ns_set 8 hN rfl (.inl rfl) (ne_fz 2 (ne_meth0 c_Ring__history (hr.mono (by omega)) hgd pass_cx (ne_var 6))))
    (nss_cons (ns_if (nt_w (nw_or (nt_cmp (op_neE hr.units) neN (ne_fz 2 (ne_cal c_behind (hr.mono (by omega)) hgd pass_cx (na_cons (ne_var 5) (na_cons (ne_var 8) na_nil)))) (ne_fz 2 (ne_meth0 c_Ring__stand (hr.mono (by omega)) hgd pass_cx (ne_var 6))) (nomark _)) (nw_or1 (nt_cmp (op_neE hr.units) neN (ne_callB call_len lenN (b_len hB) (na_cons (ne_var 8) na_nil)) (ne_lenO c_Ring____len__ (hr.mono (by omega)) hgd pass_cx (b_len hB) (ne_var 6)) (nomark _)))))
    (nss_one (ns_ret ne_bl))
    nss_nil)
    (nss_cons (ns_set 9 hN rfl (.inl rfl) (ne_meth0 c_Ring__twin (hr.mono (by omega)) hgd pass_cx (ne_var 6)))
    (nss_cons (ns_for own_cx rfl (ni_list (ne_lst (na_cons (ne_var 6) (na_cons (ne_var 9) na_nil)))) (ng_name (own := [10]) 10 (by decide) hN rfl (.inl rfl))
    (nss_cons (ns_for own_cx rfl (ni_range1 (b_range hB) (na_cons (ne_callB call_len lenN (b_len hB) (na_cons (ne_var 8) na_nil)) na_nil)) (ng_name (own := [7]) 7 (by decide) hN rfl (.inl rfl))
    (nss_one (ns_expr (ne_meth0 c_Ring__back (hr.mono (by omega)) hgd pass_cx (ne_var 10)))))
    (nss_cons (ns_if (nt_w (nw_or (nt_cmp (op_neE hr.units) neN (ne_fz 2 (ne_meth0 c_Ring__stand (hr.mono (by omega)) hgd pass_cx (ne_var 10))) (ne_var 5) (nomark _)) (nw_or (nt_cmp (op_neE hr.units) neN (ne_lenO c_Ring____len__ (hr.mono (by omega)) hgd pass_cx (b_len hB) (ne_var 10)) ne_int (nomark _)) (nw_or1 (nt_cmp (op_neE hr.units) neN (ne_fz 2 (ne_meth0 c_Ring__history (hr.mono (by omega)) hgd pass_cx (ne_var 10))) (ne_lst na_nil) (nomark _))))))
    (nss_one (ns_ret ne_bl))
    nss_nil)
    (nss_cons (ns_expr (ne_cal c__law_goes (hr.mono (by omega)) hgd pass_cx (na_cons (ne_var 10) (na_cons (ne_lst (na_cons ne_int na_nil)) (na_cons ne_str na_nil)))))
    (nss_one (ns_expr (ne_meth0 c_Ring__back (hr.mono (by omega)) hgd pass_cx (ne_var 10))))))))
    (nss_cons (ns_expr (ne_cal c__law_goes (hr.mono (by omega)) hgd pass_cx (na_cons (ne_var 9) (na_cons (ne_lst (na_cons ne_int na_nil)) (na_cons ne_str na_nil)))))
    (nss_one (ns_if (nt_w (nw_or (nt_ownN ow_Ring c_Ring____eq__ (hr.mono (by omega)) hgd pass_cx (ne_var 6) (ne_make cI_Ring_1 (hr.mono (by omega)) hgd pass_cx (na_cons (ne_var 4) na_nil)) (nomark _)) (nw_or (nt_ownE ow_Ring c_Ring____eq__ (hr.mono (by omega)) hgd pass_cx (ne_var 9) (ne_var 6) (nomark _)) (nw_or (nt_cmp (op_neE hr.units) neN (ne_meth0 c_Ring__mend (hr.mono (by omega)) hgd pass_cx (ne_var 9)) (ne_lst (na_cons (ne_tup (na_cons ne_str (na_cons ne_int na_nil))) na_nil)) (nomark _)) (nw_or1 (nt_ownN ow_Ring c_Ring____eq__ (hr.mono (by omega)) hgd pass_cx (ne_var 9) (ne_var 6) (nomark _)))))))
    (nss_one (ns_ret ne_bl))
    nss_nil))))))))))))))
    (nss_one (ns_ret ne_bl))))
theorem okI_Ring_0 (hB : Blts mg) (hG : Globs mg K) (h : DefAtI K mg "Ring" "Ring.__init__" s_Ring____init__ ["self", "n", "stand"] [V.non] [("stand", V.non)] 0 ["stand"] 1 0) (c_first_stand : Cal P w K mg base "first_stand" 4 2 m_first_stand) (cl_Ring : ClsAt K "Ring") (nf_Ring_stand_held : NoAt K "Ring" "stand_held") (nf_Ring_done_held : NoAt K "Ring" "done_held") (nf_Ring_back_held : NoAt K "Ring" "back_held") : CalI P w K mg base "Ring" 5 3 0 ["stand"] 1 0 m_Ring____init__ := by
  have hN := sc_Ring____init__.nd
  exact CalI.ofK (k := 4) h sc_Ring____init__ fun f cdv A outer s H E hr hgd => (nss_cons (ns_fld cl_Ring nf_Ring_stand_held (ne_var 0) (ne_fz 2 (ne_cal c_first_stand (hr.mono (by omega)) hgd pass_cx (na_cons (ne_var 1) (na_cons (ne_var 2) na_nil)))))
    (nss_cons (ns_fld cl_Ring nf_Ring_done_held (ne_var 0) (ne_lst na_nil))
    (nss_one (ns_fld cl_Ring nf_Ring_back_held (ne_var 0) (ne_lst na_nil)))))
theorem okI_Ring_1 (hB : Blts mg) (hG : Globs mg K) (h : DefAtI K mg "Ring" "Ring.__init__" s_Ring____init__ ["self", "n", "stand"] [V.non] [("stand", V.non)] 1 [] 0 1) (c_first_stand : Cal P w K mg base "first_stand" 4 2 m_first_stand) (cl_Ring : ClsAt K "Ring") (nf_Ring_stand_held : NoAt K "Ring" "stand_held") (nf_Ring_done_held : NoAt K "Ring" "done_held") (nf_Ring_back_held : NoAt K "Ring" "back_held") : CalI P w K mg base "Ring" 5 3 1 [] 0 1 m_Ring____init__ := by
  have hN := sc_Ring____init__.nd
  exact CalI.ofK (k := 4) h sc_Ring____init__ fun f cdv A outer s H E hr hgd => (nss_cons (ns_fld cl_Ring nf_Ring_stand_held (ne_var 0) (ne_fz 2 (ne_cal c_first_stand (hr.mono (by omega)) hgd pass_cx (na_cons (ne_var 1) (na_cons (ne_var 2) na_nil)))))
    (nss_cons (ns_fld cl_Ring nf_Ring_done_held (ne_var 0) (ne_lst na_nil))
    (nss_one (ns_fld cl_Ring nf_Ring_back_held (ne_var 0) (ne_lst na_nil)))))
end
section
variable {K : PySem.W.Frag} {mg : Str → Option Value}
theorem at__law_cells {h : Heap} (X : K.In h) (G : h.Ns mainGlobals mg) {f : Addr} {oc : Value} {od an : Option Addr} {osl : Array (Option Value)} {kV dc pm cd ct : Value} (a : PySem.W.nsIn K mainGlobals "_law_cells" = some (some (.ref f))) (l : K.lookup f = some ⟨oc, od, .func (PySem.W.fnOf "_law_cells" "_law_cells" (defArgs s__law_cells) (defBody s__law_cells) (defScope s__law_cells) .none kV dc pm an cd ct), osl⟩) (c : PySem.W.codeIn K cd "_law_cells" = true) (k : PySem.W.keepIn K (.ref f) = true) : DefAt K mg "_law_cells" s__law_cells ["_law_script", "_law_most"] :=
  ⟨f, _, fun_mk l c k, PySem.W.mg_of X G a, (fun_mk l c k).binds fun _ _ _ _ _ _ us hl => match us, hl with | [_, _], _ => rfl⟩
theorem at__law_jar {h : Heap} (X : K.In h) (G : h.Ns mainGlobals mg) {f : Addr} {oc : Value} {od an : Option Addr} {osl : Array (Option Value)} {kV dc pm cd ct : Value} (a : PySem.W.nsIn K mainGlobals "_law_jar" = some (some (.ref f))) (l : K.lookup f = some ⟨oc, od, .func (PySem.W.fnOf "_law_jar" "_law_jar" (defArgs s__law_jar) (defBody s__law_jar) (defScope s__law_jar) .none kV dc pm an cd ct), osl⟩) (c : PySem.W.codeIn K cd "_law_jar" = true) (k : PySem.W.keepIn K (.ref f) = true) : DefAt K mg "_law_jar" s__law_jar ["_law_cell", "_law_k"] :=
  ⟨f, _, fun_mk l c k, PySem.W.mg_of X G a, (fun_mk l c k).binds fun _ _ _ _ _ _ us hl => match us, hl with | [_, _], _ => rfl⟩
theorem at_is_between {h : Heap} (X : K.In h) (G : h.Ns mainGlobals mg) {f : Addr} {oc : Value} {od an : Option Addr} {osl : Array (Option Value)} {kV dc pm cd ct : Value} (a : PySem.W.nsIn K mainGlobals "is_between" = some (some (.ref f))) (l : K.lookup f = some ⟨oc, od, .func (PySem.W.fnOf "is_between" "is_between" (defArgs s_is_between) (defBody s_is_between) (defScope s_is_between) .none kV dc pm an cd ct), osl⟩) (c : PySem.W.codeIn K cd "is_between" = true) (k : PySem.W.keepIn K (.ref f) = true) : DefAt K mg "is_between" s_is_between ["thing", "least", "most"] :=
  ⟨f, _, fun_mk l c k, PySem.W.mg_of X G a, (fun_mk l c k).binds fun _ _ _ _ _ _ us hl => match us, hl with | [_, _, _], _ => rfl⟩
theorem at_need_dancers {h : Heap} (X : K.In h) (G : h.Ns mainGlobals mg) {f : Addr} {oc : Value} {od an : Option Addr} {osl : Array (Option Value)} {kV dc pm cd ct : Value} (a : PySem.W.nsIn K mainGlobals "need_dancers" = some (some (.ref f))) (l : K.lookup f = some ⟨oc, od, .func (PySem.W.fnOf "need_dancers" "need_dancers" (defArgs s_need_dancers) (defBody s_need_dancers) (defScope s_need_dancers) .none kV dc pm an cd ct), osl⟩) (c : PySem.W.codeIn K cd "need_dancers" = true) (k : PySem.W.keepIn K (.ref f) = true) : DefAt K mg "need_dancers" s_need_dancers ["n"] :=
  ⟨f, _, fun_mk l c k, PySem.W.mg_of X G a, (fun_mk l c k).binds fun _ _ _ _ _ _ us hl => match us, hl with | [_], _ => rfl⟩
theorem at_whole {h : Heap} (X : K.In h) (G : h.Ns mainGlobals mg) {f : Addr} {oc : Value} {od an : Option Addr} {osl : Array (Option Value)} {kV dc pm cd ct : Value} (a : PySem.W.nsIn K mainGlobals "whole" = some (some (.ref f))) (l : K.lookup f = some ⟨oc, od, .func (PySem.W.fnOf "whole" "whole" (defArgs s_whole) (defBody s_whole) (defScope s_whole) .none kV dc pm an cd ct), osl⟩) (c : PySem.W.codeIn K cd "whole" = true) (k : PySem.W.keepIn K (.ref f) = true) : DefAt K mg "whole" s_whole ["n"] :=
  ⟨f, _, fun_mk l c k, PySem.W.mg_of X G a, (fun_mk l c k).binds fun _ _ _ _ _ _ us hl => match us, hl with | [_], _ => rfl⟩
theorem at_is_stand {h : Heap} (X : K.In h) (G : h.Ns mainGlobals mg) {f : Addr} {oc : Value} {od an : Option Addr} {osl : Array (Option Value)} {kV dc pm cd ct : Value} (a : PySem.W.nsIn K mainGlobals "is_stand" = some (some (.ref f))) (l : K.lookup f = some ⟨oc, od, .func (PySem.W.fnOf "is_stand" "is_stand" (defArgs s_is_stand) (defBody s_is_stand) (defScope s_is_stand) .none kV dc pm an cd ct), osl⟩) (c : PySem.W.codeIn K cd "is_stand" = true) (k : PySem.W.keepIn K (.ref f) = true) : DefAt K mg "is_stand" s_is_stand ["thing"] :=
  ⟨f, _, fun_mk l c k, PySem.W.mg_of X G a, (fun_mk l c k).binds fun _ _ _ _ _ _ us hl => match us, hl with | [_], _ => rfl⟩
theorem at_need_stand {h : Heap} (X : K.In h) (G : h.Ns mainGlobals mg) {f : Addr} {oc : Value} {od an : Option Addr} {osl : Array (Option Value)} {kV dc pm cd ct : Value} (a : PySem.W.nsIn K mainGlobals "need_stand" = some (some (.ref f))) (l : K.lookup f = some ⟨oc, od, .func (PySem.W.fnOf "need_stand" "need_stand" (defArgs s_need_stand) (defBody s_need_stand) (defScope s_need_stand) .none kV dc pm an cd ct), osl⟩) (c : PySem.W.codeIn K cd "need_stand" = true) (k : PySem.W.keepIn K (.ref f) = true) : DefAt K mg "need_stand" s_need_stand ["stand"] :=
  ⟨f, _, fun_mk l c k, PySem.W.mg_of X G a, (fun_mk l c k).binds fun _ _ _ _ _ _ us hl => match us, hl with | [_], _ => rfl⟩
theorem at_copied {h : Heap} (X : K.In h) (G : h.Ns mainGlobals mg) {f : Addr} {oc : Value} {od an : Option Addr} {osl : Array (Option Value)} {kV dc pm cd ct : Value} (a : PySem.W.nsIn K mainGlobals "copied" = some (some (.ref f))) (l : K.lookup f = some ⟨oc, od, .func (PySem.W.fnOf "copied" "copied" (defArgs s_copied) (defBody s_copied) (defScope s_copied) .none kV dc pm an cd ct), osl⟩) (c : PySem.W.codeIn K cd "copied" = true) (k : PySem.W.keepIn K (.ref f) = true) : DefAt K mg "copied" s_copied ["stand"] :=
  ⟨f, _, fun_mk l c k, PySem.W.mg_of X G a, (fun_mk l c k).binds fun _ _ _ _ _ _ us hl => match us, hl with | [_], _ => rfl⟩
theorem at_first_stand {h : Heap} (X : K.In h) (G : h.Ns mainGlobals mg) {f : Addr} {oc : Value} {od an : Option Addr} {osl : Array (Option Value)} {kV dc pm cd ct : Value} (a : PySem.W.nsIn K mainGlobals "first_stand" = some (some (.ref f))) (l : K.lookup f = some ⟨oc, od, .func (PySem.W.fnOf "first_stand" "first_stand" (defArgs s_first_stand) (defBody s_first_stand) (defScope s_first_stand) .none kV dc pm an cd ct), osl⟩) (c : PySem.W.codeIn K cd "first_stand" = true) (k : PySem.W.keepIn K (.ref f) = true) : DefAt K mg "first_stand" s_first_stand ["n", "stand"] :=
  ⟨f, _, fun_mk l c k, PySem.W.mg_of X G a, (fun_mk l c k).binds fun _ _ _ _ _ _ us hl => match us, hl with | [_, _], _ => rfl⟩
theorem atI_Ring_0 {h : Heap} (X : K.In h) (G : h.Ns mainGlobals mg) {C f T Dk : Addr} {oc ocT : Value} {od an odT : Option Addr} {osl oslT : Array (Option Value)} {nT : Nat} {dc pm cd ct : Value} (aC : PySem.W.nsIn K mainGlobals "Ring" = some (some (.ref C))) (mk : PySem.W.makesIn K C = true) (mi : PySem.W.findIn K (.ref C) "__init__" = some (some (.ref f))) (mf : PySem.W.isFn K (.ref f) = true) (kC : PySem.W.keepIn K (.ref C) = true) (k : PySem.W.keepIn K (.ref f) = true) (l : K.lookup f = some ⟨oc, od, .func (PySem.W.fnOf "__init__" "Ring.__init__" (defArgs s_Ring____init__) (defBody s_Ring____init__) (defScope s_Ring____init__) (.ref T) (.ref Dk) dc pm an cd ct), osl⟩) (c : PySem.W.codeIn K cd "Ring.__init__" = true) (lT : K.lookup T = some ⟨ocT, odT, .seq #[.none] nT, oslT⟩) (lk0 : PySem.W.nsIn K Dk "stand" = some (some .none)) : DefAtI K mg "Ring" "Ring.__init__" s_Ring____init__ ["self", "n", "stand"] [V.non] [("stand", V.non)] 0 ["stand"] 1 0 := by
  have F : FunDf K "__init__" "Ring.__init__" s_Ring____init__ [V.non] [("stand", V.non)] f _ := ⟨⟨oc, od, .ref T, .ref Dk, dc, pm, an, cd, ct, osl, rfl, l, c, .inr ⟨by decide, T, _, [.none], nT, rfl, lT, rfl, (.cons rfl .nil)⟩, .inr ⟨Dk, rfl, fun q hq => by
    simp only [List.mem_cons, List.not_mem_nil, or_false] at hq
    rcases hq with rfl
    all_goals exact ⟨.none, lk0, rfl⟩⟩⟩, k⟩
  obtain ⟨its, mv, hb⟩ := F.kbinds (ps := ["self", "n", "stand"]) 1 ["stand"] [] (fun vs ds mz zs => vs ++ (ds ++ (zs ++ []))) (by decide) (by decide) (by decide) (fun h1 h2 h3 h4 => h1.append (h2.append (h4.append .nil))) (fun T D doc pm an cdv ct us its mv ws l1 l2 l3 l4 => match us, its, mv, ws, l1, l2, l3, l4 with | [_], [_], [], [_], _, _, _, _ => ⟨_, rfl, kw_nil rfl⟩)
  exact ⟨C, f, _, _, PySem.W.mg_of X G aC, aC, ⟨mk, mi, mf, kC⟩, F, hb⟩
theorem atI_Ring_1 {h : Heap} (X : K.In h) (G : h.Ns mainGlobals mg) {C f T Dk : Addr} {oc ocT : Value} {od an odT : Option Addr} {osl oslT : Array (Option Value)} {nT : Nat} {dc pm cd ct : Value} (aC : PySem.W.nsIn K mainGlobals "Ring" = some (some (.ref C))) (mk : PySem.W.makesIn K C = true) (mi : PySem.W.findIn K (.ref C) "__init__" = some (some (.ref f))) (mf : PySem.W.isFn K (.ref f) = true) (kC : PySem.W.keepIn K (.ref C) = true) (k : PySem.W.keepIn K (.ref f) = true) (l : K.lookup f = some ⟨oc, od, .func (PySem.W.fnOf "__init__" "Ring.__init__" (defArgs s_Ring____init__) (defBody s_Ring____init__) (defScope s_Ring____init__) (.ref T) (.ref Dk) dc pm an cd ct), osl⟩) (c : PySem.W.codeIn K cd "Ring.__init__" = true) (lT : K.lookup T = some ⟨ocT, odT, .seq #[.none] nT, oslT⟩) (lk0 : PySem.W.nsIn K Dk "stand" = some (some .none)) : DefAtI K mg "Ring" "Ring.__init__" s_Ring____init__ ["self", "n", "stand"] [V.non] [("stand", V.non)] 1 [] 0 1 := by
  have F : FunDf K "__init__" "Ring.__init__" s_Ring____init__ [V.non] [("stand", V.non)] f _ := ⟨⟨oc, od, .ref T, .ref Dk, dc, pm, an, cd, ct, osl, rfl, l, c, .inr ⟨by decide, T, _, [.none], nT, rfl, lT, rfl, (.cons rfl .nil)⟩, .inr ⟨Dk, rfl, fun q hq => by
    simp only [List.mem_cons, List.not_mem_nil, or_false] at hq
    rcases hq with rfl
    all_goals exact ⟨.none, lk0, rfl⟩⟩⟩, k⟩
  obtain ⟨its, mv, hb⟩ := F.kbinds (ps := ["self", "n", "stand"]) 2 [] [("stand", V.non)] (fun vs ds mz zs => vs ++ ((zs ++ mz))) (by decide) (by decide) (by decide) (fun h1 h2 h3 h4 => h1.append (h4.append h3)) (fun T D doc pm an cdv ct us its mv ws l1 l2 l3 l4 => match us, its, mv, ws, l1, l2, l3, l4 with | [_, _], [_], [_], [], _, _, _, _ => ⟨_, rfl, kw_one rfl rfl rfl⟩)
  exact ⟨C, f, _, _, PySem.W.mg_of X G aC, aC, ⟨mk, mi, mf, kC⟩, F, hb⟩
theorem at_Ring__history {h : Heap} (X : K.In h) (G : h.Ns mainGlobals mg) {C f : Addr} {oc : Value} {od an : Option Addr} {osl : Array (Option Value)} {kV dc pm cd ct : Value} (aC : PySem.W.nsIn K mainGlobals "Ring" = some (some (.ref C))) (pg : PySem.W.plainGet K C Str.empty = true) (hd : PySem.W.hasDictIn K C = true) (po : PySem.W.plainOver K C = true) (sa : PySem.W.findIn K (.ref C) "__setattr__" = some (some (.builtin "object.__setattr__"))) (ma : PySem.W.findIn K (.ref C) "history" = some (some (.ref f))) (mf : PySem.W.isFn K (.ref f) = true) (k : PySem.W.keepIn K (.ref f) = true) (l : K.lookup f = some ⟨oc, od, .func (PySem.W.fnOf "history" "Ring.history" (defArgs s_Ring__history) (defBody s_Ring__history) (defScope s_Ring__history) .none kV dc pm an cd ct), osl⟩) (c : PySem.W.codeIn K cd "Ring.history" = true) : DefAtM K "Ring" "history" "Ring.history" s_Ring__history ["self"] :=
  ⟨C, f, _, (fun C2 h2 => by rw [aC] at h2; cases h2; rfl), ⟨pg, hd, po, sa⟩, ⟨ma, mf, k⟩, fun_mk (st := s_Ring__history) l c k, (fun_mk (st := s_Ring__history) l c k).binds fun _ _ _ _ _ _ us hl => match us, hl with | [_], _ => rfl⟩
theorem at_Ring__twin {h : Heap} (X : K.In h) (G : h.Ns mainGlobals mg) {C f : Addr} {oc : Value} {od an : Option Addr} {osl : Array (Option Value)} {kV dc pm cd ct : Value} (aC : PySem.W.nsIn K mainGlobals "Ring" = some (some (.ref C))) (pg : PySem.W.plainGet K C Str.empty = true) (hd : PySem.W.hasDictIn K C = true) (po : PySem.W.plainOver K C = true) (sa : PySem.W.findIn K (.ref C) "__setattr__" = some (some (.builtin "object.__setattr__"))) (ma : PySem.W.findIn K (.ref C) "twin" = some (some (.ref f))) (mf : PySem.W.isFn K (.ref f) = true) (k : PySem.W.keepIn K (.ref f) = true) (l : K.lookup f = some ⟨oc, od, .func (PySem.W.fnOf "twin" "Ring.twin" (defArgs s_Ring__twin) (defBody s_Ring__twin) (defScope s_Ring__twin) .none kV dc pm an cd ct), osl⟩) (c : PySem.W.codeIn K cd "Ring.twin" = true) : DefAtM K "Ring" "twin" "Ring.twin" s_Ring__twin ["self"] :=
  ⟨C, f, _, (fun C2 h2 => by rw [aC] at h2; cases h2; rfl), ⟨pg, hd, po, sa⟩, ⟨ma, mf, k⟩, fun_mk (st := s_Ring__twin) l c k, (fun_mk (st := s_Ring__twin) l c k).binds fun _ _ _ _ _ _ us hl => match us, hl with | [_], _ => rfl⟩
theorem at_hands_by {h : Heap} (X : K.In h) (G : h.Ns mainGlobals mg) {f : Addr} {oc : Value} {od an : Option Addr} {osl : Array (Option Value)} {kV dc pm cd ct : Value} (a : PySem.W.nsIn K mainGlobals "hands_by" = some (some (.ref f))) (l : K.lookup f = some ⟨oc, od, .func (PySem.W.fnOf "hands_by" "hands_by" (defArgs s_hands_by) (defBody s_hands_by) (defScope s_hands_by) .none kV dc pm an cd ct), osl⟩) (c : PySem.W.codeIn K cd "hands_by" = true) (k : PySem.W.keepIn K (.ref f) = true) : DefAt K mg "hands_by" s_hands_by ["stand", "deed"] :=
  ⟨f, _, fun_mk l c k, PySem.W.mg_of X G a, (fun_mk l c k).binds fun _ _ _ _ _ _ us hl => match us, hl with | [_, _], _ => rfl⟩
theorem at_with_deed {h : Heap} (X : K.In h) (G : h.Ns mainGlobals mg) {f : Addr} {oc : Value} {od an : Option Addr} {osl : Array (Option Value)} {kV dc pm cd ct : Value} (a : PySem.W.nsIn K mainGlobals "with_deed" = some (some (.ref f))) (l : K.lookup f = some ⟨oc, od, .func (PySem.W.fnOf "with_deed" "with_deed" (defArgs s_with_deed) (defBody s_with_deed) (defScope s_with_deed) .none kV dc pm an cd ct), osl⟩) (c : PySem.W.codeIn K cd "with_deed" = true) (k : PySem.W.keepIn K (.ref f) = true) : DefAt K mg "with_deed" s_with_deed ["stand", "deed"] :=
  ⟨f, _, fun_mk l c k, PySem.W.mg_of X G a, (fun_mk l c k).binds fun _ _ _ _ _ _ us hl => match us, hl with | [_, _], _ => rfl⟩
theorem at_Ring__put {h : Heap} (X : K.In h) (G : h.Ns mainGlobals mg) {C f : Addr} {oc : Value} {od an : Option Addr} {osl : Array (Option Value)} {kV dc pm cd ct : Value} (aC : PySem.W.nsIn K mainGlobals "Ring" = some (some (.ref C))) (pg : PySem.W.plainGet K C Str.empty = true) (hd : PySem.W.hasDictIn K C = true) (po : PySem.W.plainOver K C = true) (sa : PySem.W.findIn K (.ref C) "__setattr__" = some (some (.builtin "object.__setattr__"))) (ma : PySem.W.findIn K (.ref C) "put" = some (some (.ref f))) (mf : PySem.W.isFn K (.ref f) = true) (k : PySem.W.keepIn K (.ref f) = true) (l : K.lookup f = some ⟨oc, od, .func (PySem.W.fnOf "put" "Ring.put" (defArgs s_Ring__put) (defBody s_Ring__put) (defScope s_Ring__put) .none kV dc pm an cd ct), osl⟩) (c : PySem.W.codeIn K cd "Ring.put" = true) : DefAtM K "Ring" "put" "Ring.put" s_Ring__put ["self", "deed"] :=
  ⟨C, f, _, (fun C2 h2 => by rw [aC] at h2; cases h2; rfl), ⟨pg, hd, po, sa⟩, ⟨ma, mf, k⟩, fun_mk (st := s_Ring__put) l c k, (fun_mk (st := s_Ring__put) l c k).binds fun _ _ _ _ _ _ us hl => match us, hl with | [_, _], _ => rfl⟩
theorem at_is_deed {h : Heap} (X : K.In h) (G : h.Ns mainGlobals mg) {f : Addr} {oc : Value} {od an : Option Addr} {osl : Array (Option Value)} {kV dc pm cd ct : Value} (a : PySem.W.nsIn K mainGlobals "is_deed" = some (some (.ref f))) (l : K.lookup f = some ⟨oc, od, .func (PySem.W.fnOf "is_deed" "is_deed" (defArgs s_is_deed) (defBody s_is_deed) (defScope s_is_deed) .none kV dc pm an cd ct), osl⟩) (c : PySem.W.codeIn K cd "is_deed" = true) (k : PySem.W.keepIn K (.ref f) = true) : DefAt K mg "is_deed" s_is_deed ["thing", "most"] :=
  ⟨f, _, fun_mk l c k, PySem.W.mg_of X G a, (fun_mk l c k).binds fun _ _ _ _ _ _ us hl => match us, hl with | [_, _], _ => rfl⟩
theorem at_dancers_of {h : Heap} (X : K.In h) (G : h.Ns mainGlobals mg) {f : Addr} {oc : Value} {od an : Option Addr} {osl : Array (Option Value)} {kV dc pm cd ct : Value} (a : PySem.W.nsIn K mainGlobals "dancers_of" = some (some (.ref f))) (l : K.lookup f = some ⟨oc, od, .func (PySem.W.fnOf "dancers_of" "dancers_of" (defArgs s_dancers_of) (defBody s_dancers_of) (defScope s_dancers_of) .none kV dc pm an cd ct), osl⟩) (c : PySem.W.codeIn K cd "dancers_of" = true) (k : PySem.W.keepIn K (.ref f) = true) : DefAt K mg "dancers_of" s_dancers_of ["stand"] :=
  ⟨f, _, fun_mk l c k, PySem.W.mg_of X G a, (fun_mk l c k).binds fun _ _ _ _ _ _ us hl => match us, hl with | [_], _ => rfl⟩
theorem at_Ring__did {h : Heap} (X : K.In h) (G : h.Ns mainGlobals mg) {C f : Addr} {oc : Value} {od an : Option Addr} {osl : Array (Option Value)} {kV dc pm cd ct : Value} (aC : PySem.W.nsIn K mainGlobals "Ring" = some (some (.ref C))) (pg : PySem.W.plainGet K C Str.empty = true) (hd : PySem.W.hasDictIn K C = true) (po : PySem.W.plainOver K C = true) (sa : PySem.W.findIn K (.ref C) "__setattr__" = some (some (.builtin "object.__setattr__"))) (ma : PySem.W.findIn K (.ref C) "did" = some (some (.ref f))) (mf : PySem.W.isFn K (.ref f) = true) (k : PySem.W.keepIn K (.ref f) = true) (l : K.lookup f = some ⟨oc, od, .func (PySem.W.fnOf "did" "Ring.did" (defArgs s_Ring__did) (defBody s_Ring__did) (defScope s_Ring__did) .none kV dc pm an cd ct), osl⟩) (c : PySem.W.codeIn K cd "Ring.did" = true) : DefAtM K "Ring" "did" "Ring.did" s_Ring__did ["self", "word", "dancer"] :=
  ⟨C, f, _, (fun C2 h2 => by rw [aC] at h2; cases h2; rfl), ⟨pg, hd, po, sa⟩, ⟨ma, mf, k⟩, fun_mk (st := s_Ring__did) l c k, (fun_mk (st := s_Ring__did) l c k).binds fun _ _ _ _ _ _ us hl => match us, hl with | [_, _, _], _ => rfl⟩
theorem at_Ring__go {h : Heap} (X : K.In h) (G : h.Ns mainGlobals mg) {C f : Addr} {oc : Value} {od an : Option Addr} {osl : Array (Option Value)} {kV dc pm cd ct : Value} (aC : PySem.W.nsIn K mainGlobals "Ring" = some (some (.ref C))) (pg : PySem.W.plainGet K C Str.empty = true) (hd : PySem.W.hasDictIn K C = true) (po : PySem.W.plainOver K C = true) (sa : PySem.W.findIn K (.ref C) "__setattr__" = some (some (.builtin "object.__setattr__"))) (ma : PySem.W.findIn K (.ref C) "go" = some (some (.ref f))) (mf : PySem.W.isFn K (.ref f) = true) (k : PySem.W.keepIn K (.ref f) = true) (l : K.lookup f = some ⟨oc, od, .func (PySem.W.fnOf "go" "Ring.go" (defArgs s_Ring__go) (defBody s_Ring__go) (defScope s_Ring__go) .none kV dc pm an cd ct), osl⟩) (c : PySem.W.codeIn K cd "Ring.go" = true) : DefAtM K "Ring" "go" "Ring.go" s_Ring__go ["self", "x"] :=
  ⟨C, f, _, (fun C2 h2 => by rw [aC] at h2; cases h2; rfl), ⟨pg, hd, po, sa⟩, ⟨ma, mf, k⟩, fun_mk (st := s_Ring__go) l c k, (fun_mk (st := s_Ring__go) l c k).binds fun _ _ _ _ _ _ us hl => match us, hl with | [_, _], _ => rfl⟩
theorem at_Ring__come {h : Heap} (X : K.In h) (G : h.Ns mainGlobals mg) {C f : Addr} {oc : Value} {od an : Option Addr} {osl : Array (Option Value)} {kV dc pm cd ct : Value} (aC : PySem.W.nsIn K mainGlobals "Ring" = some (some (.ref C))) (pg : PySem.W.plainGet K C Str.empty = true) (hd : PySem.W.hasDictIn K C = true) (po : PySem.W.plainOver K C = true) (sa : PySem.W.findIn K (.ref C) "__setattr__" = some (some (.builtin "object.__setattr__"))) (ma : PySem.W.findIn K (.ref C) "come" = some (some (.ref f))) (mf : PySem.W.isFn K (.ref f) = true) (k : PySem.W.keepIn K (.ref f) = true) (l : K.lookup f = some ⟨oc, od, .func (PySem.W.fnOf "come" "Ring.come" (defArgs s_Ring__come) (defBody s_Ring__come) (defScope s_Ring__come) .none kV dc pm an cd ct), osl⟩) (c : PySem.W.codeIn K cd "Ring.come" = true) : DefAtM K "Ring" "come" "Ring.come" s_Ring__come ["self", "x"] :=
  ⟨C, f, _, (fun C2 h2 => by rw [aC] at h2; cases h2; rfl), ⟨pg, hd, po, sa⟩, ⟨ma, mf, k⟩, fun_mk (st := s_Ring__come) l c k, (fun_mk (st := s_Ring__come) l c k).binds fun _ _ _ _ _ _ us hl => match us, hl with | [_, _], _ => rfl⟩
theorem at__law_goes {h : Heap} (X : K.In h) (G : h.Ns mainGlobals mg) {f : Addr} {oc : Value} {od an : Option Addr} {osl : Array (Option Value)} {kV dc pm cd ct : Value} (a : PySem.W.nsIn K mainGlobals "_law_goes" = some (some (.ref f))) (l : K.lookup f = some ⟨oc, od, .func (PySem.W.fnOf "_law_goes" "_law_goes" (defArgs s__law_goes) (defBody s__law_goes) (defScope s__law_goes) .none kV dc pm an cd ct), osl⟩) (c : PySem.W.codeIn K cd "_law_goes" = true) (k : PySem.W.keepIn K (.ref f) = true) : DefAt K mg "_law_goes" s__law_goes ["_law_ring", "_law_order_here", "_law_word"] :=
  ⟨f, _, fun_mk l c k, PySem.W.mg_of X G a, (fun_mk l c k).binds fun _ _ _ _ _ _ us hl => match us, hl with | [_, _, _], _ => rfl⟩
theorem at__law_pull {h : Heap} (X : K.In h) (G : h.Ns mainGlobals mg) {f : Addr} {oc : Value} {od an : Option Addr} {osl : Array (Option Value)} {kV dc pm cd ct : Value} (a : PySem.W.nsIn K mainGlobals "_law_pull" = some (some (.ref f))) (l : K.lookup f = some ⟨oc, od, .func (PySem.W.fnOf "_law_pull" "_law_pull" (defArgs s__law_pull) (defBody s__law_pull) (defScope s__law_pull) .none kV dc pm an cd ct), osl⟩) (c : PySem.W.codeIn K cd "_law_pull" = true) (k : PySem.W.keepIn K (.ref f) = true) : DefAt K mg "_law_pull" s__law_pull ["_law_jar_here", "_law_count"] :=
  ⟨f, _, fun_mk l c k, PySem.W.mg_of X G a, (fun_mk l c k).binds fun _ _ _ _ _ _ us hl => match us, hl with | [_, _], _ => rfl⟩
theorem at__law_size {h : Heap} (X : K.In h) (G : h.Ns mainGlobals mg) {f : Addr} {oc : Value} {od an : Option Addr} {osl : Array (Option Value)} {kV dc pm cd ct : Value} (a : PySem.W.nsIn K mainGlobals "_law_size" = some (some (.ref f))) (l : K.lookup f = some ⟨oc, od, .func (PySem.W.fnOf "_law_size" "_law_size" (defArgs s__law_size) (defBody s__law_size) (defScope s__law_size) .none kV dc pm an cd ct), osl⟩) (c : PySem.W.codeIn K cd "_law_size" = true) (k : PySem.W.keepIn K (.ref f) = true) : DefAt K mg "_law_size" s__law_size ["_law_jar_here", "_law_script"] :=
  ⟨f, _, fun_mk l c k, PySem.W.mg_of X G a, (fun_mk l c k).binds fun _ _ _ _ _ _ us hl => match us, hl with | [_, _], _ => rfl⟩
theorem at_Ring__back {h : Heap} (X : K.In h) (G : h.Ns mainGlobals mg) {C f : Addr} {oc : Value} {od an : Option Addr} {osl : Array (Option Value)} {kV dc pm cd ct : Value} (aC : PySem.W.nsIn K mainGlobals "Ring" = some (some (.ref C))) (pg : PySem.W.plainGet K C Str.empty = true) (hd : PySem.W.hasDictIn K C = true) (po : PySem.W.plainOver K C = true) (sa : PySem.W.findIn K (.ref C) "__setattr__" = some (some (.builtin "object.__setattr__"))) (ma : PySem.W.findIn K (.ref C) "back" = some (some (.ref f))) (mf : PySem.W.isFn K (.ref f) = true) (k : PySem.W.keepIn K (.ref f) = true) (l : K.lookup f = some ⟨oc, od, .func (PySem.W.fnOf "back" "Ring.back" (defArgs s_Ring__back) (defBody s_Ring__back) (defScope s_Ring__back) .none kV dc pm an cd ct), osl⟩) (c : PySem.W.codeIn K cd "Ring.back" = true) : DefAtM K "Ring" "back" "Ring.back" s_Ring__back ["self"] :=
  ⟨C, f, _, (fun C2 h2 => by rw [aC] at h2; cases h2; rfl), ⟨pg, hd, po, sa⟩, ⟨ma, mf, k⟩, fun_mk (st := s_Ring__back) l c k, (fun_mk (st := s_Ring__back) l c k).binds fun _ _ _ _ _ _ us hl => match us, hl with | [_], _ => rfl⟩
theorem at_Ring____eq__ {h : Heap} (X : K.In h) (G : h.Ns mainGlobals mg) {C f : Addr} {oc : Value} {od an : Option Addr} {osl : Array (Option Value)} {kV dc pm cd ct : Value} (aC : PySem.W.nsIn K mainGlobals "Ring" = some (some (.ref C))) (pg : PySem.W.plainGet K C Str.empty = true) (hd : PySem.W.hasDictIn K C = true) (po : PySem.W.plainOver K C = true) (sa : PySem.W.findIn K (.ref C) "__setattr__" = some (some (.builtin "object.__setattr__"))) (ma : PySem.W.findIn K (.ref C) "__eq__" = some (some (.ref f))) (mf : PySem.W.isFn K (.ref f) = true) (k : PySem.W.keepIn K (.ref f) = true) (l : K.lookup f = some ⟨oc, od, .func (PySem.W.fnOf "__eq__" "Ring.__eq__" (defArgs s_Ring____eq__) (defBody s_Ring____eq__) (defScope s_Ring____eq__) .none kV dc pm an cd ct), osl⟩) (c : PySem.W.codeIn K cd "Ring.__eq__" = true) : DefAtM K "Ring" "__eq__" "Ring.__eq__" s_Ring____eq__ ["self", "other"] :=
  ⟨C, f, _, (fun C2 h2 => by rw [aC] at h2; cases h2; rfl), ⟨pg, hd, po, sa⟩, ⟨ma, mf, k⟩, fun_mk (st := s_Ring____eq__) l c k, (fun_mk (st := s_Ring____eq__) l c k).binds fun _ _ _ _ _ _ us hl => match us, hl with | [_, _], _ => rfl⟩
theorem at__law_order {h : Heap} (X : K.In h) (G : h.Ns mainGlobals mg) {f : Addr} {oc : Value} {od an : Option Addr} {osl : Array (Option Value)} {kV dc pm cd ct : Value} (a : PySem.W.nsIn K mainGlobals "_law_order" = some (some (.ref f))) (l : K.lookup f = some ⟨oc, od, .func (PySem.W.fnOf "_law_order" "_law_order" (defArgs s__law_order) (defBody s__law_order) (defScope s__law_order) .none kV dc pm an cd ct), osl⟩) (c : PySem.W.codeIn K cd "_law_order" = true) (k : PySem.W.keepIn K (.ref f) = true) : DefAt K mg "_law_order" s__law_order ["_law_jar_here", "_law_size_here"] :=
  ⟨f, _, fun_mk l c k, PySem.W.mg_of X G a, (fun_mk l c k).binds fun _ _ _ _ _ _ us hl => match us, hl with | [_, _], _ => rfl⟩
theorem at_word_of {h : Heap} (X : K.In h) (G : h.Ns mainGlobals mg) {f : Addr} {oc : Value} {od an : Option Addr} {osl : Array (Option Value)} {kV dc pm cd ct : Value} (a : PySem.W.nsIn K mainGlobals "word_of" = some (some (.ref f))) (l : K.lookup f = some ⟨oc, od, .func (PySem.W.fnOf "word_of" "word_of" (defArgs s_word_of) (defBody s_word_of) (defScope s_word_of) .none kV dc pm an cd ct), osl⟩) (c : PySem.W.codeIn K cd "word_of" = true) (k : PySem.W.keepIn K (.ref f) = true) : DefAt K mg "word_of" s_word_of ["stand", "border"] :=
  ⟨f, _, fun_mk l c k, PySem.W.mg_of X G a, (fun_mk l c k).binds fun _ _ _ _ _ _ us hl => match us, hl with | [_, _], _ => rfl⟩
theorem at_words {h : Heap} (X : K.In h) (G : h.Ns mainGlobals mg) {f : Addr} {oc : Value} {od an : Option Addr} {osl : Array (Option Value)} {kV dc pm cd ct : Value} (a : PySem.W.nsIn K mainGlobals "words" = some (some (.ref f))) (l : K.lookup f = some ⟨oc, od, .func (PySem.W.fnOf "words" "words" (defArgs s_words) (defBody s_words) (defScope s_words) .none kV dc pm an cd ct), osl⟩) (c : PySem.W.codeIn K cd "words" = true) (k : PySem.W.keepIn K (.ref f) = true) : DefAt K mg "words" s_words ["stand"] :=
  ⟨f, _, fun_mk l c k, PySem.W.mg_of X G a, (fun_mk l c k).binds fun _ _ _ _ _ _ us hl => match us, hl with | [_], _ => rfl⟩
theorem at_owners_in {h : Heap} (X : K.In h) (G : h.Ns mainGlobals mg) {f : Addr} {oc : Value} {od an : Option Addr} {osl : Array (Option Value)} {kV dc pm cd ct : Value} (a : PySem.W.nsIn K mainGlobals "owners_in" = some (some (.ref f))) (l : K.lookup f = some ⟨oc, od, .func (PySem.W.fnOf "owners_in" "owners_in" (defArgs s_owners_in) (defBody s_owners_in) (defScope s_owners_in) .none kV dc pm an cd ct), osl⟩) (c : PySem.W.codeIn K cd "owners_in" = true) (k : PySem.W.keepIn K (.ref f) = true) : DefAt K mg "owners_in" s_owners_in ["told"] :=
  ⟨f, _, fun_mk l c k, PySem.W.mg_of X G a, (fun_mk l c k).binds fun _ _ _ _ _ _ us hl => match us, hl with | [_], _ => rfl⟩
theorem at_fewest {h : Heap} (X : K.In h) (G : h.Ns mainGlobals mg) {f : Addr} {oc : Value} {od an : Option Addr} {osl : Array (Option Value)} {kV dc pm cd ct : Value} (a : PySem.W.nsIn K mainGlobals "fewest" = some (some (.ref f))) (l : K.lookup f = some ⟨oc, od, .func (PySem.W.fnOf "fewest" "fewest" (defArgs s_fewest) (defBody s_fewest) (defScope s_fewest) .none kV dc pm an cd ct), osl⟩) (c : PySem.W.codeIn K cd "fewest" = true) (k : PySem.W.keepIn K (.ref f) = true) : DefAt K mg "fewest" s_fewest ["stand"] :=
  ⟨f, _, fun_mk l c k, PySem.W.mg_of X G a, (fun_mk l c k).binds fun _ _ _ _ _ _ us hl => match us, hl with | [_], _ => rfl⟩
theorem at_Ring__fewest {h : Heap} (X : K.In h) (G : h.Ns mainGlobals mg) {C f : Addr} {oc : Value} {od an : Option Addr} {osl : Array (Option Value)} {kV dc pm cd ct : Value} (aC : PySem.W.nsIn K mainGlobals "Ring" = some (some (.ref C))) (pg : PySem.W.plainGet K C Str.empty = true) (hd : PySem.W.hasDictIn K C = true) (po : PySem.W.plainOver K C = true) (sa : PySem.W.findIn K (.ref C) "__setattr__" = some (some (.builtin "object.__setattr__"))) (ma : PySem.W.findIn K (.ref C) "fewest" = some (some (.ref f))) (mf : PySem.W.isFn K (.ref f) = true) (k : PySem.W.keepIn K (.ref f) = true) (l : K.lookup f = some ⟨oc, od, .func (PySem.W.fnOf "fewest" "Ring.fewest" (defArgs s_Ring__fewest) (defBody s_Ring__fewest) (defScope s_Ring__fewest) .none kV dc pm an cd ct), osl⟩) (c : PySem.W.codeIn K cd "Ring.fewest" = true) : DefAtM K "Ring" "fewest" "Ring.fewest" s_Ring__fewest ["self"] :=
  ⟨C, f, _, (fun C2 h2 => by rw [aC] at h2; cases h2; rfl), ⟨pg, hd, po, sa⟩, ⟨ma, mf, k⟩, fun_mk (st := s_Ring__fewest) l c k, (fun_mk (st := s_Ring__fewest) l c k).binds fun _ _ _ _ _ _ us hl => match us, hl with | [_], _ => rfl⟩
theorem at_Ring____len__ {h : Heap} (X : K.In h) (G : h.Ns mainGlobals mg) {C f : Addr} {oc : Value} {od an : Option Addr} {osl : Array (Option Value)} {kV dc pm cd ct : Value} (aC : PySem.W.nsIn K mainGlobals "Ring" = some (some (.ref C))) (pg : PySem.W.plainGet K C Str.empty = true) (hd : PySem.W.hasDictIn K C = true) (po : PySem.W.plainOver K C = true) (sa : PySem.W.findIn K (.ref C) "__setattr__" = some (some (.builtin "object.__setattr__"))) (ma : PySem.W.findIn K (.ref C) "__len__" = some (some (.ref f))) (mf : PySem.W.isFn K (.ref f) = true) (k : PySem.W.keepIn K (.ref f) = true) (l : K.lookup f = some ⟨oc, od, .func (PySem.W.fnOf "__len__" "Ring.__len__" (defArgs s_Ring____len__) (defBody s_Ring____len__) (defScope s_Ring____len__) .none kV dc pm an cd ct), osl⟩) (c : PySem.W.codeIn K cd "Ring.__len__" = true) : DefAtM K "Ring" "__len__" "Ring.__len__" s_Ring____len__ ["self"] :=
  ⟨C, f, _, (fun C2 h2 => by rw [aC] at h2; cases h2; rfl), ⟨pg, hd, po, sa⟩, ⟨ma, mf, k⟩, fun_mk (st := s_Ring____len__) l c k, (fun_mk (st := s_Ring____len__) l c k).binds fun _ _ _ _ _ _ us hl => match us, hl with | [_], _ => rfl⟩
theorem at_need_known {h : Heap} (X : K.In h) (G : h.Ns mainGlobals mg) {f : Addr} {oc : Value} {od an : Option Addr} {osl : Array (Option Value)} {kV dc pm cd ct : Value} (a : PySem.W.nsIn K mainGlobals "need_known" = some (some (.ref f))) (l : K.lookup f = some ⟨oc, od, .func (PySem.W.fnOf "need_known" "need_known" (defArgs s_need_known) (defBody s_need_known) (defScope s_need_known) .none kV dc pm an cd ct), osl⟩) (c : PySem.W.codeIn K cd "need_known" = true) (k : PySem.W.keepIn K (.ref f) = true) : DefAt K mg "need_known" s_need_known ["stand"] :=
  ⟨f, _, fun_mk l c k, PySem.W.mg_of X G a, (fun_mk l c k).binds fun _ _ _ _ _ _ us hl => match us, hl with | [_], _ => rfl⟩
theorem at_owners {h : Heap} (X : K.In h) (G : h.Ns mainGlobals mg) {f : Addr} {oc : Value} {od an : Option Addr} {osl : Array (Option Value)} {kV dc pm cd ct : Value} (a : PySem.W.nsIn K mainGlobals "owners" = some (some (.ref f))) (l : K.lookup f = some ⟨oc, od, .func (PySem.W.fnOf "owners" "owners" (defArgs s_owners) (defBody s_owners) (defScope s_owners) .none kV dc pm an cd ct), osl⟩) (c : PySem.W.codeIn K cd "owners" = true) (k : PySem.W.keepIn K (.ref f) = true) : DefAt K mg "owners" s_owners ["stand"] :=
  ⟨f, _, fun_mk l c k, PySem.W.mg_of X G a, (fun_mk l c k).binds fun _ _ _ _ _ _ us hl => match us, hl with | [_], _ => rfl⟩
theorem at_is_sure {h : Heap} (X : K.In h) (G : h.Ns mainGlobals mg) {f : Addr} {oc : Value} {od an : Option Addr} {osl : Array (Option Value)} {kV dc pm cd ct : Value} (a : PySem.W.nsIn K mainGlobals "is_sure" = some (some (.ref f))) (l : K.lookup f = some ⟨oc, od, .func (PySem.W.fnOf "is_sure" "is_sure" (defArgs s_is_sure) (defBody s_is_sure) (defScope s_is_sure) .none kV dc pm an cd ct), osl⟩) (c : PySem.W.codeIn K cd "is_sure" = true) (k : PySem.W.keepIn K (.ref f) = true) : DefAt K mg "is_sure" s_is_sure ["stand", "dancer"] :=
  ⟨f, _, fun_mk l c k, PySem.W.mg_of X G a, (fun_mk l c k).binds fun _ _ _ _ _ _ us hl => match us, hl with | [_, _], _ => rfl⟩
theorem at_waits {h : Heap} (X : K.In h) (G : h.Ns mainGlobals mg) {f : Addr} {oc : Value} {od an : Option Addr} {osl : Array (Option Value)} {kV dc pm cd ct : Value} (a : PySem.W.nsIn K mainGlobals "waits" = some (some (.ref f))) (l : K.lookup f = some ⟨oc, od, .func (PySem.W.fnOf "waits" "waits" (defArgs s_waits) (defBody s_waits) (defScope s_waits) .none kV dc pm an cd ct), osl⟩) (c : PySem.W.codeIn K cd "waits" = true) (k : PySem.W.keepIn K (.ref f) = true) : DefAt K mg "waits" s_waits ["stand"] :=
  ⟨f, _, fun_mk l c k, PySem.W.mg_of X G a, (fun_mk l c k).binds fun _ _ _ _ _ _ us hl => match us, hl with | [_], _ => rfl⟩
theorem at_unlike_owners {h : Heap} (X : K.In h) (G : h.Ns mainGlobals mg) {f : Addr} {oc : Value} {od an : Option Addr} {osl : Array (Option Value)} {kV dc pm cd ct : Value} (a : PySem.W.nsIn K mainGlobals "unlike_owners" = some (some (.ref f))) (l : K.lookup f = some ⟨oc, od, .func (PySem.W.fnOf "unlike_owners" "unlike_owners" (defArgs s_unlike_owners) (defBody s_unlike_owners) (defScope s_unlike_owners) .none kV dc pm an cd ct), osl⟩) (c : PySem.W.codeIn K cd "unlike_owners" = true) (k : PySem.W.keepIn K (.ref f) = true) : DefAt K mg "unlike_owners" s_unlike_owners ["stand"] :=
  ⟨f, _, fun_mk l c k, PySem.W.mg_of X G a, (fun_mk l c k).binds fun _ _ _ _ _ _ us hl => match us, hl with | [_], _ => rfl⟩
theorem at_burdens {h : Heap} (X : K.In h) (G : h.Ns mainGlobals mg) {f : Addr} {oc : Value} {od an : Option Addr} {osl : Array (Option Value)} {kV dc pm cd ct : Value} (a : PySem.W.nsIn K mainGlobals "burdens" = some (some (.ref f))) (l : K.lookup f = some ⟨oc, od, .func (PySem.W.fnOf "burdens" "burdens" (defArgs s_burdens) (defBody s_burdens) (defScope s_burdens) .none kV dc pm an cd ct), osl⟩) (c : PySem.W.codeIn K cd "burdens" = true) (k : PySem.W.keepIn K (.ref f) = true) : DefAt K mg "burdens" s_burdens ["stand"] :=
  ⟨f, _, fun_mk l c k, PySem.W.mg_of X G a, (fun_mk l c k).binds fun _ _ _ _ _ _ us hl => match us, hl with | [_], _ => rfl⟩
theorem at_counted_by {h : Heap} (X : K.In h) (G : h.Ns mainGlobals mg) {f : Addr} {oc : Value} {od an : Option Addr} {osl : Array (Option Value)} {kV dc pm cd ct : Value} (a : PySem.W.nsIn K mainGlobals "counted_by" = some (some (.ref f))) (l : K.lookup f = some ⟨oc, od, .func (PySem.W.fnOf "counted_by" "counted_by" (defArgs s_counted_by) (defBody s_counted_by) (defScope s_counted_by) .none kV dc pm an cd ct), osl⟩) (c : PySem.W.codeIn K cd "counted_by" = true) (k : PySem.W.keepIn K (.ref f) = true) : DefAt K mg "counted_by" s_counted_by ["numbers"] :=
  ⟨f, _, fun_mk l c k, PySem.W.mg_of X G a, (fun_mk l c k).binds fun _ _ _ _ _ _ us hl => match us, hl with | [_], _ => rfl⟩
theorem at_next_at {h : Heap} (X : K.In h) (G : h.Ns mainGlobals mg) {f : Addr} {oc : Value} {od an : Option Addr} {osl : Array (Option Value)} {kV dc pm cd ct : Value} (a : PySem.W.nsIn K mainGlobals "next_at" = some (some (.ref f))) (l : K.lookup f = some ⟨oc, od, .func (PySem.W.fnOf "next_at" "next_at" (defArgs s_next_at) (defBody s_next_at) (defScope s_next_at) .none kV dc pm an cd ct), osl⟩) (c : PySem.W.codeIn K cd "next_at" = true) (k : PySem.W.keepIn K (.ref f) = true) : DefAt K mg "next_at" s_next_at ["shares", "number"] :=
  ⟨f, _, fun_mk l c k, PySem.W.mg_of X G a, (fun_mk l c k).binds fun _ _ _ _ _ _ us hl => match us, hl with | [_, _], _ => rfl⟩
theorem at_tidy_at {h : Heap} (X : K.In h) (G : h.Ns mainGlobals mg) {f : Addr} {oc : Value} {od an : Option Addr} {osl : Array (Option Value)} {kV dc pm cd ct : Value} (a : PySem.W.nsIn K mainGlobals "tidy_at" = some (some (.ref f))) (l : K.lookup f = some ⟨oc, od, .func (PySem.W.fnOf "tidy_at" "tidy_at" (defArgs s_tidy_at) (defBody s_tidy_at) (defScope s_tidy_at) .none kV dc pm an cd ct), osl⟩) (c : PySem.W.codeIn K cd "tidy_at" = true) (k : PySem.W.keepIn K (.ref f) = true) : DefAt K mg "tidy_at" s_tidy_at ["stand", "number"] :=
  ⟨f, _, fun_mk l c k, PySem.W.mg_of X G a, (fun_mk l c k).binds fun _ _ _ _ _ _ us hl => match us, hl with | [_, _], _ => rfl⟩
theorem at_mending {h : Heap} (X : K.In h) (G : h.Ns mainGlobals mg) {f : Addr} {oc : Value} {od an : Option Addr} {osl : Array (Option Value)} {kV dc pm cd ct : Value} (a : PySem.W.nsIn K mainGlobals "mending" = some (some (.ref f))) (l : K.lookup f = some ⟨oc, od, .func (PySem.W.fnOf "mending" "mending" (defArgs s_mending) (defBody s_mending) (defScope s_mending) .none kV dc pm an cd ct), osl⟩) (c : PySem.W.codeIn K cd "mending" = true) (k : PySem.W.keepIn K (.ref f) = true) : DefAt K mg "mending" s_mending ["stand"] :=
  ⟨f, _, fun_mk l c k, PySem.W.mg_of X G a, (fun_mk l c k).binds fun _ _ _ _ _ _ us hl => match us, hl with | [_], _ => rfl⟩
theorem at_Ring__mend {h : Heap} (X : K.In h) (G : h.Ns mainGlobals mg) {C f : Addr} {oc : Value} {od an : Option Addr} {osl : Array (Option Value)} {kV dc pm cd ct : Value} (aC : PySem.W.nsIn K mainGlobals "Ring" = some (some (.ref C))) (pg : PySem.W.plainGet K C Str.empty = true) (hd : PySem.W.hasDictIn K C = true) (po : PySem.W.plainOver K C = true) (sa : PySem.W.findIn K (.ref C) "__setattr__" = some (some (.builtin "object.__setattr__"))) (ma : PySem.W.findIn K (.ref C) "mend" = some (some (.ref f))) (mf : PySem.W.isFn K (.ref f) = true) (k : PySem.W.keepIn K (.ref f) = true) (l : K.lookup f = some ⟨oc, od, .func (PySem.W.fnOf "mend" "Ring.mend" (defArgs s_Ring__mend) (defBody s_Ring__mend) (defScope s_Ring__mend) .none kV dc pm an cd ct), osl⟩) (c : PySem.W.codeIn K cd "Ring.mend" = true) : DefAtM K "Ring" "mend" "Ring.mend" s_Ring__mend ["self"] :=
  ⟨C, f, _, (fun C2 h2 => by rw [aC] at h2; cases h2; rfl), ⟨pg, hd, po, sa⟩, ⟨ma, mf, k⟩, fun_mk (st := s_Ring__mend) l c k, (fun_mk (st := s_Ring__mend) l c k).binds fun _ _ _ _ _ _ us hl => match us, hl with | [_], _ => rfl⟩
theorem at_Ring__stand {h : Heap} (X : K.In h) (G : h.Ns mainGlobals mg) {C f : Addr} {oc : Value} {od an : Option Addr} {osl : Array (Option Value)} {kV dc pm cd ct : Value} (aC : PySem.W.nsIn K mainGlobals "Ring" = some (some (.ref C))) (pg : PySem.W.plainGet K C Str.empty = true) (hd : PySem.W.hasDictIn K C = true) (po : PySem.W.plainOver K C = true) (sa : PySem.W.findIn K (.ref C) "__setattr__" = some (some (.builtin "object.__setattr__"))) (ma : PySem.W.findIn K (.ref C) "stand" = some (some (.ref f))) (mf : PySem.W.isFn K (.ref f) = true) (k : PySem.W.keepIn K (.ref f) = true) (l : K.lookup f = some ⟨oc, od, .func (PySem.W.fnOf "stand" "Ring.stand" (defArgs s_Ring__stand) (defBody s_Ring__stand) (defScope s_Ring__stand) .none kV dc pm an cd ct), osl⟩) (c : PySem.W.codeIn K cd "Ring.stand" = true) : DefAtM K "Ring" "stand" "Ring.stand" s_Ring__stand ["self"] :=
  ⟨C, f, _, (fun C2 h2 => by rw [aC] at h2; cases h2; rfl), ⟨pg, hd, po, sa⟩, ⟨ma, mf, k⟩, fun_mk (st := s_Ring__stand) l c k, (fun_mk (st := s_Ring__stand) l c k).binds fun _ _ _ _ _ _ us hl => match us, hl with | [_], _ => rfl⟩
theorem at__law_mended_right {h : Heap} (X : K.In h) (G : h.Ns mainGlobals mg) {f : Addr} {oc : Value} {od an : Option Addr} {osl : Array (Option Value)} {kV dc pm cd ct : Value} (a : PySem.W.nsIn K mainGlobals "_law_mended_right" = some (some (.ref f))) (l : K.lookup f = some ⟨oc, od, .func (PySem.W.fnOf "_law_mended_right" "_law_mended_right" (defArgs s__law_mended_right) (defBody s__law_mended_right) (defScope s__law_mended_right) .none kV dc pm an cd ct), osl⟩) (c : PySem.W.codeIn K cd "_law_mended_right" = true) (k : PySem.W.keepIn K (.ref f) = true) : DefAt K mg "_law_mended_right" s__law_mended_right ["_law_ring", "_law_pair"] :=
  ⟨f, _, fun_mk l c k, PySem.W.mg_of X G a, (fun_mk l c k).binds fun _ _ _ _ _ _ us hl => match us, hl with | [_, _], _ => rfl⟩
theorem at__law_due {h : Heap} (X : K.In h) (G : h.Ns mainGlobals mg) {f : Addr} {oc : Value} {od an : Option Addr} {osl : Array (Option Value)} {kV dc pm cd ct : Value} (a : PySem.W.nsIn K mainGlobals "_law_due" = some (some (.ref f))) (l : K.lookup f = some ⟨oc, od, .func (PySem.W.fnOf "_law_due" "_law_due" (defArgs s__law_due) (defBody s__law_due) (defScope s__law_due) .none kV dc pm an cd ct), osl⟩) (c : PySem.W.codeIn K cd "_law_due" = true) (k : PySem.W.keepIn K (.ref f) = true) : DefAt K mg "_law_due" s__law_due ["_law_order_here", "_law_size_here"] :=
  ⟨f, _, fun_mk l c k, PySem.W.mg_of X G a, (fun_mk l c k).binds fun _ _ _ _ _ _ us hl => match us, hl with | [_, _], _ => rfl⟩
theorem at__law_round_right {h : Heap} (X : K.In h) (G : h.Ns mainGlobals mg) {f : Addr} {oc : Value} {od an : Option Addr} {osl : Array (Option Value)} {kV dc pm cd ct : Value} (a : PySem.W.nsIn K mainGlobals "_law_round_right" = some (some (.ref f))) (l : K.lookup f = some ⟨oc, od, .func (PySem.W.fnOf "_law_round_right" "_law_round_right" (defArgs s__law_round_right) (defBody s__law_round_right) (defScope s__law_round_right) .none kV dc pm an cd ct), osl⟩) (c : PySem.W.codeIn K cd "_law_round_right" = true) (k : PySem.W.keepIn K (.ref f) = true) : DefAt K mg "_law_round_right" s__law_round_right ["_law_jar_here", "_law_ring", "_law_size_here", "_law_pair"] :=
  ⟨f, _, fun_mk l c k, PySem.W.mg_of X G a, (fun_mk l c k).binds fun _ _ _ _ _ _ us hl => match us, hl with | [_, _, _, _], _ => rfl⟩
theorem at_need_deeds {h : Heap} (X : K.In h) (G : h.Ns mainGlobals mg) {f : Addr} {oc : Value} {od an : Option Addr} {osl : Array (Option Value)} {kV dc pm cd ct : Value} (a : PySem.W.nsIn K mainGlobals "need_deeds" = some (some (.ref f))) (l : K.lookup f = some ⟨oc, od, .func (PySem.W.fnOf "need_deeds" "need_deeds" (defArgs s_need_deeds) (defBody s_need_deeds) (defScope s_need_deeds) .none kV dc pm an cd ct), osl⟩) (c : PySem.W.codeIn K cd "need_deeds" = true) (k : PySem.W.keepIn K (.ref f) = true) : DefAt K mg "need_deeds" s_need_deeds ["deeds", "most"] :=
  ⟨f, _, fun_mk l c k, PySem.W.mg_of X G a, (fun_mk l c k).binds fun _ _ _ _ _ _ us hl => match us, hl with | [_, _], _ => rfl⟩
theorem at_behind {h : Heap} (X : K.In h) (G : h.Ns mainGlobals mg) {f : Addr} {oc : Value} {od an : Option Addr} {osl : Array (Option Value)} {kV dc pm cd ct : Value} (a : PySem.W.nsIn K mainGlobals "behind" = some (some (.ref f))) (l : K.lookup f = some ⟨oc, od, .func (PySem.W.fnOf "behind" "behind" (defArgs s_behind) (defBody s_behind) (defScope s_behind) .none kV dc pm an cd ct), osl⟩) (c : PySem.W.codeIn K cd "behind" = true) (k : PySem.W.keepIn K (.ref f) = true) : DefAt K mg "behind" s_behind ["stand", "deeds"] :=
  ⟨f, _, fun_mk l c k, PySem.W.mg_of X G a, (fun_mk l c k).binds fun _ _ _ _ _ _ us hl => match us, hl with | [_, _], _ => rfl⟩
theorem blts_of {h : Heap} (X : K.In h) (G : h.Ns mainGlobals mg) (z0 : PySem.W.nsIn K mainGlobals "all" = some none) (z1 : PySem.W.nsIn K mainGlobals "bool" = some none) (z2 : PySem.W.nsIn K mainGlobals "dict" = some none) (z3 : PySem.W.nsIn K mainGlobals "enumerate" = some none) (z4 : PySem.W.nsIn K mainGlobals "int" = some none) (z5 : PySem.W.nsIn K mainGlobals "isinstance" = some none) (z6 : PySem.W.nsIn K mainGlobals "len" = some none) (z7 : PySem.W.nsIn K mainGlobals "list" = some none) (z8 : PySem.W.nsIn K mainGlobals "max" = some none) (z9 : PySem.W.nsIn K mainGlobals "min" = some none) (z10 : PySem.W.nsIn K mainGlobals "range" = some none) (z11 : PySem.W.nsIn K mainGlobals "sorted" = some none) (z12 : PySem.W.nsIn K mainGlobals "str" = some none) (z13 : PySem.W.nsIn K mainGlobals "tuple" = some none) : Blts mg := by
  show ∀ x ∈ bltNames, mg x = none
  unfold bltNames
  exact List.forall_mem_cons.mpr ⟨PySem.W.mg_none_of X G z0, List.forall_mem_cons.mpr ⟨PySem.W.mg_none_of X G z1, List.forall_mem_cons.mpr ⟨PySem.W.mg_none_of X G z2, List.forall_mem_cons.mpr ⟨PySem.W.mg_none_of X G z3, List.forall_mem_cons.mpr ⟨PySem.W.mg_none_of X G z4, List.forall_mem_cons.mpr ⟨PySem.W.mg_none_of X G z5, List.forall_mem_cons.mpr ⟨PySem.W.mg_none_of X G z6, List.forall_mem_cons.mpr ⟨PySem.W.mg_none_of X G z7, List.forall_mem_cons.mpr ⟨PySem.W.mg_none_of X G z8, List.forall_mem_cons.mpr ⟨PySem.W.mg_none_of X G z9, List.forall_mem_cons.mpr ⟨PySem.W.mg_none_of X G z10, List.forall_mem_cons.mpr ⟨PySem.W.mg_none_of X G z11, List.forall_mem_cons.mpr ⟨PySem.W.mg_none_of X G z12, List.forall_mem_cons.mpr ⟨PySem.W.mg_none_of X G z13, fun x hx => nomatch hx⟩⟩⟩⟩⟩⟩⟩⟩⟩⟩⟩⟩⟩⟩
theorem gc_COME_deeds {h : Heap} (X : K.In h) (G : h.Ns mainGlobals mg) {t : Tok} (a : PySem.W.nsIn K mainGlobals "COME_deeds" = some (some (.str "come" t))) : GlobC mg K "COME_deeds" k_COME_deeds := ⟨_, .str "come", PySem.W.mg_of X G a, ⟨t, rfl⟩, fun _ _ => rfl⟩
theorem gc_COME_mending {h : Heap} (X : K.In h) (G : h.Ns mainGlobals mg) {t : Tok} (a : PySem.W.nsIn K mainGlobals "COME_mending" = some (some (.str "come" t))) : GlobC mg K "COME_mending" k_COME_mending := ⟨_, .str "come", PySem.W.mg_of X G a, ⟨t, rfl⟩, fun _ _ => rfl⟩
theorem gc_FORGOTTEN_mending {h : Heap} (X : K.In h) (G : h.Ns mainGlobals mg) {t : Tok} (a : PySem.W.nsIn K mainGlobals "FORGOTTEN_mending" = some (some (.str "forgotten" t))) : GlobC mg K "FORGOTTEN_mending" k_FORGOTTEN_mending := ⟨_, .str "forgotten", PySem.W.mg_of X G a, ⟨t, rfl⟩, fun _ _ => rfl⟩
theorem gc_FORGOTTEN_stands {h : Heap} (X : K.In h) (G : h.Ns mainGlobals mg) {t : Tok} (a : PySem.W.nsIn K mainGlobals "FORGOTTEN_stands" = some (some (.str "forgotten" t))) : GlobC mg K "FORGOTTEN_stands" k_FORGOTTEN_stands := ⟨_, .str "forgotten", PySem.W.mg_of X G a, ⟨t, rfl⟩, fun _ _ => rfl⟩
theorem gc_GO {h : Heap} (X : K.In h) (G : h.Ns mainGlobals mg) {t : Tok} (a : PySem.W.nsIn K mainGlobals "GO" = some (some (.str "go" t))) : GlobC mg K "GO" k_GO := ⟨_, .str "go", PySem.W.mg_of X G a, ⟨t, rfl⟩, fun _ _ => rfl⟩
theorem gc_HELD_mending {h : Heap} (X : K.In h) (G : h.Ns mainGlobals mg) {t : Tok} (a : PySem.W.nsIn K mainGlobals "HELD_mending" = some (some (.str "held" t))) : GlobC mg K "HELD_mending" k_HELD_mending := ⟨_, .str "held", PySem.W.mg_of X G a, ⟨t, rfl⟩, fun _ _ => rfl⟩
theorem gc_HELD_stands {h : Heap} (X : K.In h) (G : h.Ns mainGlobals mg) {t : Tok} (a : PySem.W.nsIn K mainGlobals "HELD_stands" = some (some (.str "held" t))) : GlobC mg K "HELD_stands" k_HELD_stands := ⟨_, .str "held", PySem.W.mg_of X G a, ⟨t, rfl⟩, fun _ _ => rfl⟩
theorem gc_LEAST_DANCER {h : Heap} (X : K.In h) (G : h.Ns mainGlobals mg) {t : Tok} (a : PySem.W.nsIn K mainGlobals "LEAST_DANCER" = some (some (.int 1 t))) : GlobC mg K "LEAST_DANCER" k_LEAST_DANCER := ⟨_, .int 1, PySem.W.mg_of X G a, ⟨t, rfl⟩, fun _ _ => rfl⟩
theorem gc_LEFT_deeds {h : Heap} (X : K.In h) (G : h.Ns mainGlobals mg) {t : Tok} (a : PySem.W.nsIn K mainGlobals "LEFT_deeds" = some (some (.str "left" t))) : GlobC mg K "LEFT_deeds" k_LEFT_deeds := ⟨_, .str "left", PySem.W.mg_of X G a, ⟨t, rfl⟩, fun _ _ => rfl⟩
theorem gc_LEFT_mending {h : Heap} (X : K.In h) (G : h.Ns mainGlobals mg) {t : Tok} (a : PySem.W.nsIn K mainGlobals "LEFT_mending" = some (some (.str "left" t))) : GlobC mg K "LEFT_mending" k_LEFT_mending := ⟨_, .str "left", PySem.W.mg_of X G a, ⟨t, rfl⟩, fun _ _ => rfl⟩
theorem gc_LEFT_stands {h : Heap} (X : K.In h) (G : h.Ns mainGlobals mg) {t : Tok} (a : PySem.W.nsIn K mainGlobals "LEFT_stands" = some (some (.str "left" t))) : GlobC mg K "LEFT_stands" k_LEFT_stands := ⟨_, .str "left", PySem.W.mg_of X G a, ⟨t, rfl⟩, fun _ _ => rfl⟩
theorem gc_MOST_DANCERS {h : Heap} (X : K.In h) (G : h.Ns mainGlobals mg) {t : Tok} (a : PySem.W.nsIn K mainGlobals "MOST_DANCERS" = some (some (.int 200 t))) : GlobC mg K "MOST_DANCERS" k_MOST_DANCERS := ⟨_, .int 200, PySem.W.mg_of X G a, ⟨t, rfl⟩, fun _ _ => rfl⟩
theorem gc_RIGHT_deeds {h : Heap} (X : K.In h) (G : h.Ns mainGlobals mg) {t : Tok} (a : PySem.W.nsIn K mainGlobals "RIGHT_deeds" = some (some (.str "right" t))) : GlobC mg K "RIGHT_deeds" k_RIGHT_deeds := ⟨_, .str "right", PySem.W.mg_of X G a, ⟨t, rfl⟩, fun _ _ => rfl⟩
theorem gc_RIGHT_stands {h : Heap} (X : K.In h) (G : h.Ns mainGlobals mg) {t : Tok} (a : PySem.W.nsIn K mainGlobals "RIGHT_stands" = some (some (.str "right" t))) : GlobC mg K "RIGHT_stands" k_RIGHT_stands := ⟨_, .str "right", PySem.W.mg_of X G a, ⟨t, rfl⟩, fun _ _ => rfl⟩
theorem gc_WORDS {h : Heap} (X : K.In h) (G : h.Ns mainGlobals mg) {a : Addr} {od : Option Addr} {its : Array Value} {n : Nat} {osl : Array (Option Value)} (e : PySem.W.nsIn K mainGlobals "WORDS" = some (some (.ref a))) (l : K.lookup a = some ⟨.type "tuple", od, .seq its n, osl⟩) (z : its.size ≤ sizeLine) (v : Vals [.str "go", .str "come"] its.toList) : GlobC mg K "WORDS" k_WORDS := gc_tup (PySem.W.mg_of X G e) l z v fun _ _ => ⟨_, _, rfl, rfl, ⟨_, _, rfl, rfl, rfl⟩⟩
theorem fa_cl_Ring {h : Heap} (X : K.In h) (G : h.Ns mainGlobals mg) {C : Addr} (aC : PySem.W.nsIn K mainGlobals "Ring" = some (some (.ref C))) (pg : PySem.W.plainGet K C Str.empty = true) (hd : PySem.W.hasDictIn K C = true) (po : PySem.W.plainOver K C = true) (sa : PySem.W.findIn K (.ref C) "__setattr__" = some (some (.builtin "object.__setattr__"))) : ClsAt K "Ring" := fun C2 h2 => by
  rw [aC] at h2
  cases h2
  exact ⟨pg, hd, po, sa⟩
theorem fa_nf_Ring_stand_held {h : Heap} (X : K.In h) (G : h.Ns mainGlobals mg) {C : Addr} (aC : PySem.W.nsIn K mainGlobals "Ring" = some (some (.ref C))) (nf : PySem.W.findIn K (.ref C) "stand_held" = some none) : NoAt K "Ring" "stand_held" := fun C2 h2 => by
  rw [aC] at h2
  cases h2
  exact nf
theorem fa_nf_Ring_done_held {h : Heap} (X : K.In h) (G : h.Ns mainGlobals mg) {C : Addr} (aC : PySem.W.nsIn K mainGlobals "Ring" = some (some (.ref C))) (nf : PySem.W.findIn K (.ref C) "done_held" = some none) : NoAt K "Ring" "done_held" := fun C2 h2 => by
  rw [aC] at h2
  cases h2
  exact nf
theorem fa_nf_Ring_back_held {h : Heap} (X : K.In h) (G : h.Ns mainGlobals mg) {C : Addr} (aC : PySem.W.nsIn K mainGlobals "Ring" = some (some (.ref C))) (nf : PySem.W.findIn K (.ref C) "back_held" = some none) : NoAt K "Ring" "back_held" := fun C2 h2 => by
  rw [aC] at h2
  cases h2
  exact nf
theorem fa_r_Nothing {h : Heap} (X : K.In h) (G : h.Ns mainGlobals mg) {C : Addr} (aC : PySem.W.nsIn K mainGlobals "Nothing" = some (some (.ref C))) (ex : PySem.W.excIn K C [.type "ValueError", .type "Exception", .type "BaseException", .type "object"] "ValueError.__new__" = true) (kp : PySem.W.keepIn K (.ref C) = true) (sb : PySem.W.subIn K (.ref C) (.type "BaseException") = some true) (ty : PySem.W.typeIn K (.ref C) = some (.type "type")) : Raise0 K mg "Nothing" := ⟨C, PySem.W.mg_of X G aC, ex, kp, sb, ty⟩
theorem fa_ow_Ring {h : Heap} (X : K.In h) (G : h.Ns mainGlobals mg) {C : Addr} (aC : PySem.W.nsIn K mainGlobals "Ring" = some (some (.ref C))) (pg : PySem.W.plainGet K C Str.empty = true) (hd : PySem.W.hasDictIn K C = true) (po : PySem.W.plainOver K C = true) (sa : PySem.W.findIn K (.ref C) "__setattr__" = some (some (.builtin "object.__setattr__"))) (xa : PySem.W.findIn K (.ref C) "__class__" = some (some (.builtin "object.__class__"))) (xn : PySem.W.specialIn K (.builtin "object.__class__") "__get__" = some (some (.builtin "getset_descriptor.__get__"))) (xt : PySem.W.takesIn K (.builtin "object.__class__") = some true) (xm : PySem.W.mroIn K C (.type "object") = some true) (xe : PySem.W.findIn K (.ref C) "__ne__" = some (some (.builtin "object.__ne__"))) (ty : PySem.W.typeIn K (.ref C) = some (.type "type")) : OwnW K mg "Ring" := ⟨C, PySem.W.mg_of X G aC, aC, ⟨⟨pg, hd, po, sa⟩, xa, xn, xt, xm, xe, ty⟩⟩
theorem fa_al_words_stands {h : Heap} (X : K.In h) (G : h.Ns mainGlobals mg) {f : Addr} (a1 : PySem.W.nsIn K mainGlobals "words" = some (some (.ref f))) (a2 : PySem.W.nsIn K mainGlobals "words_stands" = some (some (.ref f))) : mg "words_stands" = mg "words" := (PySem.W.mg_of X G a2).trans (PySem.W.mg_of X G a1).symm
theorem fa_al_fewest_mending {h : Heap} (X : K.In h) (G : h.Ns mainGlobals mg) {f : Addr} (a1 : PySem.W.nsIn K mainGlobals "fewest" = some (some (.ref f))) (a2 : PySem.W.nsIn K mainGlobals "fewest_mending" = some (some (.ref f))) : mg "fewest_mending" = mg "fewest" := (PySem.W.mg_of X G a2).trans (PySem.W.mg_of X G a1).symm
theorem all_mk {l0 : PySem.W.OpenLaw} {w : World} {h : Heap} {fa : Addr} (X : K.In h) (G : h.Ns mainGlobals mg) (hfa : mg "law" = some (.ref fa)) (hB : Blts mg) (hG : Globs mg K)
    (d__law_cells : DefAt K mg "_law_cells" s__law_cells ["_law_script", "_law_most"]) (d__law_jar : DefAt K mg "_law_jar" s__law_jar ["_law_cell", "_law_k"]) (d_is_between : DefAt K mg "is_between" s_is_between ["thing", "least", "most"]) (d_need_dancers : DefAt K mg "need_dancers" s_need_dancers ["n"]) (d_whole : DefAt K mg "whole" s_whole ["n"]) (d_is_stand : DefAt K mg "is_stand" s_is_stand ["thing"]) (d_need_stand : DefAt K mg "need_stand" s_need_stand ["stand"]) (d_copied : DefAt K mg "copied" s_copied ["stand"]) (d_first_stand : DefAt K mg "first_stand" s_first_stand ["n", "stand"]) (d_hands_by : DefAt K mg "hands_by" s_hands_by ["stand", "deed"]) (d_with_deed : DefAt K mg "with_deed" s_with_deed ["stand", "deed"]) (d_is_deed : DefAt K mg "is_deed" s_is_deed ["thing", "most"]) (d_dancers_of : DefAt K mg "dancers_of" s_dancers_of ["stand"]) (d__law_goes : DefAt K mg "_law_goes" s__law_goes ["_law_ring", "_law_order_here", "_law_word"]) (d__law_pull : DefAt K mg "_law_pull" s__law_pull ["_law_jar_here", "_law_count"]) (d__law_size : DefAt K mg "_law_size" s__law_size ["_law_jar_here", "_law_script"]) (d__law_order : DefAt K mg "_law_order" s__law_order ["_law_jar_here", "_law_size_here"]) (d_word_of : DefAt K mg "word_of" s_word_of ["stand", "border"]) (d_words : DefAt K mg "words" s_words ["stand"]) (d_owners_in : DefAt K mg "owners_in" s_owners_in ["told"]) (d_fewest : DefAt K mg "fewest" s_fewest ["stand"]) (d_need_known : DefAt K mg "need_known" s_need_known ["stand"]) (d_owners : DefAt K mg "owners" s_owners ["stand"]) (d_is_sure : DefAt K mg "is_sure" s_is_sure ["stand", "dancer"]) (d_waits : DefAt K mg "waits" s_waits ["stand"]) (d_unlike_owners : DefAt K mg "unlike_owners" s_unlike_owners ["stand"]) (d_burdens : DefAt K mg "burdens" s_burdens ["stand"]) (d_counted_by : DefAt K mg "counted_by" s_counted_by ["numbers"]) (d_next_at : DefAt K mg "next_at" s_next_at ["shares", "number"]) (d_tidy_at : DefAt K mg "tidy_at" s_tidy_at ["stand", "number"]) (d_mending : DefAt K mg "mending" s_mending ["stand"]) (d__law_mended_right : DefAt K mg "_law_mended_right" s__law_mended_right ["_law_ring", "_law_pair"]) (d__law_due : DefAt K mg "_law_due" s__law_due ["_law_order_here", "_law_size_here"]) (d__law_round_right : DefAt K mg "_law_round_right" s__law_round_right ["_law_jar_here", "_law_ring", "_law_size_here", "_law_pair"]) (d_need_deeds : DefAt K mg "need_deeds" s_need_deeds ["deeds", "most"]) (d_behind : DefAt K mg "behind" s_behind ["stand", "deeds"]) (dI_Ring_0 : DefAtI K mg "Ring" "Ring.__init__" s_Ring____init__ ["self", "n", "stand"] [V.non] [("stand", V.non)] 0 ["stand"] 1 0) (dI_Ring_1 : DefAtI K mg "Ring" "Ring.__init__" s_Ring____init__ ["self", "n", "stand"] [V.non] [("stand", V.non)] 1 [] 0 1) (d_Ring__history : DefAtM K "Ring" "history" "Ring.history" s_Ring__history ["self"]) (d_Ring__twin : DefAtM K "Ring" "twin" "Ring.twin" s_Ring__twin ["self"]) (d_Ring__put : DefAtM K "Ring" "put" "Ring.put" s_Ring__put ["self", "deed"]) (d_Ring__did : DefAtM K "Ring" "did" "Ring.did" s_Ring__did ["self", "word", "dancer"]) (d_Ring__go : DefAtM K "Ring" "go" "Ring.go" s_Ring__go ["self", "x"]) (d_Ring__come : DefAtM K "Ring" "come" "Ring.come" s_Ring__come ["self", "x"]) (d_Ring__back : DefAtM K "Ring" "back" "Ring.back" s_Ring__back ["self"]) (d_Ring____eq__ : DefAtM K "Ring" "__eq__" "Ring.__eq__" s_Ring____eq__ ["self", "other"]) (d_Ring__fewest : DefAtM K "Ring" "fewest" "Ring.fewest" s_Ring__fewest ["self"]) (d_Ring____len__ : DefAtM K "Ring" "__len__" "Ring.__len__" s_Ring____len__ ["self"]) (d_Ring__mend : DefAtM K "Ring" "mend" "Ring.mend" s_Ring__mend ["self"]) (d_Ring__stand : DefAtM K "Ring" "stand" "Ring.stand" s_Ring__stand ["self"]) (cl_Ring : ClsAt K "Ring") (nf_Ring_stand_held : NoAt K "Ring" "stand_held") (nf_Ring_done_held : NoAt K "Ring" "done_held") (nf_Ring_back_held : NoAt K "Ring" "back_held") (r_Nothing : Raise0 K mg "Nothing") (ow_Ring : OwnW K mg "Ring") (al_words_stands : mg "words_stands" = mg "words") (al_fewest_mending : mg "fewest_mending" = mg "fewest")
    {f : Addr} {oc : Value} {od an : Option Addr} {osl : Array (Option Value)} {kV dc pm cd ct : Value} (a : PySem.W.nsIn K mainGlobals "law" = some (some (.ref f))) (l : K.lookup f = some ⟨oc, od, .func (PySem.W.fnOf "law" "law" (defArgs s_law) (defBody s_law) (defScope s_law) .none kV dc pm an cd ct), osl⟩) (c : PySem.W.codeIn K cd "law" = true) (k : PySem.W.keepIn K (.ref f) = true) :
    ∃ fd : FuncData, (∀ (s : Shared) (v : Value), BindsTo s fd ⟨[v], []⟩ [("_law_script", v)]) ∧ ∀ base : Heap, K.In base → base.Ns mainGlobals mg → FnG l0.prog w K mg base 14 fa fd ["_law_script"] (spN K mg 1 m_law) := by
  have e := hfa.symm.trans (PySem.W.mg_of X G a)
  cases e
  refine ⟨PySem.W.fnOf "law" "law" (defArgs s_law) (defBody s_law) (defScope s_law) .none kV dc pm an cd ct, fun s v => .of_eq rfl, fun base _ _ => ?_⟩
  have c__law_cells := ok__law_cells (P := l0.prog) (w := w) (base := base) hB hG d__law_cells 
  have c__law_jar := ok__law_jar (P := l0.prog) (w := w) (base := base) hB hG d__law_jar 
  have c_is_between := ok_is_between (P := l0.prog) (w := w) (base := base) hB hG d_is_between 
  have c_need_dancers := ok_need_dancers (P := l0.prog) (w := w) (base := base) hB hG d_need_dancers c_is_between
  have c_whole := ok_whole (P := l0.prog) (w := w) (base := base) hB hG d_whole c_need_dancers
  have c_is_stand := ok_is_stand (P := l0.prog) (w := w) (base := base) hB hG d_is_stand c_is_between
  have c_need_stand := ok_need_stand (P := l0.prog) (w := w) (base := base) hB hG d_need_stand c_is_stand
  have c_copied := ok_copied (P := l0.prog) (w := w) (base := base) hB hG d_copied 
  have c_first_stand := ok_first_stand (P := l0.prog) (w := w) (base := base) hB hG d_first_stand c_need_stand c_copied c_whole
  have cI_Ring_0 := okI_Ring_0 (P := l0.prog) (w := w) (base := base) hB hG dI_Ring_0 c_first_stand cl_Ring nf_Ring_stand_held nf_Ring_done_held nf_Ring_back_held
  have cI_Ring_1 := okI_Ring_1 (P := l0.prog) (w := w) (base := base) hB hG dI_Ring_1 c_first_stand cl_Ring nf_Ring_stand_held nf_Ring_done_held nf_Ring_back_held
  have c_Ring__history := ok_Ring__history (P := l0.prog) (w := w) (base := base) hB hG d_Ring__history cl_Ring nf_Ring_done_held
  have c_Ring__twin := ok_Ring__twin (P := l0.prog) (w := w) (base := base) hB hG d_Ring__twin cI_Ring_0 cl_Ring nf_Ring_stand_held nf_Ring_done_held nf_Ring_back_held
  have c_hands_by := ok_hands_by (P := l0.prog) (w := w) (base := base) hB hG d_hands_by 
  have c_with_deed := ok_with_deed (P := l0.prog) (w := w) (base := base) hB hG d_with_deed c_copied c_hands_by
  have c_Ring__put := ok_Ring__put (P := l0.prog) (w := w) (base := base) hB hG d_Ring__put c_with_deed cl_Ring nf_Ring_done_held nf_Ring_stand_held
  have c_is_deed := ok_is_deed (P := l0.prog) (w := w) (base := base) hB hG d_is_deed c_is_between
  have c_dancers_of := ok_dancers_of (P := l0.prog) (w := w) (base := base) hB hG d_dancers_of 
  have c_Ring__did := ok_Ring__did (P := l0.prog) (w := w) (base := base) hB hG d_Ring__did c_Ring__put c_is_deed c_dancers_of cl_Ring nf_Ring_stand_held nf_Ring_back_held
  have c_Ring__go := ok_Ring__go (P := l0.prog) (w := w) (base := base) hB hG d_Ring__go c_Ring__did
  have c_Ring__come := ok_Ring__come (P := l0.prog) (w := w) (base := base) hB hG d_Ring__come c_Ring__did
  have c__law_goes := ok__law_goes (P := l0.prog) (w := w) (base := base) hB hG d__law_goes c_Ring__go c_Ring__come
  have c__law_pull := ok__law_pull (P := l0.prog) (w := w) (base := base) hB hG d__law_pull 
  have c__law_size := ok__law_size (P := l0.prog) (w := w) (base := base) hB hG d__law_size c__law_pull
  have c_Ring__back := ok_Ring__back (P := l0.prog) (w := w) (base := base) hB hG d_Ring__back cl_Ring nf_Ring_done_held r_Nothing nf_Ring_back_held nf_Ring_stand_held
  have c_Ring____eq__ := ok_Ring____eq__ (P := l0.prog) (w := w) (base := base) hB hG d_Ring____eq__ ow_Ring cl_Ring nf_Ring_stand_held
  have c__law_order := ok__law_order (P := l0.prog) (w := w) (base := base) hB hG d__law_order c__law_pull
  have c_word_of := ok_word_of (P := l0.prog) (w := w) (base := base) hB hG d_word_of 
  have c_words := ok_words (P := l0.prog) (w := w) (base := base) hB hG d_words c_need_stand c_word_of
  have c_words_stands := ok_words_stands al_words_stands c_words
  have c_owners_in := ok_owners_in (P := l0.prog) (w := w) (base := base) hB hG d_owners_in 
  have c_fewest := ok_fewest (P := l0.prog) (w := w) (base := base) hB hG d_fewest c_words_stands c_owners_in
  have c_fewest_mending := ok_fewest_mending al_fewest_mending c_fewest
  have c_Ring__fewest := ok_Ring__fewest (P := l0.prog) (w := w) (base := base) hB hG d_Ring__fewest c_fewest_mending cl_Ring nf_Ring_stand_held
  have c_Ring____len__ := ok_Ring____len__ (P := l0.prog) (w := w) (base := base) hB hG d_Ring____len__ cl_Ring nf_Ring_done_held
  have c_need_known := ok_need_known (P := l0.prog) (w := w) (base := base) hB hG d_need_known c_words_stands
  have c_owners := ok_owners (P := l0.prog) (w := w) (base := base) hB hG d_owners c_owners_in c_need_known
  have c_is_sure := ok_is_sure (P := l0.prog) (w := w) (base := base) hB hG d_is_sure 
  have c_waits := ok_waits (P := l0.prog) (w := w) (base := base) hB hG d_waits c_owners c_is_sure
  have c_unlike_owners := ok_unlike_owners (P := l0.prog) (w := w) (base := base) hB hG d_unlike_owners c_owners
  have c_burdens := ok_burdens (P := l0.prog) (w := w) (base := base) hB hG d_burdens c_waits c_unlike_owners
  have c_counted_by := ok_counted_by (P := l0.prog) (w := w) (base := base) hB hG d_counted_by 
  have c_next_at := ok_next_at (P := l0.prog) (w := w) (base := base) hB hG d_next_at 
  have c_tidy_at := ok_tidy_at (P := l0.prog) (w := w) (base := base) hB hG d_tidy_at c_burdens c_counted_by c_waits c_next_at
  have c_mending := ok_mending (P := l0.prog) (w := w) (base := base) hB hG d_mending c_tidy_at
  have c_Ring__mend := ok_Ring__mend (P := l0.prog) (w := w) (base := base) hB hG d_Ring__mend c_mending c_Ring__put cl_Ring nf_Ring_stand_held nf_Ring_back_held
  have c_Ring__stand := ok_Ring__stand (P := l0.prog) (w := w) (base := base) hB hG d_Ring__stand c_copied cl_Ring nf_Ring_stand_held
  have c__law_mended_right := ok__law_mended_right (P := l0.prog) (w := w) (base := base) hB hG d__law_mended_right c_Ring__fewest c_Ring____len__ c_Ring__mend c_Ring__stand
  have c__law_due := ok__law_due (P := l0.prog) (w := w) (base := base) hB hG d__law_due 
  have c__law_round_right := ok__law_round_right (P := l0.prog) (w := w) (base := base) hB hG d__law_round_right c__law_order c__law_goes c__law_mended_right c__law_pull c_Ring__fewest c__law_due
  have c_need_deeds := ok_need_deeds (P := l0.prog) (w := w) (base := base) hB hG d_need_deeds c_is_deed
  have c_behind := ok_behind (P := l0.prog) (w := w) (base := base) hB hG d_behind c_need_stand c_need_deeds c_copied c_dancers_of c_hands_by
  exact ok_law hB hG (fun_mk l c k) c__law_cells c__law_jar c_whole c_Ring__history c_Ring__twin c__law_goes c__law_size c_Ring__back c_Ring____eq__ c__law_round_right c_behind c_Ring__stand c_Ring____len__ c_Ring__mend cI_Ring_1 ow_Ring
end
end Tk

namespace Tk
open PySem PySem.Spec PyProof.Rows L2 Nv
local macro_rules | `(tactic| walk_at "sp") => `(tactic| with_unfolding_all first | (exact (by simp only [pmV_nil, List.length_cons, List.length_nil, Nat.reduceAdd, if_true, List.filterMap_cons, List.filterMap_nil, List.getElem?_cons_zero, List.getElem?_cons_succ]; rfl)) | rfl)
local macro_rules | `(tactic| walk_at "sn") => `(tactic| with_unfolding_all first | (exact (by simp only [List.set_cons_zero, List.set_cons_succ]; rfl)) | rfl)
local macro_rules | `(tactic| walk_at "sr") => `(tactic| with_unfolding_all first | (exact (by simp only [List.map_cons, List.map_nil, List.length_cons, List.length_nil, Nat.reduceAdd, Nat.reduceSub, List.reduceReplicate, List.cons_append, List.nil_append]; rfl)) | rfl)
local macro_rules | `(tactic| walk_at "sw") => `(tactic| with_unfolding_all first | (exact (by simp only [wipeS, List.set_cons_zero, List.set_cons_succ]; rfl)) | rfl)
local macro_rules | `(tactic| walk_at "sd") => `(tactic| first | assumption | decide | omega | (simp (config := { failIfUnchanged := false }) [rgD_length, rgDown_length, enumD_length, pairsLen] <;> omega))
local macro_rules | `(tactic| walk_at "lo") => `(tactic| (refine low_of ?_ ?_ <;> walk_at "sd"))
local macro_rules | `(tactic| walk_at "le") => `(tactic| (refine len_le ?_ <;> walk_at "sd"))
local macro_rules | `(tactic| walk_at "cl") => `(tactic| with_unfolding_all first | assumption | rfl | exact at_app | exact at_app0 | exact at_lo (by assumption) | exact get_set_self at_app0 | exact get_set_self at_app | exact get_set_self (by assumption) | exact get_set_self (by rfl))
local macro_rules | `(tactic| walk_at "evs") => `(tactic| with_reducible first | refine le_and (by walk_at "le") ?_ | fail)
local macro_rules | `(tactic| walk_at "evs") => `(tactic| with_reducible first | refine w_forqR ?_ | refine w_forqC ?_ | refine w_forqB ?_ | refine low_and (by walk_at "lo") ?_ | fail)
local macro_rules | `(tactic| walk_at "evs") => `(tactic| with_reducible first | refine isS_and (by with_unfolding_all rfl) ?_ | refine IsLst.len (by assumption) ?_ | refine IsLst.ix (by assumption) (by with_unfolding_all first | assumption | rfl) ?_ | refine w_forq ?_ | fail)
local macro_rules | `(tactic| walk_at "evs") => `(tactic| with_reducible first | refine le_and (by first | assumption | exact le0 | exact le1 | exact le2 | exact le3 | exact le4 | exact le5 | exact le6 | exact le7 | exact le8) ?_ | refine w_lcNil ?_ | refine w_lcCons ?_ | refine isL_and (by with_unfolding_all first | assumption | rfl) ?_ | fail)
local macro_rules | `(tactic| walk_at "evs") => `(tactic| with_reducible first | refine w_runn (by walk_at "sr") ?_ | refine w_run ?_ | refine len_and (by with_unfolding_all rfl) ?_ | refine low_and (by first | assumption | decide) ?_ | fail)
local macro_rules | `(tactic| walk_at "evs") => `(tactic| with_reducible first | refine w_max2 ?_ | refine w_min2 ?_ | refine w_intI ?_ | refine w_intB ?_ | fail)
local macro_rules | `(tactic| walk_at "evs") => `(tactic| with_reducible first | refine w_append (by walk_at "cl") (by first | assumption | exact lt0 | exact lt1 | exact lt1a) ?_ | refine w_lenL ?_ | refine w_lenT ?_ | refine w_lenC (by walk_at "cl") ?_ | fail)
local macro_rules | `(tactic| walk_at "evs") => `(tactic| with_reducible first | refine w_ixL (by with_unfolding_all first | assumption | rfl) ?_ | refine w_ixT (by with_unfolding_all first | assumption | rfl) ?_ | refine w_ixC (by walk_at "cl") (by with_unfolding_all first | assumption | rfl) ?_ | refine w_set (by walk_at "cl") (by with_unfolding_all first | assumption | rfl) ?_ | fail)
local macro_rules | `(tactic| walk_at "evs") => `(tactic| with_reducible first | refine w_mulI (by with_unfolding_all first | with_reducible assumption | (right; left; with_reducible assumption) | (left; with_reducible assumption) | (left; decide) | (right; left; decide) | assumption) ?_ | refine w_modI (by with_unfolding_all first | assumption | decide) ?_ | refine w_divI (by with_unfolding_all first | assumption | decide) (by with_unfolding_all first | assumption | decide) ?_ | refine w_powI (by with_unfolding_all decide) (by with_unfolding_all decide) (by with_unfolding_all first | assumption | decide) (by with_unfolding_all first | assumption | decide) ?_ | fail)
local macro_rules | `(tactic| walk_at "evs") => `(tactic| with_reducible first | refine w_eqS ?_ | refine w_neS ?_ | refine w_eqB ?_ | refine w_neB ?_ | fail)
local macro_rules | `(tactic| walk_at "evs") => `(tactic| with_reducible first | refine w_gtI ?_ | refine w_geI ?_ | refine w_eqI ?_ | refine w_neI ?_ | fail)
local macro_rules | `(tactic| walk_at "evs") => `(tactic| with_reducible first | refine w_subI ?_ | refine w_negI ?_ | refine w_ltI ?_ | refine w_leI ?_ | fail)
local macro_rules | `(tactic| walk_at "evs") => `(tactic| with_reducible first | refine bl_b ?_ | refine int_i ?_ | refine par_2 ?_ | refine w_addI ?_ | fail)
local macro_rules | `(tactic| walk_at "evs") => `(tactic| with_reducible first | refine lstG_l ?_ | refine lstG_c (by walk_at "cl") ?_ | refine one_1 ?_ | refine one_i ?_ | fail)
local macro_rules | `(tactic| walk_at "evs") => `(tactic| with_reducible first | refine ite_t (by with_unfolding_all first | rfl | assumption) ?_ | refine ite_f (by with_unfolding_all first | rfl | assumption) ?_ | refine w_iTp ?_ | refine tup_t ?_ | fail)
local macro_rules | `(tactic| walk_at "evs") => `(tactic| with_reducible first | refine w_isiT (by with_unfolding_all first | assumption | rfl) (by decide +kernel) ?_ | refine w_isiF (by with_unfolding_all first | assumption | rfl) (by decide +kernel) ?_ | refine w_isiLT (by with_unfolding_all first | assumption | rfl) (by decide +kernel) ?_ | refine w_isiLF (by with_unfolding_all first | assumption | rfl) (by decide +kernel) ?_ | fail)
local macro_rules | `(tactic| walk_at "evs") => `(tactic| with_reducible first | refine w_iZp ?_ | refine w_tTrue ?_ | refine w_isC (by with_unfolding_all rfl) ?_ | refine w_isNotC (by with_unfolding_all rfl) ?_ | fail)
local macro_rules | `(tactic| walk_at "evs") => `(tactic| with_reducible first | refine w_iRg1 ?_ | refine w_iRg2 ?_ | refine w_iRg3 ?_ | refine w_iEn ?_ | fail)
local macro_rules | `(tactic| walk_at "evs") => `(tactic| with_reducible first | refine w_runKn (by walk_at "sr") ?_ | refine w_runK ?_ | refine w_mLc ?_ | refine w_iLst ?_ | fail)
local macro_rules | `(tactic| walk_at "evs") => `(tactic| with_reducible first | refine w_sFor ?_ | refine w_gc ?_ | refine gc_r ?_ | refine gc_b ?_ | fail)
local macro_rules | `(tactic| walk_at "evs") => `(tactic| with_reducible first | refine w_oSome ?_ | refine w_F ?_ | refine w_FK ?_ | refine pm_i (by walk_at "sp") ?_ | fail)
local macro_rules | `(tactic| walk_at "evs") => `(tactic| with_reducible first | refine w_newF ?_ | refine w_newC ?_ | refine w_sl ?_ | refine w_oNone ?_ | fail)
local macro_rules | `(tactic| walk_at "evs") => `(tactic| with_reducible first | refine w_mt ?_ | refine w_mt0 ?_ | refine w_rep ?_ | refine w_cb ?_ | fail)
local macro_rules | `(tactic| walk_at "evs") => `(tactic| with_reducible first | refine w_aNil ?_ | refine w_aCons ?_ | refine w_lst ?_ | refine w_tup ?_ | fail)
local macro_rules | `(tactic| walk_at "evs") => `(tactic| with_reducible first | refine w_or ?_ | refine w_not ?_ | refine w_if ?_ | refine w_ch ?_ | fail)
local macro_rules | `(tactic| walk_at "evs") => `(tactic| with_reducible first | refine w_tAnd ?_ | refine w_tOr ?_ | refine w_tNot ?_ | refine w_and ?_ | fail)
local macro_rules | `(tactic| walk_at "evs") => `(tactic| with_reducible first | refine w_c ?_ | refine w_2 ?_ | refine w_1 ?_ | refine w_T ?_ | fail)
local macro_rules | `(tactic| walk_at "evs") => `(tactic| with_reducible first | refine slset_i (by walk_at "sn") ?_ | refine w_aug (by with_unfolding_all rfl) ?_ | refine w_gmSub ?_ | refine w_var (by with_unfolding_all rfl) ?_ | fail)
local macro_rules | `(tactic| walk_at "evs") => `(tactic| with_reducible first | refine w_gmTup (by with_unfolding_all rfl) ?_ | refine w_gmSqT (by with_unfolding_all rfl) ?_ | refine w_gmSqL (by with_unfolding_all rfl) ?_ | refine w_parn ?_ | fail)
local macro_rules | `(tactic| walk_at "evs") => `(tactic| with_reducible first | refine w_gmNn (by walk_at "sn") ?_ | refine w_gmN ?_ | refine w_gmNil ?_ | refine w_gmCons ?_ | fail)
local macro_rules | `(tactic| walk_at "evs") => `(tactic| with_reducible first | refine w_drop ?_ | refine w_ret ?_ | refine w_retN ?_ | refine w_asg ?_ | fail)
local macro_rules | `(tactic| walk_at "evs") => `(tactic| with_reducible first | refine w_thenC ?_ | refine w_nil ?_ | refine w_bk ?_ | refine w_ct ?_ | fail)
local macro_rules | `(tactic| walk_at "evs") => `(tactic| with_reducible first | refine w_seq ?_ | refine w_then ?_ | refine w_thenR ?_ | refine w_thenB ?_ | fail)
local macro_rules | `(tactic| walk_at "ev") => `(tactic| first | with_reducible refine w_sif ?_ | walk_at "evs" | fail)
local macro_rules | `(tactic| walk_at "evp") => `(tactic| first | exact ⟨rfl, rfl⟩ | walk_at "ev" | fail)
local macro_rules | `(tactic| walk_at "evp") => `(tactic| first | with_reducible apply w_andV | with_reducible apply w_orV | with_reducible apply w_tAndV | with_reducible apply w_tOrV | fail)
local macro_rules | `(tactic| walk_at "evq") => `(tactic| first | exact ⟨rfl, rfl⟩ | walk_at "evs" | fail)
local macro_rules | `(tactic| walk_at "evq") => `(tactic| first | with_reducible apply w_andV | with_reducible apply w_orV | with_reducible apply w_tAndV | with_reducible apply w_tOrV | fail)

abbrev iL (l : List Int) : Cell := .lst (l.map D.int)
@[simp] theorem closed_iL (n : Nat) (l : List Int) : closedC n (iL l) = true := closedDs_ints n l
@[simp] theorem closed_iL' (n : Nat) (l : List Int) : closedC n (.lst (l.map D.int)) = true := closedDs_ints n l
structure Vs (rs ls : List Int) : Prop where
  len : ls.length = rs.length
  two : 2 ≤ rs.length
  top : rs.length ≤ 202
  r : ∀ (i : Nat) (x : Int), rs[i]? = some x → i + 1 ≤ x ∧ x ≤ rs.length
  l : ∀ (i : Nat) (x : Int), ls[i]? = some x → 0 ≤ x ∧ x ≤ i
theorem get_ex {A : Type} {l : List A} {i : Nat} (h : i < l.length) : ∃ x, l[i]? = some x := ⟨l[i], List.getElem?_eq_getElem h⟩
theorem getD_of {l : List Int} {i : Nat} {x : Int} (h : l[i]? = some x) : l.getD i 0 = x := by rw [List.getD_eq_getElem?_getD, h]; rfl
theorem Vs.setR {rs ls : List Int} {i : Nat} {x : Int} (h : Vs rs ls) (h1 : i + 1 ≤ x) (h2 : x ≤ rs.length) : Vs (rs.set i x) ls := by
  refine ⟨by simp [h.len], by simpa using h.two, by simpa using h.top, fun j y hj => ?_, h.l⟩
  rw [List.getElem?_set] at hj
  rw [List.length_set]
  split at hj
  · rename_i e
    subst e
    split at hj
    · cases hj
      exact ⟨h1, h2⟩
    · cases hj
  · exact h.r j y hj
theorem Vs.setL {rs ls : List Int} {i : Nat} {x : Int} (h : Vs rs ls) (h1 : 0 ≤ x) (h2 : x ≤ i) : Vs rs (ls.set i x) := by
  refine ⟨by simp [h.len], h.two, h.top, h.r, fun j y hj => ?_⟩
  rw [List.getElem?_set] at hj
  split at hj
  · rename_i e
    subst e
    split at hj
    · cases hj
      exact ⟨h1, h2⟩
    · cases hj
  · exact h.l j y hj
theorem Vs.sm1 {rs ls : List Int} (v : Vs rs ls) : ∀ x ∈ rs, smI x := fun x hx => by
  obtain ⟨i, hi, e⟩ := List.getElem_of_mem hx
  have h1 := v.r i x (by rw [List.getElem?_eq_getElem hi, e])
  have := v.top
  exact ⟨by omega, by omega⟩
theorem Vs.sm2 {rs ls : List Int} (v : Vs rs ls) : ∀ x ∈ ls, smI x := fun x hx => by
  obtain ⟨i, hi, e⟩ := List.getElem_of_mem hx
  have h1 := v.l i x (by rw [List.getElem?_eq_getElem hi, e])
  have := v.top
  have := v.len
  exact ⟨by omega, by omega⟩
/-- whom i holds by the right hand, whom by the left (of i + 1) -/
theorem Vs.rx {rs ls : List Int} (v : Vs rs ls) {i : Int} (h0 : 0 ≤ i) (h1 : i < rs.length) : ∃ x, rs[i.toNat]? = some x ∧ atI (rs.map D.int) i = some (.int x) ∧ i + 1 ≤ x ∧ x ≤ rs.length ∧ rs.getD i.toNat 0 = x := by
  obtain ⟨x, hx⟩ := get_ex (l := rs) (i := i.toNat) (by omega)
  have := v.r _ _ hx
  exact ⟨x, hx, atI_map h0 hx, by omega, by omega, getD_of hx⟩
theorem Vs.lx {rs ls : List Int} (v : Vs rs ls) {i : Int} (h0 : 0 ≤ i) (h1 : i < rs.length) : ∃ x, ls[i.toNat]? = some x ∧ atI (ls.map D.int) i = some (.int x) ∧ 0 ≤ x ∧ x ≤ i ∧ ls.getD i.toNat 0 = x := by
  have hl := v.len
  obtain ⟨x, hx⟩ := get_ex (l := ls) (i := i.toNat) (by omega)
  have := v.l _ _ hx
  exact ⟨x, hx, atI_map h0 hx, by omega, by omega, getD_of hx⟩
abbrev sD (rs ls : List Int) : D := .tup [.lst (rs.map D.int), .lst (ls.map D.int)]
theorem map_all {A : Type} {f : A → Bool} : ∀ {l : List A}, (∀ x ∈ l, f x = true) → (l.map f).all id = true := fun {l} h => by
  rw [List.all_map]
  exact List.all_eq_true.mpr h
/-- a stand, of lists or cells -/
def IsSt (C : Store) (x : D) (rs ls : List Int) : Prop := ∃ a b, x = .tup [a, b] ∧ IsLst C a (rs.map D.int) ∧ IsLst C b (ls.map D.int)
theorem IsSt.f {C : Store} (rs ls : List Int) : IsSt C (sD rs ls) rs ls := ⟨_, _, rfl, .f _, .f _⟩
theorem IsSt.c {C : Store} {i j : Nat} {rs ls : List Int} (h1 : C[i]? = some (iL rs)) (h2 : C[j]? = some (iL ls)) : IsSt C (.tup [.cell i, .cell j]) rs ls := ⟨_, _, rfl, .c _ _ h1, .c _ _ h2⟩
theorem IsSt.app {C X : Store} {x : D} {rs ls : List Int} (h : IsSt C x rs ls) : IsSt (C ++ X) x rs ls := by
  obtain ⟨a, b, e, h1, h2⟩ := h
  exact ⟨a, b, e, h1.app, h2.app⟩
theorem Shw.stand {rs ls : List Int} (v : Vs rs ls) : Shw (sD rs ls) 17000 2 (.tuple [.list (rs.map PyData.int), .list (ls.map PyData.int)]) := by
  have h := Shw.tup2 (Shw.ints v.sm1) (Shw.ints v.sm2)
  have h1 := v.top
  have h2 := v.len
  exact ⟨h.to, h.sh, h.la, h.de, Nat.le_trans h.we (by omega), h.si⟩
theorem Alk.stand {C : Store} {n : Nat} {x y : D} {rs ls : List Int} (v : Vs rs ls) (hx : IsSt C x rs ls) (hy : IsSt C y rs ls) : Alk C (n + 3) x y := by
  obtain ⟨a, b, rfl, h1, h2⟩ := hx
  obtain ⟨a', b', rfl, h3, h4⟩ := hy
  have t1 := v.top
  have t2 := v.len
  exact Alk.tup2 (Alk.ints h1 h3 (by omega)) (Alk.ints h2 h4 (by omega))
/-- the whole ring -/
def whR (n : Nat) : List Int := (List.range (n + 1)).map fun i : Nat => 1 + (i : Int)
def whL (n : Nat) : List Int := (List.range (n + 1)).map fun i : Nat => (i : Int)
theorem whR_get {n i : Nat} (h : i < n + 1) : (whR n)[i]? = some (1 + (i : Int)) := by simp [whR, h]
theorem whL_get {n i : Nat} (h : i < n + 1) : (whL n)[i]? = some (i : Int) := by simp [whL, h]
theorem whR_len (n : Nat) : (whR n).length = n + 1 := by simp [whR]
theorem whL_len (n : Nat) : (whL n).length = n + 1 := by simp [whL]
theorem wh_vs {n : Nat} (h1 : 1 ≤ n) (h2 : n ≤ 201) : Vs (whR n) (whL n) := by
  refine ⟨by rw [whR_len, whL_len], by rw [whR_len]; omega, by rw [whR_len]; omega, fun i x h => ?_, fun i x h => ?_⟩
  · have hi := (List.getElem?_eq_some_iff.mp h).1
    rw [whR_len] at hi ⊢
    rw [whR_get hi] at h
    cases h
    omega
  · have hi := (List.getElem?_eq_some_iff.mp h).1
    rw [whL_len] at hi
    rw [whL_get hi] at h
    cases h
    omega
theorem rg_whR (n : Nat) : rangeD 1 (n + 2 : Int) = (whR n).map D.int := by
  unfold rangeD whR
  rw [show ((n : Int) + 2 - 1).toNat = n + 1 from by omega]
  simp
theorem rg_whL (n : Nat) : rangeD 0 (n + 1 : Int) = (whL n).map D.int := by
  unfold rangeD whL
  rw [show ((n : Int) + 1 - 0).toNat = n + 1 from by omega]
  simp


/-- a jar -/
def Jr (c : Cell) : Prop := ∃ a b k : Int, c = .lst [.int a, .int b, .int k] ∧ 0 ≤ b ∧ b < 10 ^ 120
theorem Jr.closed {c : Cell} (h : Jr c) (n : Nat) : closedC n c = true := by
  obtain ⟨a, b, k, rfl, _⟩ := h
  rfl
section
variable {C G X : Store} {k : Nat} {n : Int} {S : Cell} {QD : D → Store → Prop}
theorem pull_ok (hC : C[k]? = some S) (h : Jr S) (h0 : 0 < n) (h1 : n ≤ 10 ^ 60) (q : ∀ (r : Int) (S' : Cell), 0 ≤ r → r < n → Jr S' → QD (.int r) (C.set k S')) : W (m__law_pull [.cell k, .int n] C) QD := by
  obtain ⟨a, b, c, rfl, hb, hb2⟩ := h
  unfold m__law_pull
  repeat' walk_at "ev"
  by_cases ha0 : 0 < a
  · refine ite_t (by simpa using ha0) ?_
    repeat' walk_at "ev"
    exact fin_set1 rfl rfl rfl (q _ _ (Int.emod_nonneg _ (by omega)) (Int.emod_lt_of_pos _ h0) ⟨_, _, _, rfl, hb, hb2⟩)
  · refine ite_f (by simpa using ha0) ?_
    have hk : (C.set k (.lst [.int a, .int b, .int (c + 1)]))[k]? = some (.lst [.int a, .int b, .int (c + 1)]) := get_set_self hC
    have p1 : -powLine < b := by unfold powLine; omega
    have p2 : b < powLine := by unfold powLine; omega
    have g0 := Int.emod_nonneg (b ^ Int.toNat 3 + 362880007 * (c + 1) + 5) (b := 10 ^ Int.toNat 33 + 61) (by decide)
    have g1 := Int.emod_lt_of_pos (b ^ Int.toNat 3 + 362880007 * (c + 1) + 5) (b := 10 ^ Int.toNat 33 + 61) (by decide)
    repeat' walk_at "ev"
    generalize (b ^ Int.toNat 3 + 362880007 * (c + 1) + 5) % (10 ^ Int.toNat 33 + 61) = G at g0 g1 ⊢
    rw [show Int.toNat 33 = 33 from rfl] at g1
    have hk2 : ((C.set k (.lst [.int a, .int b, .int (c + 1)])).set k (.lst [.int a, .int G, .int (c + 1)]))[k]? = some (.lst [.int a, .int G, .int (c + 1)]) := get_set_self hk
    repeat' walk_at "ev"
    rw [List.set_set]
    exact fin_set1 rfl rfl rfl (q _ _ (Int.emod_nonneg _ (by omega)) (Int.emod_lt_of_pos _ h0) ⟨_, _, _, rfl, g0, by omega⟩)
theorem pull_c (h : Jr S) (h0 : 0 < n) (h1 : n ≤ 10 ^ 60) (q : ∀ (r : Int) (S' : Cell), 0 ≤ r → r < n → Jr S' → QD (.int r) ((S' :: G) ++ X)) : W (m__law_pull [.cell 0, .int n] ((S :: G) ++ X)) QD :=
  pull_ok (C := (S :: G) ++ X) (S := S) rfl h h0 h1 fun r S' r0 r1 hS' => q r S' r0 r1 hS'
theorem pull_c0 (h : Jr S) (h0 : 0 < n) (h1 : n ≤ 10 ^ 60) (q : ∀ (r : Int) (S' : Cell), 0 ≤ r → r < n → Jr S' → QD (.int r) (S' :: G)) : W (m__law_pull [.cell 0, .int n] (S :: G)) QD :=
  pull_ok (C := S :: G) (S := S) rfl h h0 h1 fun r S' r0 r1 hS' => q r S' r0 r1 hS'
theorem jar_ok {cell j : Int} (h0 : 0 ≤ j) (h1 : j ≤ 100) (q : ∀ S', Jr S' → QD (.cell C.length) (C ++ [S'])) : W (m__law_jar [.int cell, .int j] C) QD := by
  have g0 := Int.emod_nonneg cell (b := 10 ^ Int.toNat 38 + 133) (by decide)
  have g1 := Int.emod_lt_of_pos cell (b := 10 ^ Int.toNat 38 + 133) (by decide)
  have p1 : -powLine < cell % (10 ^ Int.toNat 38 + 133) := by unfold powLine; omega
  have p2 : cell % (10 ^ Int.toNat 38 + 133) < powLine := by
    rw [show Int.toNat 38 = 38 from rfl] at g1 ⊢
    unfold powLine
    omega
  unfold m__law_jar
  repeat' walk_at "ev"
  rw [show Int.toNat 38 = 38 from rfl] at g0 g1 ⊢
  generalize cell % (10 ^ 38 + 133) = G at g0 g1 ⊢
  rw [show Int.toNat 3 = 3 from rfl]
  have c1 : 0 ≤ G ^ 3 := by
    rw [show G ^ 3 = G * G * G from by rw [Int.pow_succ, Int.pow_succ, Int.pow_succ, Int.pow_zero, Int.one_mul]]
    exact Int.mul_nonneg (Int.mul_nonneg g0 g0) g0
  have c2 : G ^ 3 ≤ 10 ^ 39 * 10 ^ 39 * 10 ^ 39 := by
    rw [show G ^ 3 = G * G * G from by rw [Int.pow_succ, Int.pow_succ, Int.pow_succ, Int.pow_zero, Int.one_mul]]
    have k1 : G ≤ 10 ^ 39 := by omega
    exact Int.mul_le_mul (Int.mul_le_mul k1 k1 g0 (by decide)) k1 g0 (by decide)
  generalize G ^ 3 = T at c1 c2 ⊢
  exact W.of (fin_cell0 rfl) (q _ ⟨_, _, _, rfl, by omega, by omega⟩)
/-- how many dancers -/
theorem size_ok {ns : List Int} (h : Jr S) (hG : ClS G) (q : ∀ (r : Int) (S' : Cell), 1 ≤ r → r ≤ 200 → (ns = [] → r ≤ 3) → Jr S' → QD (.int r) (S' :: G)) : W (m__law_size [.cell 0, .lst (ns.map D.int)] (S :: G)) QD := by
  have hfin : ∀ (r : Int) (S' : Cell), Jr S' → QD (.int r) (S' :: G) → W (fin (S :: G) (.int r) (S' :: G)) QD := fun r S' hS' q => fin_closed10 rfl (ClS.cons (hS'.closed 0) hG) rfl q
  unfold m__law_size
  repeat' walk_at "ev"
  refine w_eqLI (m := []) ?_
  repeat' walk_at "ev"
  by_cases hn : ns = []
  · refine ite_t (decide_eq_true hn) ?_
    repeat' walk_at "ev"
    refine pull_c0 h (by decide) (by decide) fun r S' r0 r1 hS' => ?_
    repeat' walk_at "ev"
    exact hfin _ _ hS' (q _ _ (by omega) (by omega) (fun _ => by omega) hS')
  · refine ite_f (decide_eq_false hn) ?_
    repeat' walk_at "ev"
    refine pull_c0 h (by decide) (by decide) fun r1 S1 a1 b1 hS1 => ?_
    repeat' walk_at "ev"
    refine pull_c0 hS1 (by decide) (by decide) fun r2 S2 a2 b2 hS2 => ?_
    repeat' walk_at "ev"
    refine pull_c0 hS2 (by decide) (by decide) fun r3 S3 a3 b3 hS3 => ?_
    repeat' walk_at "ev"
    refine pull_c0 hS3 (by decide) (by decide) fun r4 S4 a4 b4 hS4 => ?_
    repeat' walk_at "ev"
    refine pull_c0 hS4 (by decide) (by decide) fun r5 S5 a5 b5 hS5 => ?_
    obtain ⟨x, hx, x0, x1⟩ : ∃ x : Int, atI [D.int 1, D.int (1 + r1), D.int (1 + r2), D.int (200 - r3), D.int (41 + r4)] r5 = some (.int x) ∧ 1 ≤ x ∧ x ≤ 200 := by
      have : r5 = 0 ∨ r5 = 1 ∨ r5 = 2 ∨ r5 = 3 ∨ r5 = 4 := by omega
      rcases this with rfl | rfl | rfl | rfl | rfl
      · exact ⟨_, rfl, by omega, by omega⟩
      · exact ⟨_, rfl, by omega, by omega⟩
      · exact ⟨_, rfl, by omega, by omega⟩
      · exact ⟨_, rfl, by omega, by omega⟩
      · exact ⟨_, rfl, by omega, by omega⟩
    repeat' walk_at "ev"
    exact hfin _ _ hS5 (q _ _ x0 x1 (fun z => absurd z hn) hS5)
end


section
variable {rs ls : List Int} {C : Store} {QD : D → Store → Prop} {x : D}
theorem between_ok {x a b : Int} (q : QD (.bl (decide (a ≤ x ∧ x ≤ b))) C) : W (m_is_between [.int x, .int a, .int b] C) QD := by
  unfold m_is_between
  repeat' walk_at "ev"
  refine w_ite (fun e => ?_) (fun e => ?_)
  · repeat' walk_at "ev"
    refine fin_same rfl rfl ?_
    rw [show decide (a ≤ x ∧ x ≤ b) = decide (x ≤ b) from by have := of_decide_eq_true e; simp [this]] at q
    exact q
  · repeat' walk_at "ev"
    refine fin_same rfl rfl ?_
    rw [show decide (a ≤ x ∧ x ≤ b) = false from by have := of_decide_eq_false e; simp [this]] at q
    exact q
theorem stand_ok (hx : IsSt C x rs ls) (v : Vs rs ls) (q : QD (.bl true) C) : W (m_is_stand [x] C) QD := by
  obtain ⟨a, b, rfl, ha, hb⟩ := hx
  have ta := ha.ty
  have tb := hb.ty
  have h2 := v.two
  have h3 := v.top
  have h4 := v.len
  unfold m_is_stand
  repeat' walk_at "ev"
  refine w_all (bs := [true, true]) ?_
  repeat' walk_at "ev"
  refine ite_f (by simp; omega) ?_
  repeat' walk_at "ev"
  refine ite_f (by simp; omega) ?_
  repeat' walk_at "ev"
  refine w_lcTrue (fun i d hd => ?_) ?_
  · obtain ⟨h, rfl⟩ := rgD_get hd
    obtain ⟨x, hx, a1, b1, b2, _⟩ := v.rx (i := i) (by omega) (by simpa using h)
    repeat' walk_at "ev"
    refine between_ok ⟨?_, rfl⟩
    simp
    omega
  repeat' walk_at "ev"
  refine w_all ?_
  rw [all_true]
  repeat' walk_at "ev"
  refine w_lcTrue (fun i d hd => ?_) ?_
  · obtain ⟨h, rfl⟩ := rgD_get hd
    obtain ⟨x, hx, a1, b1, b2, _⟩ := v.lx (i := i) (by omega) (by simpa using h)
    repeat' walk_at "ev"
    refine between_ok ⟨?_, rfl⟩
    simp
    omega
  repeat' walk_at "ev"
  refine w_all ?_
  rw [all_true]
  exact fin_same rfl rfl q
theorem need_ok (hx : IsSt C x rs ls) (v : Vs rs ls) (q : QD .non C) : W (m_need_stand [x] C) QD := by
  unfold m_need_stand
  repeat' walk_at "ev"
  refine stand_ok hx v ?_
  repeat' walk_at "ev"
  exact fin_same rfl rfl q
end


/-- the word of a border -/
def wordP (r l b : Int) : Str := if r = b + 1 then (if l = b then "held" else "left") else (if l = b then "right" else "forgotten")
section
variable {rs ls : List Int} {C : Store} {QD : D → Store → Prop} {x : D}
def wAt (rs ls : List Int) (i : Nat) : Str := wordP (rs.getD i 0) (ls.getD i 0) i
def wordsOf (rs ls : List Int) : List Str := (List.range rs.length).map (wAt rs ls)
theorem words_map : (List.range rs.length).map (fun i => D.str (wAt rs ls i)) = (wordsOf rs ls).map D.str := by
  unfold wordsOf
  rw [List.map_map]
  rfl
theorem words_len : (wordsOf rs ls).length = rs.length := by simp [wordsOf]
theorem words_get {i : Nat} (h : i < rs.length) : (wordsOf rs ls)[i]? = some (wAt rs ls i) := by simp [wordsOf, h]
theorem word_ok {i : Nat} (v : Vs rs ls) (hx : IsSt C x rs ls) (hi : i < rs.length) (q : QD (.str (wAt rs ls i)) C) : W (m_word_of [x, .int i] C) QD := by
  obtain ⟨a, b, rfl, ha, hb⟩ := hx
  obtain ⟨r, hr, a1, _, _, er⟩ := v.rx (i := i) (by omega) (by omega)
  obtain ⟨l, hl, a2, _, _, el⟩ := v.lx (i := i) (by omega) (by omega)
  rw [Int.toNat_natCast] at er el
  unfold wAt at q
  rw [er, el] at q
  unfold m_word_of
  repeat' walk_at "ev"
  unfold wordP at q
  by_cases h1 : r = (i : Int) + 1 <;> by_cases h2 : l = (i : Int)
  · rw [if_pos h1, if_pos h2] at q
    refine ite_t (decide_eq_true h1) ?_
    repeat' walk_at "ev"
    refine ite_t (decide_eq_true h2) ?_
    repeat' walk_at "ev"
    exact fin_same rfl rfl q
  · rw [if_pos h1, if_neg h2] at q
    refine ite_t (decide_eq_true h1) ?_
    repeat' walk_at "ev"
    refine ite_f (decide_eq_false h2) ?_
    repeat' walk_at "ev"
    exact fin_same rfl rfl q
  · rw [if_neg h1, if_pos h2] at q
    refine ite_f (decide_eq_false h1) ?_
    repeat' walk_at "ev"
    refine ite_t (decide_eq_true h2) ?_
    repeat' walk_at "ev"
    exact fin_same rfl rfl q
  · rw [if_neg h1, if_neg h2] at q
    refine ite_f (decide_eq_false h1) ?_
    repeat' walk_at "ev"
    refine ite_f (decide_eq_false h2) ?_
    repeat' walk_at "ev"
    exact fin_same rfl rfl q
theorem words_ok (v : Vs rs ls) (hx : IsSt C x rs ls) (q : QD (.cell C.length) (C ++ [.lst ((wordsOf rs ls).map D.str)])) : W (m_words [x] C) QD := by
  have h3 := v.top
  have h4 := v.len
  unfold m_words
  repeat' walk_at "ev"
  refine need_ok hx v ?_
  obtain ⟨a, b, rfl, ha, hb⟩ := id hx
  repeat' walk_at "ev"
  refine w_lcMapIx (f := fun i => .str (wAt rs ls i)) (fun i d hd => ?_) ?_
  · obtain ⟨h, rfl⟩ := rgD_get hd
    repeat' walk_at "ev"
    exact word_ok v hx (by simpa using h) ⟨rfl, rfl⟩
  · rw [rgD_len, List.length_map, words_map]
    repeat' walk_at "ev"
    exact W.of (fin_cell0 (closedDs_strs _ _)) q
theorem wordsF_ok {n : Nat} (v : Vs rs ls) {sl : Sl} {m : ME} (hi : W (m sl C) fun x C' => C' = C ∧ IsSt C x rs ls) (q : QD (.lst ((wordsOf rs ls).map D.str)) C) : W (mFz (n + 1) (mF 1 m_words (aCons m aNil)) sl C) QD := by
  refine w_fzL ?_
  refine w_F ?_
  refine w_aCons (hi.imp fun x C' h => ?_)
  obtain ⟨rfl, h⟩ := h
  repeat' walk_at "ev"
  exact words_ok v h ⟨_, rfl, rfl, closedDs_strs _ _, q⟩
end


section
variable {rs ls : List Int} {C : Store} {QD : D → Store → Prop} {x : D}
def lostOf (rs ls : List Int) : List Int := ((List.range rs.length).filter fun i => decide (wAt rs ls i = "forgotten")).map fun i : Nat => (i : Int)
end


abbrev Dd := Str × Int
abbrev dD (e : Dd) : D := .tup [.str e.1, .int e.2]
def OkD (n : Int) (e : Dd) : Prop := (e.1 = "go" ∨ e.1 = "come") ∧ 1 ≤ e.2 ∧ e.2 ≤ n
def OkH (n : Int) (h : List Dd) : Prop := ∀ e ∈ h, OkD n e
/-- a deed, done to both lists -/
def doR (p : List Int × List Int) (e : Dd) : Int := p.1.getD e.2.toNat 0
def doL (p : List Int × List Int) (e : Dd) : Int := p.2.getD (e.2 - 1).toNat 0
def step (p : List Int × List Int) (e : Dd) : List Int × List Int :=
  (p.1.set (doL p e).toNat (if e.1 = "go" then doR p e else e.2), p.2.set (doR p e - 1).toNat (if e.1 = "go" then doL p e else e.2))
def run (p : List Int × List Int) (h : List Dd) : List Int × List Int := h.foldl step p
theorem step_vs {rs ls : List Int} {n : Int} {e : Dd} (v : Vs rs ls) (hn : n = rs.length - 1) (he : OkD n e) : Vs (step (rs, ls) e).1 (step (rs, ls) e).2 ∧ (step (rs, ls) e).1.length = rs.length := by
  obtain ⟨h0, h1, h2⟩ := he
  obtain ⟨r, hr, _, r1, r2, er⟩ := v.rx (i := e.2) (by omega) (by omega)
  obtain ⟨l, hl, _, l1, l2, el⟩ := v.lx (i := e.2 - 1) (by omega) (by omega)
  have e1 : doR (rs, ls) e = r := er
  have e2 : doL (rs, ls) e = l := el
  unfold step
  rw [e1, e2]
  refine ⟨(v.setR ?_ ?_).setL ?_ ?_, by simp⟩
  all_goals split <;> omega
theorem run_vs {n : Int} : ∀ {h : List Dd} {rs ls : List Int}, Vs rs ls → n = rs.length - 1 → OkH n h → Vs (run (rs, ls) h).1 (run (rs, ls) h).2 ∧ (run (rs, ls) h).1.length = rs.length
  | [], _, _, v, _, _ => ⟨v, rfl⟩
  | e :: h, rs, ls, v, hn, hh => by
    obtain ⟨v1, l1⟩ := step_vs v hn (hh e List.mem_cons_self)
    obtain ⟨v2, l2⟩ := run_vs (h := h) v1 (by rw [l1]; exact hn) fun x hx => hh x (List.mem_cons_of_mem _ hx)
    exact ⟨v2, l2.trans l1⟩
theorem OkH.take {n : Int} {h : List Dd} (k : Nat) (hh : OkH n h) : OkH n (h.take k) := fun e he => hh e (List.mem_of_mem_take he)
theorem OkH.drop {n : Int} {h : List Dd} (k : Nat) (hh : OkH n h) : OkH n (h.drop k) := fun e he => hh e (List.mem_of_mem_drop he)
theorem OkH.app {n : Int} {h k : List Dd} (hh : OkH n h) (hk : OkH n k) : OkH n (h ++ k) := fun e he => (List.mem_append.mp he).elim (hh e) (hk e)
theorem OkH.one {n : Int} {e : Dd} (h : OkD n e) : OkH n [e] := fun x hx => by cases List.mem_singleton.mp hx; exact h
theorem OkH.nil {n : Int} : OkH n [] := fun x hx => nomatch hx
section
variable {rs ls : List Int} {C : Store} {QD : D → Store → Prop} {x y : D} {h : List Dd} {e : Dd} {n : Int}
theorem isdeed_ok (he : OkD n e) (q : QD (.bl true) C) : W (m_is_deed [dD e, .int n] C) QD := by
  obtain ⟨k, d⟩ := e
  obtain ⟨h0, h1, h2⟩ := he
  unfold m_is_deed
  repeat' walk_at "ev"
  refine w_inT (l := ["go", "come"]) ?_
  rw [show (if true = true then !((["go", "come"] : List Str).any fun y => y == k) else (["go", "come"] : List Str).any fun y => y == k) = false from by
    rcases h0 with h0 | h0 <;> rw [show k = _ from h0] <;> decide +kernel]
  repeat' walk_at "ev"
  refine between_ok ?_
  rw [show decide (1 ≤ d ∧ d ≤ n) = true from decide_eq_true ⟨h1, h2⟩]
  exact fin_same rfl rfl q
theorem needdeeds_ok (hx : IsLst C x (h.map dD)) (hh : OkH n h) (q : QD .non C) : W (m_need_deeds [x, .int n] C) QD := by
  have tx := hx.ty
  obtain ⟨g, eg, og⟩ := hx.it
  unfold m_need_deeds
  repeat' walk_at "ev"
  refine ⟨_, eg, ?_⟩
  refine w_forM (fun i sl C1 => ∃ x2 x3, sl = [some x, some (.int n), x2, x3] ∧ C1 = C) (fun _ _ _ hi => by obtain ⟨_, _, _, rfl⟩ := hi; exact og) ?_ ?_ ⟨_, _, rfl, rfl⟩
  · intro i d sl C1 hd hi
    obtain ⟨x2, x3, rfl, rfl⟩ := hi
    obtain ⟨a, rfl, ha⟩ := enumGet hd
    rw [List.getElem?_map, Option.map_eq_some_iff] at ha
    obtain ⟨e, he, rfl⟩ := ha
    repeat' walk_at "ev"
    refine isdeed_ok (hh e (List.mem_of_getElem? he)) ?_
    repeat' walk_at "ev"
    exact ⟨_, _, rfl, rfl⟩
  · intro sl C1 hi
    obtain ⟨x2, x3, rfl, rfl⟩ := hi
    repeat' walk_at "ev"
    exact fin_same rfl rfl q
theorem copied_ok (hx : IsSt C x rs ls) (q : QD (.tup [.cell C.length, .cell (C.length + 1)]) (C ++ [iL rs, iL ls])) : W (m_copied [x] C) QD := by
  obtain ⟨a, b, rfl, ha, hb⟩ := hx
  unfold m_copied
  repeat' walk_at "ev"
  refine ha.list ?_
  repeat' walk_at "ev"
  refine hb.app.list ?_
  repeat' walk_at "ev"
  rw [List.append_assoc, List.length_append]
  exact fin_two0 (j := 0) (k := 1) rfl rfl (by decide) (closed_iL _ _) (closed_iL _ _) q
theorem dancers_ok (hx : IsSt C x rs ls) (q : QD (.int ((rs.length : Int) - 1)) C) : W (m_dancers_of [x] C) QD := by
  obtain ⟨a, b, rfl, ha, hb⟩ := hx
  unfold m_dancers_of
  repeat' walk_at "ev"
  rw [List.length_map]
  exact fin_same rfl rfl q
theorem handsby_ok (hx : IsSt C x rs ls) (v : Vs rs ls) (hn : n = rs.length - 1) (he : OkD n e)
    (q : QD (.cell C.length) (C ++ [.lst [.tup [.str "right", .int (doL (rs, ls) e), .int (doL (rs, ls) e), .int (if e.1 = "go" then doR (rs, ls) e else e.2)], .tup [.str "left", .int (doR (rs, ls) e), .int (doR (rs, ls) e - 1), .int (if e.1 = "go" then doL (rs, ls) e else e.2)]]])) :
    W (m_hands_by [x, dD e] C) QD := by
  obtain ⟨a, b, rfl, ha, hb⟩ := hx
  obtain ⟨k, d⟩ := e
  obtain ⟨h0, h1, h2⟩ := he
  simp only at h1 h2
  obtain ⟨r, hr, a1, r1, r2, er⟩ := v.rx (i := d) (by omega) (by omega)
  obtain ⟨l, hl, a2, l1, l2, el⟩ := v.lx (i := d - 1) (by omega) (by omega)
  have e1 : doR (rs, ls) (k, d) = r := er
  have e2 : doL (rs, ls) (k, d) = l := el
  rw [e1, e2] at q
  unfold m_hands_by
  repeat' walk_at "ev"
  by_cases hk : k = "go"
  · simp only [if_pos hk] at q
    refine ite_t (decide_eq_true hk) ?_
    repeat' walk_at "ev"
    exact W.of (fin_cell0 rfl) q
  · simp only [if_neg hk] at q
    refine ite_f (decide_eq_false hk) ?_
    repeat' walk_at "ev"
    exact W.of (fin_cell0 rfl) q
theorem ixN_in {m : Nat} {i : Int} (h0 : 0 ≤ i) (h : i < m) : ixN m i = some i.toNat := ixN_int h0 h
theorem behind_ok (hx : IsSt C x rs ls) (v : Vs rs ls) (hn : n = rs.length - 1) (hy : IsLst C y (h.map dD)) (hh : OkH n h)
    (q : QD (.tup [.cell C.length, .cell (C.length + 1)]) (C ++ [iL (run (rs, ls) h).1, iL (run (rs, ls) h).2])) : W (m_behind [x, y] C) QD := by
  obtain ⟨g, eg, og⟩ := hy.itA
  unfold m_behind
  repeat' walk_at "ev"
  refine need_ok hx v ?_
  repeat' walk_at "ev"
  refine dancers_ok hx ?_
  repeat' walk_at "ev"
  refine needdeeds_ok hy (by rw [← hn]; exact hh) ?_
  repeat' walk_at "ev"
  refine copied_ok hx ?_
  repeat' walk_at "ev"
  refine ⟨(h.map dD, g), ?_, ?_⟩
  · cases hy with
    | f => exact eg
    | c k ds hk => unfold lstG at eg ⊢; simp only [hk] at eg; simp only [at_lo hk]; exact eg
  refine w_forM (fun i sl C1 => ∃ x3 x4 x5 x6 x7, sl = [some x, some y, some (.tup [.cell C.length, .cell (C.length + 1)]), x3, x4, x5, x6, x7] ∧ C1 = C ++ [iL (run (rs, ls) (h.take i)).1, iL (run (rs, ls) (h.take i)).2])
    (fun _ _ _ hi => by obtain ⟨_, _, _, _, _, _, rfl⟩ := hi; exact og _) ?_ ?_ ⟨_, _, _, _, _, rfl, rfl⟩
  · intro i d sl C1 hd hi
    obtain ⟨x3, x4, x5, x6, x7, rfl, rfl⟩ := hi
    rw [List.getElem?_map, Option.map_eq_some_iff] at hd
    obtain ⟨e, he, rfl⟩ := hd
    have heo := hh e (List.mem_of_getElem? he)
    obtain ⟨v1, l1⟩ := run_vs v hn (hh.take i)
    have es : run (rs, ls) (h.take (i + 1)) = step (run (rs, ls) (h.take i)) e := by
      rw [List.take_succ, he]
      unfold run
      rw [List.foldl_append]
      rfl
    rw [es]
    generalize hp : run (rs, ls) (h.take i) = p at v1 l1
    obtain ⟨rs1, ls1⟩ := p
    simp only at v1 l1
    have n1 : n = rs1.length - 1 := by omega
    repeat' walk_at "ev"
    refine w_fzL ?_
    repeat' walk_at "ev"
    refine handsby_ok (IsSt.c at_app0 at_app) v1 n1 heo ?_
    refine ⟨_, rfl, rfl, rfl, ?_⟩
    repeat' walk_at "ev"
    obtain ⟨h0, h1, h2⟩ := heo
    obtain ⟨r, hr, a1, r1, r2, er⟩ := v1.rx (i := e.2) (by omega) (by omega)
    obtain ⟨l, hl, a2, k1, k2, el⟩ := v1.lx (i := e.2 - 1) (by omega) (by omega)
    have e1 : doR (rs1, ls1) e = r := er
    have e2 : doL (rs1, ls1) e = l := el
    have vl := v1.len
    unfold step
    simp only [e1, e2]
    have i1 : ixN (rs1.map D.int).length l = some l.toNat := ixN_in k1 (by simp; omega)
    have i2 : ixN (ls1.map D.int).length (r - 1) = some (r - 1).toNat := ixN_in (by omega) (by simp [vl]; omega)
    refine w_forCons ?_
    repeat' walk_at "ev"
    rw [setI_map]
    simp only [set_app0, List.set_cons_zero]
    refine w_forCons ?_
    repeat' walk_at "ev"
    rw [setI_map]
    simp only [set_app, List.set_cons_zero, List.set_cons_succ]
    refine w_forNil ?_
    repeat' walk_at "ev"
    exact ⟨_, _, _, _, _, rfl, rfl⟩
  · intro sl C1 hi
    obtain ⟨x3, x4, x5, x6, x7, rfl, rfl⟩ := hi
    rw [List.length_map, List.take_length]
    repeat' walk_at "ev"
    exact fin_two0 (j := 0) (k := 1) rfl rfl (by decide) (closed_iL _ _) (closed_iL _ _) q
theorem behindF_ok {k : Nat} {sl : Sl} {mx my : ME} (v : Vs rs ls) (hn : n = rs.length - 1) (hh : OkH n h) (hx : W (mx sl C) fun x C' => C' = C ∧ IsSt C x rs ls) (hy : W (my sl C) fun y C' => C' = C ∧ IsLst C y (h.map dD))
    (q : QD (sD (run (rs, ls) h).1 (run (rs, ls) h).2) C) : W (mFz (k + 2) (mF 2 m_behind (aCons mx (aCons my aNil))) sl C) QD := by
  refine w_fzS ?_
  refine w_F ?_
  refine w_aCons (hx.imp fun x C' hx => ?_)
  obtain ⟨rfl, hx⟩ := hx
  refine w_aCons (hy.imp fun y C' hy => ?_)
  obtain ⟨rfl, hy⟩ := hy
  repeat' walk_at "ev"
  exact behind_ok hx v hn hy hh ⟨_, _, rfl, rfl, closedDs_ints _ _, closedDs_ints _ _, q⟩
end


theorem Shw.word {w : Str} (h : w = "go" ∨ w = "come") : Shw (.str w) 4 0 (.str w) := by
  refine ⟨fun _ => rfl, rfl, ?_, Nat.le_refl _, ?_, rfl⟩
  · show PyData.strOk w = true
    rcases h with rfl | rfl <;> decide +kernel
  · show w.cps.size ≤ 4
    rcases h with rfl | rfl <;> decide +kernel
theorem Shw.deed {n : Int} {e : Dd} (h : OkD n e) (hn : n ≤ 1000000) : Shw (dD e) 47 1 (.tuple [.str e.1, .int e.2]) := by
  obtain ⟨h0, h1, h2⟩ := h
  exact Shw.tup2 (Shw.word h0) (Shw.int ⟨by omega, by omega⟩)
theorem Shw.deeds {n : Int} {l : List Dd} (h : OkH n l) (hn : n ≤ 1000000) : Shw (.lst (l.map dD)) (48 * l.length) 2 (.list (l.map fun e => .tuple [.str e.1, .int e.2])) :=
  Shw.map (fun _ _ => rfl) fun e he => Shw.deed (h e he) hn


theorem run_snoc (p : List Int × List Int) (h : List Dd) (e : Dd) : run p (h ++ [e]) = step (run p h) e := by unfold run; rw [List.foldl_append]; rfl
theorem run_take {p : List Int × List Int} {h : List Dd} {i : Nat} {e : Dd} (he : h[i]? = some e) : run p (h.take (i + 1)) = step (run p (h.take i)) e := by
  rw [List.take_succ, he]
  exact run_snoc p _ e
theorem dD_closed (l : List Dd) : closedC 0 (.lst (l.map dD)) = true := closedDs_map (fun _ => rfl) l

theorem rg_ints (a b : Int) : rangeD a b = ((List.range (b - a).toNat).map fun i : Nat => a + (i : Int)).map D.int := by
  unfold rangeD
  rw [List.map_map]
  rfl
theorem erase_map {A B : Type} (f : A → B) : ∀ (l : List A) (r : Nat), (l.map f).eraseIdx r = (l.eraseIdx r).map f
  | [], _ => rfl
  | _ :: _, 0 => rfl
  | a :: l, r + 1 => by
    show f a :: (l.map f).eraseIdx r = f a :: (l.eraseIdx r).map f
    rw [erase_map f l r]
theorem perm_erase {l : List Int} {r : Nat} {x : Int} (h : l[r]? = some x) : (x :: l.eraseIdx r).Perm l := by
  induction l generalizing r with
  | nil => cases h
  | cons a l ih =>
    cases r with
    | zero => cases h; exact .refl _
    | succ r =>
      have h : l[r]? = some x := h
      exact (List.Perm.swap a x _).trans (.cons a (ih h))


section
variable {C G X : Store} {k m n : Nat} {S : Cell} {QD : D → Store → Prop} {rs ls : List Int} {x : D} {e : Dd}
end


/-! hands in a dict, by side and dancer -/
abbrev kR (i : Int) : List Key := [.inr "right", .inl i]
abbrev kL (i : Int) : List Key := [.inr "left", .inl i]
theorem kR_inj {i j : Int} : kR i = kR j ↔ i = j := by simp [kR]
theorem kL_inj {i j : Int} : kL i = kL j ↔ i = j := by simp [kL]
theorem rl_str : ¬ (("right" : Str) = "left") := by decide +kernel
theorem kRL {i j : Int} : ¬ kR i = kL j := fun h => by
  have := (List.cons.inj h).1
  exact rl_str (Sum.inr.inj this)
theorem kLR {i j : Int} : ¬ kL i = kR j := fun h => kRL h.symm
section
variable {κ : Type} [DecidableEq κ]
theorem valD_put (k k' : κ) (d : D) : ∀ kvs : List (κ × D), valD (putD kvs k d) k' = if k' = k then some d else valD kvs k' := by
  intro kvs
  have hmap : ∀ kvs : List (κ × D), valD (kvs.map fun kv => if kv.1 = k then (kv.1, d) else kv) k' = if k' = k then (if (kvs.any fun kv => decide (kv.1 = k)) = true then some d else none) else valD kvs k' := by
    intro kvs
    induction kvs with
    | nil => unfold valD; split <;> rfl
    | cons kv kvs ih =>
      unfold valD at ih ⊢
      rw [List.map_cons, List.find?_cons, List.find?_cons, List.any_cons]
      by_cases h1 : kv.1 = k
      · rw [if_pos h1]
        by_cases h2 : k' = k
        · subst h2
          simp [h1]
        · have h3 : ¬ kv.1 = k' := fun z => h2 (z ▸ h1)
          simp only [decide_eq_false h3, if_neg h2] at ih ⊢
          exact ih
      · rw [if_neg h1]
        by_cases h2 : kv.1 = k'
        · have h3 : ¬ k' = k := fun z => h1 (h2.trans z)
          rw [if_neg h3]
          simp [h2]
        · simp only [decide_eq_false h2, decide_eq_false h1, Bool.false_or] at ih ⊢
          exact ih
  unfold putD
  split
  · rename_i h
    rw [hmap, h]
    rfl
  · rename_i h
    have hn : ∀ kvs : List (κ × D), valD (kvs ++ [(k, d)]) k' = (valD kvs k').or (if k = k' then some d else none) := by
      intro kvs
      unfold valD
      rw [List.find?_append]
      cases kvs.find? fun kv => decide (kv.1 = k') with
      | none =>
        by_cases hk : k = k'
        · simp [hk]
        · simp [hk]
      | some x => rfl
    rw [hn]
    by_cases hk : k' = k
    · subst hk
      rw [if_pos rfl, if_pos rfl]
      have : valD kvs k' = none := by
        unfold valD
        rw [Option.map_eq_none_iff, List.find?_eq_none]
        intro x hx hd
        exact h (List.any_eq_true.mpr ⟨x, hx, hd⟩)
      rw [this]
      rfl
    · rw [if_neg hk, if_neg (Ne.symm hk)]
      cases valD kvs k' <;> rfl
theorem put_len (k : κ) (d : D) (kvs : List (κ × D)) : (putD kvs k d).length = if valD kvs k = none then kvs.length + 1 else kvs.length := by
  have e : (kvs.any fun kv => decide (kv.1 = k)) = true ↔ ¬ valD kvs k = none := by
    unfold valD
    rw [Option.map_eq_none_iff, List.find?_eq_none, List.any_eq_true]
    constructor
    · rintro ⟨x, hx, hd⟩ h
      exact h x hx hd
    · intro h
      exact Classical.byContradiction fun z => h fun x hx hd => z ⟨x, hx, hd⟩
  unfold putD
  split
  · rename_i h
    rw [if_neg (e.mp h), List.length_map]
  · rename_i h
    rw [if_pos (Classical.byContradiction fun z => h (e.mpr z)), List.length_append]
    rfl
theorem put_vals (k : κ) (d : D) (kvs : List (κ × D)) (h : closedDs 0 (kvs.map (·.2)) = true) (hd : closedD 0 d = true) : closedDs 0 ((putD kvs k d).map (·.2)) = true := by
  have app : ∀ l m : List D, closedDs 0 l = true → closedDs 0 m = true → closedDs 0 (l ++ m) = true := by
    intro l m h1 h2
    induction l with
    | nil => exact h2
    | cons x l ih =>
      unfold closedDs at h1
      rw [Bool.and_eq_true] at h1
      show (closedD 0 x && closedDs 0 (l ++ m)) = true
      rw [h1.1, ih h1.2]
      rfl
  unfold putD
  split
  · clear app
    rename_i hx
    clear hx
    induction kvs with
    | nil => rfl
    | cons kv kvs ih =>
      have h : (closedD 0 kv.2 && closedDs 0 (kvs.map (·.2))) = true := h
      rw [Bool.and_eq_true] at h
      show (closedD 0 (if kv.1 = k then (kv.1, d) else kv).2 && closedDs 0 _) = true
      rw [ih h.2]
      split
      · rw [hd]; rfl
      · rw [h.1]; rfl
  · rw [List.map_append]
    exact app _ _ h (by show (closedD 0 d && true) = true; rw [hd]; rfl)
end
structure DHas (kvs : List (List Key × D)) (rs ls : List Int) : Prop where
  len : kvs.length = 2 * rs.length
  lr : ls.length = rs.length
  r : ∀ (i : Nat) (x : Int), rs[i]? = some x → valD kvs (kR i) = some (.int x)
  l : ∀ (i : Nat) (x : Int), ls[i]? = some x → valD kvs (kL (i + 1 : Int)) = some (.int x)
  nr : ∀ i : Nat, rs.length ≤ i → valD kvs (kR i) = none
  nl : ∀ i : Nat, rs.length ≤ i → valD kvs (kL (i + 1 : Int)) = none
  cl : closedDs 0 (kvs.map (·.2)) = true
theorem DHas.nil : DHas [] [] [] := ⟨rfl, rfl, (fun _ _ h => nomatch h), (fun _ _ h => nomatch h), (fun _ _ => rfl), (fun _ _ => rfl), rfl⟩
theorem DHas.snoc {kvs : List (List Key × D)} {rs ls : List Int} (h : DHas kvs rs ls) (a b : Int) : DHas (putD (putD kvs (kR rs.length) (.int a)) (kL (rs.length + 1 : Int)) (.int b)) (rs ++ [a]) (ls ++ [b]) := by
  have v1 := h.nr rs.length (Nat.le_refl _)
  have v2 := h.nl rs.length (Nat.le_refl _)
  refine ⟨?_, by simp [h.lr], fun i x hx => ?_, fun i x hx => ?_, fun i hi => ?_, fun i hi => ?_, put_vals _ _ _ (put_vals _ _ _ h.cl rfl) rfl⟩
  · rw [put_len, valD_put, if_neg kLR, if_pos v2, put_len, if_pos v1, h.len]
    simp
    omega
  · rw [valD_put, if_neg kRL, valD_put]
    by_cases hi : i < rs.length
    · rw [List.getElem?_append_left hi] at hx
      rw [if_neg (by rw [kR_inj]; omega)]
      exact h.r i x hx
    · have hl := (List.getElem?_eq_some_iff.mp hx).1
      have : i = rs.length := by simp at hl; omega
      subst this
      simp at hx
      subst hx
      rw [if_pos rfl]
  · rw [valD_put]
    by_cases hi : i < ls.length
    · rw [List.getElem?_append_left hi] at hx
      have := h.lr
      rw [if_neg (by rw [kL_inj]; omega), valD_put, if_neg kLR]
      exact h.l i x hx
    · have hl := (List.getElem?_eq_some_iff.mp hx).1
      have : i = ls.length := by simp at hl; omega
      subst this
      simp at hx
      subst hx
      rw [h.lr, if_pos rfl]
  · simp at hi
    rw [valD_put, if_neg kRL, valD_put, if_neg (by rw [kR_inj]; omega)]
    exact h.nr i (by omega)
  · simp at hi
    rw [valD_put, if_neg (by rw [kL_inj]; omega), valD_put, if_neg kLR]
    exact h.nl i (by omega)
theorem DHas.setR {kvs : List (List Key × D)} {rs ls : List Int} (h : DHas kvs rs ls) {i : Nat} (hi : i < rs.length) (x : Int) : DHas (putD kvs (kR i) (.int x)) (rs.set i x) ls := by
  have v1 := h.r i _ (List.getElem?_eq_getElem hi)
  refine ⟨?_, by simp [h.lr], fun j y hy => ?_, fun j y hy => ?_, fun j hj => ?_, fun j hj => ?_, put_vals _ _ _ h.cl rfl⟩
  · rw [put_len, v1, if_neg (by simp), h.len, List.length_set]
  · rw [valD_put]
    rw [List.getElem?_set] at hy
    by_cases hij : i = j
    · subst hij
      rw [if_pos rfl, if_pos hi] at hy
      rw [if_pos rfl, ← Option.some.inj hy]
    · rw [if_neg hij] at hy
      rw [if_neg (by rw [kR_inj]; omega)]
      exact h.r j y hy
  · rw [valD_put, if_neg kLR]
    exact h.l j y hy
  · rw [List.length_set] at hj
    rw [valD_put, if_neg (by rw [kR_inj]; omega)]
    exact h.nr j hj
  · rw [List.length_set] at hj
    rw [valD_put, if_neg kLR]
    exact h.nl j hj
theorem DHas.setL {kvs : List (List Key × D)} {rs ls : List Int} (h : DHas kvs rs ls) {i : Nat} (hi : i < rs.length) (x : Int) : DHas (putD kvs (kL (i + 1 : Int)) (.int x)) rs (ls.set i x) := by
  have hl := h.lr
  have v1 := h.l i _ (List.getElem?_eq_getElem (by omega))
  refine ⟨?_, by simp [h.lr], fun j y hy => ?_, fun j y hy => ?_, fun j hj => ?_, fun j hj => ?_, put_vals _ _ _ h.cl rfl⟩
  · rw [put_len, v1, if_neg (by simp), h.len]
  · rw [valD_put, if_neg kRL]
    exact h.r j y hy
  · rw [valD_put]
    rw [List.getElem?_set] at hy
    by_cases hij : i = j
    · subst hij
      rw [if_pos rfl, if_pos (by omega)] at hy
      rw [if_pos rfl, ← Option.some.inj hy]
    · rw [if_neg hij] at hy
      rw [if_neg (by rw [kL_inj]; omega)]
      exact h.l j y hy
  · rw [valD_put, if_neg kRL]
    exact h.nr j hj
  · rw [valD_put, if_neg (by rw [kL_inj]; omega)]
    exact h.nl j hj


section
theorem filter_all {A : Type} : ∀ l : List A, l.filter (fun _ => true) = l
  | [] => rfl
  | x :: l => by rw [List.filter_cons_of_pos rfl, filter_all l]
end


/-! who is held by both whom it holds -/
def gos (ws : List Int) : List Dd := ws.map fun w => ("go", w)
def comes (ws : List Int) : List Dd := ws.map fun w => ("come", w)
def Lk (p : List Int × List Int) (w : Int) : Prop := p.1.getD (p.2.getD (w - 1).toNat 0).toNat 0 = w ∧ p.2.getD (p.1.getD w.toNat 0 - 1).toNat 0 = w
def In (n : Int) (ws : List Int) : Prop := ∀ w ∈ ws, 1 ≤ w ∧ w ≤ n
theorem go_ne : ¬ (("come" : Str) = "go") := by decide +kernel
theorem okgo {n w : Int} (h : 1 ≤ w ∧ w ≤ n) : OkD n ("go", w) := ⟨.inl rfl, h.1, h.2⟩
theorem okcome {n w : Int} (h : 1 ≤ w ∧ w ≤ n) : OkD n ("come", w) := ⟨.inr rfl, h.1, h.2⟩
theorem okgos {n : Int} {ws : List Int} (h : In n ws) : OkH n (gos ws) := fun e he => by
  obtain ⟨w, hw, rfl⟩ := List.mem_map.mp he
  exact okgo (h w hw)
theorem okcomes {n : Int} {ws : List Int} (h : In n ws) : OkH n (comes ws) := fun e he => by
  obtain ⟨w, hw, rfl⟩ := List.mem_map.mp he
  exact okcome (h w hw)
theorem getD_set_ne {l : List Int} {i j : Nat} {x : Int} (h : i ≠ j) : (l.set i x).getD j 0 = l.getD j 0 := by
  rw [List.getD_eq_getElem?_getD, List.getD_eq_getElem?_getD, List.getElem?_set_ne h]
theorem getD_set_eq {l : List Int} {i : Nat} {x : Int} (h : i < l.length) : (l.set i x).getD i 0 = x := by
  rw [List.getD_eq_getElem?_getD, List.getElem?_set_self h]
  rfl
theorem set_getD {l : List Int} {i : Nat} {x : Int} (h : i < l.length) (e : l.getD i 0 = x) : l.set i x = l := by
  apply List.ext_getElem?
  intro j
  rw [List.getElem?_set]
  split
  · rename_i ij
    subst ij
    rw [← e, List.getD_eq_getElem?_getD, List.getElem?_eq_getElem h]
    first | rfl | (rw [if_pos h]; rfl)
  · rfl
section
variable {rs ls : List Int} {n w x : Int}
theorem doR_eq {p : List Int × List Int} {k : Str} : doR p (k, w) = p.1.getD w.toNat 0 := rfl
theorem doL_eq {p : List Int × List Int} {k : Str} : doL p (k, w) = p.2.getD (w - 1).toNat 0 := rfl
theorem step_go {p : List Int × List Int} : step p ("go", w) = (p.1.set (doL p ("go", w)).toNat (doR p ("go", w)), p.2.set (doR p ("go", w) - 1).toNat (doL p ("go", w))) := rfl
theorem step_come {p : List Int × List Int} : step p ("come", w) = (p.1.set (doL p ("come", w)).toNat w, p.2.set (doR p ("come", w) - 1).toNat w) := by
  unfold step
  simp only [if_neg go_ne]
/-- what one holds who goes stays -/
theorem go_keeps (v : Vs rs ls) (hn : n = rs.length - 1) (hw : 1 ≤ w ∧ w ≤ n) (k : Str) : doR (step (rs, ls) ("go", w)) (k, w) = doR (rs, ls) ("go", w) ∧ doL (step (rs, ls) ("go", w)) (k, w) = doL (rs, ls) ("go", w) := by
  obtain ⟨r, hr, _, r1, r2, er⟩ := v.rx (i := w) (by omega) (by omega)
  obtain ⟨l, hl, _, l1, l2, el⟩ := v.lx (i := w - 1) (by omega) (by omega)
  have e1 : doR (rs, ls) ("go", w) = r := er
  have e2 : doL (rs, ls) ("go", w) = l := el
  rw [step_go, e1, e2, doR_eq, doL_eq]
  simp only
  rw [getD_set_ne (by omega), getD_set_ne (by omega)]
  exact ⟨er, el⟩
/-- a going and a coming -/
theorem undo (v : Vs rs ls) (hn : n = rs.length - 1) (hw : 1 ≤ w ∧ w ≤ n) (h : Lk (rs, ls) w) : step (step (rs, ls) ("go", w)) ("come", w) = (rs, ls) := by
  obtain ⟨r, hr, _, r1, r2, er⟩ := v.rx (i := w) (by omega) (by omega)
  obtain ⟨l, hl, _, l1, l2, el⟩ := v.lx (i := w - 1) (by omega) (by omega)
  obtain ⟨k1, k2⟩ := go_keeps v hn hw "come"
  have e1 : doR (rs, ls) ("go", w) = r := er
  have e2 : doL (rs, ls) ("go", w) = l := el
  obtain ⟨h1, h2⟩ := h
  simp only [er, el] at h1 h2
  have vl := v.len
  rw [step_come, k1, k2, step_go, e1, e2]
  simp only [List.set_set]
  rw [set_getD (by omega) h1, set_getD (by omega) h2]
end
theorem In.tail {n w : Int} {ws : List Int} (h : In n (w :: ws)) : In n ws := fun x hx => h x (List.mem_cons_of_mem _ hx)
theorem In.take {n : Int} {ws : List Int} (k : Nat) (h : In n ws) : In n (ws.take k) := fun x hx => h x (List.mem_of_mem_take hx)
theorem In.drop {n : Int} {ws : List Int} (k : Nat) (h : In n ws) : In n (ws.drop k) := fun x hx => h x (List.mem_of_mem_drop hx)
theorem gos_get {ws : List Int} {j : Nat} {w : Int} (h : ws[j]? = some w) : (gos ws)[j]? = some (("go", w) : Dd) := by unfold gos; rw [List.getElem?_map, h]; rfl
theorem gos_len (ws : List Int) : (gos ws).length = ws.length := by simp [gos]
theorem lk_wh {n : Nat} {w : Int} (h1 : 1 ≤ w) (h2 : w ≤ n) : Lk (whR n, whL n) w := by
  obtain ⟨m, rfl⟩ : ∃ m : Nat, w = m + 1 := ⟨(w - 1).toNat, by omega⟩
  have g1 : (whL n).getD ((m : Int) + 1 - 1).toNat 0 = m := by
    rw [show ((m : Int) + 1 - 1).toNat = m from by omega, List.getD_eq_getElem?_getD, whL_get (by omega)]
    rfl
  have g2 : (whR n).getD ((m : Int) + 1).toNat 0 = 1 + ((m + 1 : Nat) : Int) := by
    rw [show ((m : Int) + 1).toNat = m + 1 from by omega, List.getD_eq_getElem?_getD, whR_get (by omega)]
    rfl
  unfold Lk
  simp only
  rw [g1, g2]
  constructor
  · rw [show ((m : Int)).toNat = m from by omega, List.getD_eq_getElem?_getD, whR_get (by omega)]
    show 1 + (m : Int) = _
    omega
  · rw [show (1 + ((m + 1 : Nat) : Int) - 1).toNat = m + 1 from by omega, List.getD_eq_getElem?_getD, whL_get (by omega)]
    show ((m + 1 : Nat) : Int) = _
    omega


section
variable {rs ls : List Int}
theorem lost_mem {b : Int} (h : b ∈ lostOf rs ls) : ∃ i : Nat, b = i ∧ i < rs.length ∧ wAt rs ls i = "forgotten" := by
  unfold lostOf at h
  obtain ⟨i, hi, rfl⟩ := List.mem_map.mp h
  have := List.mem_filter.mp hi
  exact ⟨i, rfl, List.mem_range.mp this.1, of_decide_eq_true this.2⟩
theorem word_lost {r l b : Int} (h : wordP r l b = "forgotten") : r ≠ b + 1 ∧ l ≠ b := by
  unfold wordP at h
  have z1 : ¬ (("held" : Str) = "forgotten") := by decide +kernel
  have z2 : ¬ (("left" : Str) = "forgotten") := by decide +kernel
  have z3 : ¬ (("right" : Str) = "forgotten") := by decide +kernel
  by_cases c1 : r = b + 1 <;> by_cases c2 : l = b <;> simp [c1, c2, z1, z2, z3] at h ⊢
end


/-! goings and then comings forget nothing -/
def Rr (p : List Int × List Int) (b : Int) : Int := p.1.getD b.toNat 0
def Ll (p : List Int × List Int) (b : Int) : Int := p.2.getD b.toNat 0
structure NF (t : Int → Nat) (n : Int) (p : List Int × List Int) : Prop where
  a1 : ∀ b, 0 ≤ b → b ≤ n → t b ≤ t (b + 1) → Rr p b = b + 1
  a2 : ∀ b, 0 ≤ b → b ≤ n → t (b + 1) < t b → Ll p b = b
  j1 : ∀ b, 0 ≤ b → b ≤ n → Ll p b = b ∨ t (Ll p b + 1) < t (Ll p b)
  j2 : ∀ b, 0 ≤ b → b ≤ n → Rr p b = b + 1 ∨ t (Rr p b - 1) < t (Rr p b)
section
variable {rs ls : List Int} {n w : Int} {t : Int → Nat}
theorem rl_bd (v : Vs rs ls) (hn : n = rs.length - 1) {b : Int} (h0 : 0 ≤ b) (h1 : b ≤ n) : b + 1 ≤ Rr (rs, ls) b ∧ Rr (rs, ls) b ≤ n + 1 ∧ 0 ≤ Ll (rs, ls) b ∧ Ll (rs, ls) b ≤ b := by
  obtain ⟨r, hr, _, r1, r2, er⟩ := v.rx (i := b) h0 (by omega)
  obtain ⟨l, hl, _, l1, l2, el⟩ := v.lx (i := b) h0 (by omega)
  have e1 : Rr (rs, ls) b = r := er
  have e2 : Ll (rs, ls) b = l := el
  omega
theorem Rr_set {i x b : Int} (h0 : 0 ≤ i) (h1 : i < rs.length) (hb : 0 ≤ b) : Rr (rs.set i.toNat x, ls) b = if b = i then x else Rr (rs, ls) b := by
  unfold Rr
  by_cases h : b = i
  · rw [if_pos h, h]
    exact getD_set_eq (by omega)
  · rw [if_neg h]
    exact getD_set_ne (by omega)
theorem Ll_set {i x b : Int} (h0 : 0 ≤ i) (h1 : i < ls.length) (hb : 0 ≤ b) : Ll (rs, ls.set i.toNat x) b = if b = i then x else Ll (rs, ls) b := by
  unfold Ll
  by_cases h : b = i
  · rw [if_pos h, h]
    exact getD_set_eq (by omega)
  · rw [if_neg h]
    exact getD_set_ne (by omega)
theorem come_nf (v : Vs rs ls) (hn : n = rs.length - 1) (hw : 1 ≤ w ∧ w ≤ n) (ht : ∀ b, b ≠ w → t b ≠ t w) (h : NF t n (rs, ls)) : NF t n (step (rs, ls) ("come", w)) := by
  obtain ⟨q1, q2, _, _⟩ := rl_bd v hn (b := w) (by omega) (by omega)
  obtain ⟨_, _, q3, q4⟩ := rl_bd v hn (b := w - 1) (by omega) (by omega)
  have vl := v.len
  have er : doR (rs, ls) ("come", w) = Rr (rs, ls) w := rfl
  have el : doL (rs, ls) ("come", w) = Ll (rs, ls) (w - 1) := rfl
  have jw := h.j1 (w - 1) (by omega) (by omega)
  have kw := h.j2 w (by omega) (by omega)
  have aw := h.a1 w (by omega) (by omega)
  have bw := h.a2 (w - 1) (by omega) (by omega)
  rw [show w - 1 + 1 = w from by omega] at bw
  rw [step_come, er, el]
  generalize Rr (rs, ls) w = r at *
  generalize Ll (rs, ls) (w - 1) = l at *
  have R' : ∀ b, 0 ≤ b → Rr (rs.set l.toNat w, ls.set (r - 1).toNat w) b = if b = l then w else Rr (rs, ls) b := fun b hb => Rr_set (ls := ls.set (r - 1).toNat w) (by omega) (by omega) hb
  have L' : ∀ b, 0 ≤ b → Ll (rs.set l.toNat w, ls.set (r - 1).toNat w) b = if b = r - 1 then w else Ll (rs, ls) b := fun b hb => Ll_set (rs := rs.set l.toNat w) (by omega) (by omega) hb
  refine ⟨fun b b0 b1 hb => ?_, fun b b0 b1 hb => ?_, fun b b0 b1 => ?_, fun b b0 b1 => ?_⟩
  · rw [R' b b0]
    split
    · rename_i e
      subst e
      rcases jw with jw | jw <;> omega
    · exact h.a1 b b0 b1 hb
  · rw [L' b b0]
    split
    · rename_i e
      subst e
      rw [show r - 1 + 1 = r from by omega] at hb
      rcases kw with kw | kw <;> omega
    · exact h.a2 b b0 b1 hb
  · rw [L' b b0]
    split
    · rename_i e
      subst e
      by_cases c : w = r - 1
      · exact .inl c
      · right
        by_cases c2 : t w ≤ t (w + 1)
        · have := aw c2
          omega
        · omega
    · exact h.j1 b b0 b1
  · rw [R' b b0]
    split
    · rename_i e
      subst e
      by_cases c : w = b + 1
      · exact .inl c
      · right
        have d := ht (w - 1) (by omega)
        by_cases c2 : t w < t (w - 1)
        · have := bw c2
          omega
        · omega
    · exact h.j2 b b0 b1
theorem go_nf {k : Nat} (v : Vs rs ls) (hn : n = rs.length - 1) (hw : 1 ≤ w ∧ w ≤ n) (hk : t w = k) (ht : ∀ b, b ≠ w → t b ≠ t w) (h : NF t n (rs, ls)) (n1 : ∀ b, 0 ≤ b → b ≤ n → t b < k → t b < t (b + 1) → Ll (rs, ls) b ≠ b) (n2 : ∀ b, 0 ≤ b → b ≤ n → t (b + 1) < k → t (b + 1) < t b → Rr (rs, ls) b ≠ b + 1) :
    NF t n (step (rs, ls) ("go", w)) ∧ (∀ b, 0 ≤ b → b ≤ n → t b < k + 1 → t b < t (b + 1) → Ll (step (rs, ls) ("go", w)) b ≠ b) ∧ ∀ b, 0 ≤ b → b ≤ n → t (b + 1) < k + 1 → t (b + 1) < t b → Rr (step (rs, ls) ("go", w)) b ≠ b + 1 := by
  obtain ⟨q1, q2, _, _⟩ := rl_bd v hn (b := w) (by omega) (by omega)
  obtain ⟨_, _, q3, q4⟩ := rl_bd v hn (b := w - 1) (by omega) (by omega)
  have vl := v.len
  have er : doR (rs, ls) ("go", w) = Rr (rs, ls) w := rfl
  have el : doL (rs, ls) ("go", w) = Ll (rs, ls) (w - 1) := rfl
  have jw := h.j1 (w - 1) (by omega) (by omega)
  have kw := h.j2 w (by omega) (by omega)
  have aw := h.a1 w (by omega) (by omega)
  have bw := h.a2 (w - 1) (by omega) (by omega)
  have m1 := n1 (w - 1) (by omega) (by omega)
  have m2 := n2 w (by omega) (by omega)
  rw [show w - 1 + 1 = w from by omega] at bw m1
  have d1 := ht (w - 1) (by omega)
  have d2 := ht (w + 1) (by omega)
  rw [step_go, er, el]
  generalize Rr (rs, ls) w = r at *
  generalize Ll (rs, ls) (w - 1) = l at *
  have R' : ∀ b, 0 ≤ b → Rr (rs.set l.toNat r, ls.set (r - 1).toNat l) b = if b = l then r else Rr (rs, ls) b := fun b hb => Rr_set (ls := ls.set (r - 1).toNat l) (by omega) (by omega) hb
  have L' : ∀ b, 0 ≤ b → Ll (rs.set l.toNat r, ls.set (r - 1).toNat l) b = if b = r - 1 then l else Ll (rs, ls) b := fun b hb => Ll_set (rs := rs.set l.toNat r) (by omega) (by omega) hb
  have hl : t (l + 1) < t l := by
    rcases jw with jw | jw
    · subst jw
      rw [show w - 1 + 1 = w from by omega]
      by_cases c : t w < t (w - 1)
      · exact c
      · exact absurd rfl (m1 (by omega) (by omega))
    · exact jw
  have hr : t (r - 1) < t r := by
    rcases kw with kw | kw
    · subst kw
      rw [show w + 1 - 1 = w from by omega]
      by_cases c : t (w + 1) < t w
      · exact absurd rfl (m2 (by omega) c)
      · omega
    · exact kw
  refine ⟨⟨fun b b0 b1 hb => ?_, fun b b0 b1 hb => ?_, fun b b0 b1 => ?_, fun b b0 b1 => ?_⟩, fun b b0 b1 hb hb2 => ?_, fun b b0 b1 hb hb2 => ?_⟩
  · rw [R' b b0]
    split
    · rename_i e
      subst e
      omega
    · exact h.a1 b b0 b1 hb
  · rw [L' b b0]
    split
    · rename_i e
      subst e
      rw [show r - 1 + 1 = r from by omega] at hb
      omega
    · exact h.a2 b b0 b1 hb
  · rw [L' b b0]
    split
    · exact .inr hl
    · exact h.j1 b b0 b1
  · rw [R' b b0]
    split
    · exact .inr hr
    · exact h.j2 b b0 b1
  · rw [L' b b0]
    split
    · omega
    · rename_i e
      by_cases c : t b < k
      · exact n1 b b0 b1 c hb2
      · have eb : b = w := by
          by_cases c2 : b = w
          · exact c2
          · exact absurd (by omega) (ht b c2)
        subst eb
        have := aw (by omega)
        omega
  · rw [R' b b0]
    split
    · omega
    · rename_i e
      by_cases c : t (b + 1) < k
      · exact n2 b b0 b1 c hb2
      · have eb : b + 1 = w := by
          by_cases c2 : b + 1 = w
          · exact c2
          · exact absurd (by omega) (ht (b + 1) c2)
        subst eb
        rw [show b + 1 - 1 = b from by omega] at bw
        exact absurd (bw hb2).symm e
end
theorem idx_ne {ws : List Int} {w : Int} (hw : w ∈ ws) : ∀ b, b ≠ w → ws.idxOf b ≠ ws.idxOf w := fun b hb e => by
  have h1 := List.idxOf_lt_length_of_mem hw
  have h2 : ws[ws.idxOf w]? = some w := by
    rw [List.getElem?_eq_getElem h1, List.getElem_idxOf]
  have h3 : ws[ws.idxOf b]? = some b := by
    rw [List.getElem?_eq_getElem (by omega), List.getElem_idxOf]
  rw [e, h2] at h3
  cases h3
  exact hb rfl
theorem idx_at {ws : List Int} {k : Nat} {w : Int} (hd : ws.Nodup) (e : ws[k]? = some w) : ws.idxOf w = k := by
  obtain ⟨hk, e⟩ := List.getElem?_eq_some_iff.mp e
  have h1 := List.idxOf_lt_length_of_mem (e ▸ List.getElem_mem hk : w ∈ ws)
  have h2 : ws[ws.idxOf w] = w := List.getElem_idxOf h1
  exact (List.getElem_inj hd).mp (h2.trans e.symm)
theorem nf_gos {n : Nat} {ws : List Int} (n0 : 1 ≤ n) (n1 : n ≤ 200) (hd : ws.Nodup) (hi : In n ws) : ∀ k, k ≤ ws.length → NF ws.idxOf n (run (whR n, whL n) ((gos ws).take k)) ∧
    (∀ b, 0 ≤ b → b ≤ (n : Int) → ws.idxOf b < k → ws.idxOf b < ws.idxOf (b + 1) → Ll (run (whR n, whL n) ((gos ws).take k)) b ≠ b) ∧ ∀ b, 0 ≤ b → b ≤ (n : Int) → ws.idxOf (b + 1) < k → ws.idxOf (b + 1) < ws.idxOf b → Rr (run (whR n, whL n) ((gos ws).take k)) b ≠ b + 1
  | 0, _ => by
    have hR : ∀ b : Int, 0 ≤ b → b ≤ (n : Int) → Rr (whR n, whL n) b = b + 1 := fun b b0 b1 => by
      unfold Rr
      rw [List.getD_eq_getElem?_getD, whR_get (by omega)]
      show 1 + ((b.toNat : Nat) : Int) = b + 1
      omega
    have hL : ∀ b : Int, 0 ≤ b → b ≤ (n : Int) → Ll (whR n, whL n) b = b := fun b b0 b1 => by
      unfold Ll
      rw [List.getD_eq_getElem?_getD, whL_get (by omega)]
      show ((b.toNat : Nat) : Int) = b
      omega
    exact ⟨⟨fun b b0 b1 _ => hR b b0 b1, fun b b0 b1 _ => hL b b0 b1, fun b b0 b1 => .inl (hL b b0 b1), fun b b0 b1 => .inl (hR b b0 b1)⟩, fun b _ _ h => by omega, fun b _ _ h => by omega⟩
  | k + 1, hk => by
    obtain ⟨w, hw⟩ := get_ex (l := ws) (i := k) (by omega)
    have hm := List.mem_of_getElem? hw
    obtain ⟨h1, h2, h3⟩ := nf_gos n0 n1 hd hi k (by omega)
    obtain ⟨v1, l1⟩ := run_vs (n := n) (h := (gos ws).take k) (wh_vs n0 (by omega)) (by rw [whR_len]; omega) ((okgos hi).take k)
    rw [run_take (gos_get hw)]
    generalize run (whR n, whL n) ((gos ws).take k) = p at h1 h2 h3 v1 l1 ⊢
    obtain ⟨rs, ls⟩ := p
    simp only [whR_len] at v1 l1
    exact go_nf v1 (by omega) (hi w hm) (idx_at hd hw) (idx_ne hm) h1 h2 h3
theorem nf_comes {n : Nat} {ws : List Int} : ∀ {us : List Int} {rs ls : List Int}, Vs rs ls → (n : Int) = rs.length - 1 → In n us → (∀ u ∈ us, u ∈ ws) → NF ws.idxOf n (rs, ls) → NF ws.idxOf n (run (rs, ls) (comes us))
  | [], _, _, _, _, _, _, h => h
  | u :: us, rs, ls, v, hn, hi, hu, h => by
    have hw := hi u List.mem_cons_self
    obtain ⟨v1, l1⟩ := step_vs v hn (okcome hw)
    exact nf_comes (us := us) (rs := (step (rs, ls) ("come", u)).1) (ls := (step (rs, ls) ("come", u)).2) v1 (by rw [l1]; exact hn) hi.tail (fun x hx => hu x (List.mem_cons_of_mem _ hx)) (come_nf v hn hw (idx_ne (hu u List.mem_cons_self)) h)
theorem nf_lost {t : Int → Nat} {n : Nat} {rs ls : List Int} (hn : (n : Int) = rs.length - 1) (h : NF t n (rs, ls)) : lostOf rs ls = [] := by
  refine List.eq_nil_iff_forall_not_mem.mpr fun b hb => ?_
  obtain ⟨i, rfl, hi, hw⟩ := lost_mem hb
  obtain ⟨w1, w2⟩ := word_lost hw
  by_cases c : t (i : Int) ≤ t ((i : Int) + 1)
  · have := h.a1 i (by omega) (by omega) c
    unfold Rr at this
    rw [Int.toNat_natCast] at this
    exact w1 this
  · have := h.a2 i (by omega) (by omega) (by omega)
    unfold Ll at this
    rw [Int.toNat_natCast] at this
    exact w2 this
theorem noforget {n : Nat} {ws us : List Int} (n0 : 1 ≤ n) (n1 : n ≤ 200) (hd : ws.Nodup) (hi : In n ws) (hu : ∀ u ∈ us, u ∈ ws) : lostOf (run (run (whR n, whL n) (gos ws)) (comes us)).1 (run (run (whR n, whL n) (gos ws)) (comes us)).2 = [] := by
  obtain ⟨h1, _, _⟩ := nf_gos n0 n1 hd hi ws.length (Nat.le_refl _)
  rw [show (gos ws).take ws.length = gos ws from by rw [← gos_len ws, List.take_length]] at h1
  obtain ⟨v1, l1⟩ := run_vs (n := n) (h := gos ws) (wh_vs n0 (by omega)) (by rw [whR_len]; omega) (okgos hi)
  have hi2 : In n us := fun u h => hi u (hu u h)
  rw [whR_len] at l1
  obtain ⟨v2, l2⟩ := run_vs (n := n) (h := comes us) v1 (by rw [l1]; omega) (okcomes hi2)
  exact nf_lost (t := ws.idxOf) (by rw [l2, l1]; omega) (nf_comes (rs := (run (whR n, whL n) (gos ws)).1) (ls := (run (whR n, whL n) (gos ws)).2) v1 (by rw [l1]; omega) hi2 hu h1)


section
variable {rs ls : List Int} {C : Store} {QD : D → Store → Prop} {x : D}
theorem needdancers_ok {n : Nat} (h1 : 1 ≤ n) (h2 : n ≤ 200) (q : QD .non C) : W (m_need_dancers [.int n] C) QD := by
  unfold m_need_dancers
  repeat' walk_at "ev"
  refine between_ok ?_
  rw [show decide ((1 : Int) ≤ (n : Int) ∧ (n : Int) ≤ 200) = true from decide_eq_true ⟨by omega, by omega⟩]
  repeat' walk_at "ev"
  exact fin_same rfl rfl q
theorem whole_ok {n : Nat} (h1 : 1 ≤ n) (h2 : n ≤ 200) (q : QD (.tup [.cell C.length, .cell (C.length + 1)]) (C ++ [iL (whR n), iL (whL n)])) : W (m_whole [.int n] C) QD := by
  unfold m_whole
  repeat' walk_at "ev"
  refine needdancers_ok h1 h2 ?_
  repeat' walk_at "ev"
  refine w_rg (by simp [lowI]; omega) ?_
  rw [rg_whR]
  repeat' walk_at "ev"
  refine w_rg (by simp [lowI]; omega) ?_
  rw [rg_whL]
  refine w_newC ?_
  rw [List.append_assoc, List.length_append]
  repeat' walk_at "ev"
  exact fin_two0 (j := 0) (k := 1) rfl rfl (by decide) (closed_iL _ _) (closed_iL _ _) q
theorem wholeF_ok {k : Nat} {n : Nat} {sl : Sl} {m : ME} (h1 : 1 ≤ n) (h2 : n ≤ 200) (hm : W (m sl C) fun x C' => x = .int n ∧ C' = C) (q : QD (sD (whR n) (whL n)) C) : W (mFz (k + 2) (mF 1 m_whole (aCons m aNil)) sl C) QD := by
  refine w_fzS ?_
  refine w_F ?_
  refine w_aCons (hm.imp fun x C' hm => ?_)
  obtain ⟨rfl, rfl⟩ := hm
  repeat' walk_at "ev"
  exact whole_ok h1 h2 ⟨_, _, rfl, rfl, closedDs_ints _ _, closedDs_ints _ _, q⟩
end


/-- are all borders held -/
def heldB (rs ls : List Int) : Bool := ((List.range rs.length).map fun i => decide (wAt rs ls i = "held")).all id
theorem word_held {r l b : Int} : wordP r l b = "held" ↔ r = b + 1 ∧ l = b := by
  unfold wordP
  have h1 : ¬ (("left" : Str) = "held") := by decide +kernel
  have h2 : ¬ (("right" : Str) = "held") := by decide +kernel
  have h3 : ¬ (("forgotten" : Str) = "held") := by decide +kernel
  split <;> split <;> simp_all
theorem held_t {rs ls : List Int} (h : ∀ i, i < rs.length → rs.getD i 0 = (i : Int) + 1 ∧ ls.getD i 0 = i) : heldB rs ls = true := by
  unfold heldB
  refine map_all fun i hi => decide_eq_true ?_
  exact word_held.mpr (h i (List.mem_range.mp hi))
theorem held_wh (n : Nat) : heldB (whR n) (whL n) = true := held_t fun i hi => by
  rw [whR_len] at hi
  exact ⟨by rw [List.getD_eq_getElem?_getD, whR_get hi]; show 1 + (i : Int) = _; omega, by rw [List.getD_eq_getElem?_getD, whL_get hi]; rfl⟩
section
variable {rs ls : List Int} {C : Store} {QD : D → Store → Prop} {x : D}
end


section
variable {C G X : Store} {k m n : Nat} {S : Cell} {QD : D → Store → Prop} {rs ls : List Int} {x : D} {e : Dd}
def upto (n : Nat) : List Int := (List.range n).map fun i : Nat => 1 + (i : Int)
theorem upto_len (n : Nat) : (upto n).length = n := by simp [upto]
end


section
variable {C : Store} {QD : D → Store → Prop} {x : D} {n : Int} {ws : List Int}
end


section
variable {C : Store} {QD : D → Store → Prop} {x y : D} {n : Nat} {ws us : List Int}
end


section
variable {rs ls : List Int} {C : Store} {QD : D → Store → Prop} {x : D} {n : Int}
/-! the gaps that are not held, and who owns them -/
def ownIx (rs ls : List Int) : List Nat := (List.range rs.length).filter fun i => !decide (wAt rs ls i = "held")
def ownF (rs ls : List Int) (i : Nat) : Int := (i : Int) + (if (!decide (wAt rs ls i = "left")) = true then 1 else 0)
def fewN (rs ls : List Int) : Nat := (((ownIx rs ls).map (ownF rs ls)).foldl addI []).length
theorem ownIx_len : (ownIx rs ls).length ≤ rs.length := Nat.le_trans (List.length_filter_le _ _) (by simp)
theorem anyLost : ((wordsOf rs ls).any fun y => y == "forgotten") = !decide (lostOf rs ls = []) := by
  by_cases c : lostOf rs ls = []
  · rw [c, decide_eq_true rfl, Bool.not_true, List.any_eq_false]
    intro w hw h
    unfold wordsOf at hw
    obtain ⟨i, hi, rfl⟩ := List.mem_map.mp hw
    have hm : (i : Int) ∈ lostOf rs ls := List.mem_map.mpr ⟨i, List.mem_filter.mpr ⟨hi, by simpa using h⟩, rfl⟩
    rw [c] at hm
    cases hm
  · rw [decide_eq_false c, Bool.not_false, List.any_eq_true]
    obtain ⟨b, hb⟩ := List.exists_mem_of_ne_nil _ c
    unfold lostOf at hb
    obtain ⟨i, hi, rfl⟩ := List.mem_map.mp hb
    obtain ⟨h1, h2⟩ := List.mem_filter.mp hi
    exact ⟨wAt rs ls i, List.mem_map.mpr ⟨i, h1, rfl⟩, by simpa using h2⟩
theorem closedDs_own (n : Nat) : ∀ l : List Nat, closedDs n (l.map fun i : Nat => .tup [.int i, .int (ownF rs ls i)]) = true
  | [] => rfl
  | a :: l => by
    show (true && closedDs n (l.map fun i : Nat => .tup [.int i, .int (ownF rs ls i)])) = true
    rw [closedDs_own n l]
    rfl
theorem owners_ok (v : Vs rs ls) (q : QD (.cell C.length) (C ++ [.lst ((ownIx rs ls).map fun i : Nat => .tup [.int i, .int (ownF rs ls i)])])) : W (m_owners_in [.lst ((wordsOf rs ls).map D.str)] C) QD := by
  have t := v.top
  have hw : (wordsOf rs ls).length = rs.length := words_len
  unfold m_owners_in
  repeat' walk_at "ev"
  refine w_lcIx (p := fun i => !decide (wAt rs ls i = "held")) (f := fun i : Nat => .tup [.int i, .int (ownF rs ls i)]) (fun i d hd => ?_) ?_
  · obtain ⟨a, rfl, ha⟩ := enumGet hd
    have hi : i < rs.length := by have := (List.getElem?_eq_some_iff.mp ha).1; simpa [words_len] using this
    rw [List.getElem?_map, words_get hi] at ha
    cases ha
    repeat' walk_at "ev"
    refine ⟨rfl, rfl, fun _ => ?_⟩
    repeat' walk_at "ev"
    exact ⟨rfl, rfl⟩
  · rw [show (enumD 0 ((wordsOf rs ls).map D.str), ([] : Gd)).1.length = rs.length from by simp [enumD_length, words_len]]
    repeat' walk_at "ev"
    exact W.of (fin_cell0 (closedDs_own _ _)) q
theorem fewest_ok (v : Vs rs ls) (hx : IsSt C x rs ls) (q : QD (if lostOf rs ls = [] then .int (fewN rs ls) else .non) C) : W (m_fewest [x] C) QD := by
  have t := v.top
  have t2 := ownIx_len (rs := rs) (ls := ls)
  unfold m_fewest
  repeat' walk_at "ev"
  refine wordsF_ok v (w_var rfl ⟨rfl, hx⟩) ?_
  repeat' walk_at "ev"
  refine w_inS ?_
  rw [if_neg Bool.false_ne_true, anyLost]
  repeat' walk_at "ev"
  by_cases c : lostOf rs ls = []
  · rw [if_pos c] at q
    refine ite_f (by rw [decide_eq_true c]; decide) ?_
    repeat' walk_at "ev"
    refine w_mSc ?_
    repeat' walk_at "ev"
    refine w_fzL ?_
    repeat' walk_at "ev"
    refine owners_ok v ⟨_, rfl, rfl, closedDs_own _ _, ?_⟩
    repeat' walk_at "ev"
    refine w_scA (φ := fun i : Nat => .tup [.int i, .int (ownF rs ls i)]) (p := fun _ => true) (f := ownF rs ls) (okG_nil _) (by omega) (fun i a ha => ?_) ?_
    · repeat' walk_at "ev"
      refine ⟨rfl, rfl, fun _ => ?_⟩
      repeat' walk_at "ev"
      exact ⟨rfl, rfl⟩
    rw [show (ownIx rs ls).filter (fun _ => true) = ownIx rs ls from List.filter_eq_self.mpr fun _ _ => rfl]
    refine w_lenSc ?_
    repeat' walk_at "ev"
    exact fin_same rfl rfl q
  · rw [if_neg c] at q
    refine ite_t (by rw [decide_eq_false c]; rfl) ?_
    repeat' walk_at "ev"
    exact fin_same rfl rfl q
end


section
variable {rs ls : List Int} {C : Store} {QD : D → Store → Prop} {x : D} {n : Int}
theorem not_held {i : Nat} {r l : Int} (er : rs.getD i 0 = r) (el : ls.getD i 0 = l) : (!decide (wAt rs ls i = "held")) = (!decide (r = (i : Int) + 1) || !decide (l = (i : Int))) := by
  unfold wAt wordP
  rw [er, el]
  have z1 : ¬ (("left" : Str) = "held") := by decide +kernel
  have z2 : ¬ (("right" : Str) = "held") := by decide +kernel
  have z3 : ¬ (("forgotten" : Str) = "held") := by decide +kernel
  by_cases c1 : r = (i : Int) + 1 <;> by_cases c2 : l = (i : Int) <;> simp [c1, c2, z1, z2, z3]
theorem not_left {i : Nat} {r l : Int} (er : rs.getD i 0 = r) (el : ls.getD i 0 = l) (h : (!decide (wAt rs ls i = "held")) = true) : ownF rs ls i = (i : Int) + (if (!decide (r = (i : Int) + 1)) = true then 1 else 0) := by
  rw [not_held er el] at h
  unfold ownF wAt wordP
  rw [er, el]
  have z1 : ¬ (("held" : Str) = "left") := by decide +kernel
  have z2 : ¬ (("right" : Str) = "left") := by decide +kernel
  have z3 : ¬ (("forgotten" : Str) = "left") := by decide +kernel
  by_cases c1 : r = (i : Int) + 1 <;> by_cases c2 : l = (i : Int) <;> simp [c1, c2, z1, z2, z3] at h ⊢
end


/-! what a deed does to the owners of the gaps -/
theorem nd_le : ∀ {xs ys : List Int}, xs.Nodup → (∀ x ∈ xs, x ∈ ys) → xs.length ≤ ys.length
  | [], _, _, _ => Nat.zero_le _
  | x :: xs, ys, h, hs => by
    have hx := hs x List.mem_cons_self
    have hd := List.nodup_cons.mp h
    have ih := nd_le (xs := xs) (ys := ys.erase x) hd.2 fun z hz => (List.mem_erase_of_ne (fun (e : z = x) => hd.1 (by rw [← e]; exact hz))).mpr (hs z (List.mem_cons_of_mem _ hz))
    rw [List.length_erase_of_mem hx] at ih
    have : 0 < ys.length := List.length_pos_of_mem hx
    rw [List.length_cons]
    omega
theorem addI_mem {acc : List Int} {k x : Int} : x ∈ addI acc k ↔ x ∈ acc ∨ x = k := by
  unfold addI
  split
  · rename_i h
    obtain ⟨y, hy, e⟩ := List.any_eq_true.mp h
    have e : y = k := by simpa using e
    subst e
    exact ⟨.inl, fun h => h.elim id fun e => e ▸ hy⟩
  · simp
theorem addI_nd {acc : List Int} {k : Int} (h : acc.Nodup) : (addI acc k).Nodup := by
  unfold addI
  split
  · exact h
  · rename_i hk
    refine List.nodup_append.mpr ⟨h, by simp, fun a ha b hb => ?_⟩
    cases List.mem_singleton.mp hb
    intro e
    subst e
    exact hk (List.any_eq_true.mpr ⟨_, ha, by simp⟩)
theorem fold_mem {x : Int} : ∀ (l acc : List Int), x ∈ l.foldl addI acc ↔ x ∈ acc ∨ x ∈ l
  | [], acc => by simp
  | k :: l, acc => by
    rw [List.foldl_cons, fold_mem l (addI acc k), addI_mem, List.mem_cons, or_assoc]
theorem fold_nd : ∀ (l : List Int) {acc : List Int}, acc.Nodup → (l.foldl addI acc).Nodup
  | [], _, h => h
  | k :: l, _, h => fold_nd l (addI_nd h)
/-- different things of a list -/
def dif (l : List Int) : List Int := l.foldl addI []
theorem dif_mem {l : List Int} {x : Int} : x ∈ dif l ↔ x ∈ l := by
  unfold dif
  rw [fold_mem]
  simp
theorem dif_nd (l : List Int) : (dif l).Nodup := fold_nd l List.nodup_nil
section
variable {rs ls : List Int} {n w : Int}
def owns (rs ls : List Int) : List Int := (ownIx rs ls).map (ownF rs ls)
theorem few_dif : fewN rs ls = (dif (owns rs ls)).length := rfl
theorem own_mem (v : Vs rs ls) {x : Int} : x ∈ owns rs ls ↔ ∃ b : Int, 0 ≤ b ∧ b < rs.length ∧ ((Rr (rs, ls) b ≠ b + 1 ∧ x = b + 1) ∨ (Rr (rs, ls) b = b + 1 ∧ Ll (rs, ls) b ≠ b ∧ x = b)) := by
  have key : ∀ i : Nat, ((!decide (wAt rs ls i = "held")) = true ↔ (Rr (rs, ls) i ≠ (i : Int) + 1 ∨ Ll (rs, ls) i ≠ i)) := fun i => by
    rw [not_held (r := Rr (rs, ls) i) (l := Ll (rs, ls) i) (by unfold Rr; rw [Int.toNat_natCast]) (by unfold Ll; rw [Int.toNat_natCast])]
    simp
  have key2 : ∀ i : Nat, (!decide (wAt rs ls i = "held")) = true → ownF rs ls i = (i : Int) + (if (!decide (Rr (rs, ls) i = (i : Int) + 1)) = true then 1 else 0) := fun i h =>
    not_left (r := Rr (rs, ls) i) (l := Ll (rs, ls) i) (by unfold Rr; rw [Int.toNat_natCast]) (by unfold Ll; rw [Int.toNat_natCast]) h
  unfold owns ownIx
  constructor
  · intro h
    obtain ⟨i, hi, rfl⟩ := List.mem_map.mp h
    obtain ⟨h1, h2⟩ := List.mem_filter.mp hi
    have h1 := List.mem_range.mp h1
    refine ⟨i, by omega, by omega, ?_⟩
    rw [key2 i h2]
    have h3 := (key i).mp h2
    by_cases c : Rr (rs, ls) i = (i : Int) + 1
    · exact .inr ⟨c, h3.resolve_left (fun k => k c), by simp [c]⟩
    · exact .inl ⟨c, by simp [c]⟩
  · rintro ⟨b, b0, b1, h⟩
    obtain ⟨i, rfl⟩ : ∃ i : Nat, b = i := ⟨b.toNat, by omega⟩
    have h2 : (!decide (wAt rs ls i = "held")) = true := (key i).mpr (h.elim (fun k => .inl k.1) fun k => .inr k.2.1)
    refine List.mem_map.mpr ⟨i, List.mem_filter.mpr ⟨List.mem_range.mpr (by omega), h2⟩, ?_⟩
    rw [key2 i h2]
    rcases h with ⟨c, rfl⟩ | ⟨c, _, rfl⟩ <;> simp [c]
theorem lost_iff (v : Vs rs ls) : lostOf rs ls = [] ↔ ∀ b : Int, 0 ≤ b → b < rs.length → Rr (rs, ls) b = b + 1 ∨ Ll (rs, ls) b = b := by
  constructor
  · intro h b b0 b1
    obtain ⟨i, rfl⟩ : ∃ i : Nat, b = i := ⟨b.toNat, by omega⟩
    by_cases c1 : Rr (rs, ls) i = (i : Int) + 1
    · exact .inl c1
    · by_cases c2 : Ll (rs, ls) i = (i : Int)
      · exact .inr c2
      · exfalso
        have hw : wAt rs ls i = "forgotten" := by
          unfold wAt wordP
          unfold Rr at c1
          unfold Ll at c2
          rw [Int.toNat_natCast] at c1 c2
          have c1 : ¬ rs.getD i 0 = (i : Int) + 1 := c1
          have c2 : ¬ ls.getD i 0 = (i : Int) := c2
          rw [if_neg c1, if_neg c2]
        have : (i : Int) ∈ lostOf rs ls := List.mem_map.mpr ⟨i, List.mem_filter.mpr ⟨List.mem_range.mpr (by omega), by simpa using hw⟩, rfl⟩
        rw [h] at this
        cases this
  · intro h
    refine List.eq_nil_iff_forall_not_mem.mpr fun b hb => ?_
    obtain ⟨i, rfl, hi, hw⟩ := lost_mem hb
    obtain ⟨w1, w2⟩ := word_lost hw
    have := h i (by omega) (by omega)
    unfold Rr Ll at this
    rw [Int.toNat_natCast] at this
    exact this.elim w1 w2
end


section
variable {rs ls : List Int} {n w : Int}
structure Eff (rs ls : List Int) (w z y : Int) (p : List Int × List Int) : Prop where
  r : ∀ b, 0 ≤ b → Rr p b = if b = Ll (rs, ls) (w - 1) then z else Rr (rs, ls) b
  l : ∀ b, 0 ≤ b → Ll p b = if b = Rr (rs, ls) w - 1 then y else Ll (rs, ls) b
  len : p.1.length = rs.length
theorem eff_come (v : Vs rs ls) (hn : n = rs.length - 1) (hw : 1 ≤ w ∧ w ≤ n) : Eff rs ls w w w (step (rs, ls) ("come", w)) := by
  obtain ⟨q1, q2, _, _⟩ := rl_bd v hn (b := w) (by omega) (by omega)
  obtain ⟨_, _, q3, q4⟩ := rl_bd v hn (b := w - 1) (by omega) (by omega)
  have vl := v.len
  have er : doR (rs, ls) ("come", w) = Rr (rs, ls) w := rfl
  have el : doL (rs, ls) ("come", w) = Ll (rs, ls) (w - 1) := rfl
  have hl := (step_vs v hn (okcome hw)).2
  refine ⟨fun b b0 => ?_, fun b b0 => ?_, hl⟩
  · rw [step_come, er, el]
    show Rr (rs.set (Ll (rs, ls) (w - 1)).toNat (w), ls.set (Rr (rs, ls) w - 1).toNat (w)) b = _
    exact Rr_set (i := Ll (rs, ls) (w - 1)) (by omega) (by omega) b0
  · rw [step_come, er, el]
    show Ll (rs.set (Ll (rs, ls) (w - 1)).toNat (w), ls.set (Rr (rs, ls) w - 1).toNat (w)) b = _
    exact Ll_set (i := Rr (rs, ls) w - 1) (by omega) (by omega) b0
/-- a coming loses at most the one that comes -/
theorem own_come (v : Vs rs ls) (hn : n = rs.length - 1) (hw : 1 ≤ w ∧ w ≤ n) (h : lostOf (step (rs, ls) ("come", w)).1 (step (rs, ls) ("come", w)).2 = []) : ∀ x ∈ owns rs ls, x = w ∨ x ∈ owns (step (rs, ls) ("come", w)).1 (step (rs, ls) ("come", w)).2 := fun x hx => by
  obtain ⟨b, b0, b1, hb⟩ := (own_mem v).mp hx
  have e := eff_come v hn hw
  obtain ⟨v', l'⟩ := step_vs v hn (okcome hw)
  have hL := (lost_iff v').mp h b b0 (by rw [l']; exact b1)
  by_cases cw : x = w
  · exact .inl cw
  right
  refine (own_mem v').mpr ⟨b, b0, by rw [l']; exact b1, ?_⟩
  have eR : Rr ((step (rs, ls) ("come", w)).1, (step (rs, ls) ("come", w)).2) b = if b = Ll (rs, ls) (w - 1) then w else Rr (rs, ls) b := e.r b b0
  have eL : Ll ((step (rs, ls) ("come", w)).1, (step (rs, ls) ("come", w)).2) b = if b = Rr (rs, ls) w - 1 then w else Ll (rs, ls) b := e.l b b0
  rw [eR, eL] at hL ⊢
  obtain ⟨q1, q2, _, _⟩ := rl_bd v hn (b := w) (by omega) (by omega)
  obtain ⟨_, _, q3, q4⟩ := rl_bd v hn (b := w - 1) (by omega) (by omega)
  have hc : b = w - 1 → Ll (rs, ls) b = Ll (rs, ls) (w - 1) := fun e => by rw [e]
  generalize Rr (rs, ls) w = r at *
  generalize Ll (rs, ls) (w - 1) = l at *
  generalize Ll (rs, ls) b = lb at *
  generalize Rr (rs, ls) b = rb at *
  have f1 : (b = l ∧ (if b = l then w else rb) = w) ∨ (b ≠ l ∧ (if b = l then w else rb) = rb) := by
    by_cases c : b = l
    · exact .inl ⟨c, if_pos c⟩
    · exact .inr ⟨c, if_neg c⟩
  have f2 : (b = r - 1 ∧ (if b = r - 1 then w else lb) = w) ∨ (b ≠ r - 1 ∧ (if b = r - 1 then w else lb) = lb) := by
    by_cases c : b = r - 1
    · exact .inl ⟨c, if_pos c⟩
    · exact .inr ⟨c, if_neg c⟩
  generalize (if b = l then w else rb) = R' at *
  generalize (if b = r - 1 then w else lb) = L' at *
  clear eR eL
  omega
end


section
variable {rs ls : List Int} {n w : Int}
/-- where a coming holds all that its dancer owned and touches nothing else -/
theorem come_one (v : Vs rs ls) (hn : n = rs.length - 1) (hw : 1 ≤ w ∧ w ≤ n) (h : lostOf rs ls = []) (ho : w ∈ owns rs ls) (c : (Ll (rs, ls) (w - 1) = w - 1 ∧ Rr (rs, ls) w = w + 1)) :
    lostOf (step (rs, ls) ("come", w)).1 (step (rs, ls) ("come", w)).2 = [] ∧ (∀ x ∈ owns (step (rs, ls) ("come", w)).1 (step (rs, ls) ("come", w)).2, x ≠ w ∧ x ∈ owns rs ls) := by
  have e := eff_come v hn hw
  obtain ⟨v', l'⟩ := step_vs v hn (okcome hw)
  have eR : ∀ b, 0 ≤ b → Rr ((step (rs, ls) ("come", w)).1, (step (rs, ls) ("come", w)).2) b = if b = w - 1 then w else Rr (rs, ls) b := fun b b0 => by
    have := e.r b b0
    rwa [c.1] at this
  have eL : ∀ b, 0 ≤ b → Ll ((step (rs, ls) ("come", w)).1, (step (rs, ls) ("come", w)).2) b = if b = w then w else Ll (rs, ls) b := fun b b0 => by
    have := e.l b b0
    rwa [c.2, show w + 1 - 1 = w from by omega] at this
  constructor
  · refine (lost_iff v').mpr fun b b0 b1 => ?_
    have := (lost_iff v).mp h b b0 (by rw [l'] at b1; exact b1)
    rw [eR b b0, eL b b0]
    by_cases c1 : b = w - 1
    · rw [if_pos c1]
      left
      omega
    · rw [if_neg c1]
      by_cases c2 : b = w
      · rw [if_pos c2]
        right
        omega
      · rw [if_neg c2]
        exact this
  · intro x hx
    obtain ⟨b, b0, b1, hb⟩ := (own_mem v').mp hx
    rw [eR b b0, eL b b0] at hb
    rw [l'] at b1
    by_cases c1 : b = w - 1
    · rw [if_pos c1] at hb
      rw [if_neg (by omega : ¬ b = w)] at hb
      have : Ll (rs, ls) b = b := by rw [c1]; exact c.1
      omega
    · rw [if_neg c1] at hb
      by_cases c2 : b = w
      · rw [if_pos c2] at hb
        have : Rr (rs, ls) b = b + 1 := by rw [c2]; exact c.2
        omega
      · rw [if_neg c2] at hb
        refine ⟨by omega, (own_mem v).mpr ⟨b, b0, b1, hb⟩⟩
end


section
variable {rs ls : List Int} {n : Int}
end


/-! goings of all: who needn't come, and the first-gone row -/
def late (ws : List Int) (x : Int) : Bool := decide (ws.idxOf (x - 1) < ws.idxOf x ∧ ws.idxOf (x + 1) < ws.idxOf x)
def firsts (ws : List Int) : List Int := ws.filter fun x => !late ws x
structure All (n : Nat) (ws : List Int) : Prop where
  nd : ws.Nodup
  inn : In n ws
  len : ws.length = n
theorem All.mem {n : Nat} {ws : List Int} (h : All n ws) {x : Int} (h0 : 1 ≤ x) (h1 : x ≤ n) : x ∈ ws := by
  have e := nd_le (xs := (x :: ws)) (ys := upto n)
  by_cases c : x ∈ ws
  · exact c
  · have := e (List.nodup_cons.mpr ⟨c, h.nd⟩) fun z hz => by
      have hz2 : 1 ≤ z ∧ z ≤ (n : Int) := by
        rcases List.mem_cons.mp hz with rfl | hz
        · exact ⟨h0, h1⟩
        · exact h.inn z hz
      unfold upto
      exact List.mem_map.mpr ⟨(z - 1).toNat, List.mem_range.mpr (by omega), by omega⟩
    rw [List.length_cons, upto_len, h.len] at this
    omega
theorem idx_lt {ws : List Int} {x : Int} (h : x ∈ ws) : ws.idxOf x < ws.length := List.idxOf_lt_length_of_mem h
theorem idx_out {ws : List Int} {x : Int} (h : x ∉ ws) : ws.idxOf x = ws.length := List.idxOf_eq_length h
theorem All.out0 {n : Nat} {ws : List Int} (h : All n ws) {x : Int} (hx : x < 1 ∨ (n : Int) < x) : ws.idxOf x = n := by
  rw [idx_out fun k => by have := h.inn x k; omega, h.len]
theorem All.lt {n : Nat} {ws : List Int} (h : All n ws) {x : Int} (h0 : 1 ≤ x) (h1 : x ≤ n) : ws.idxOf x < n := by
  have := idx_lt (h.mem h0 h1)
  rwa [h.len] at this
/-- behind some of the comings -/
structure Jn (ws : List Int) (n : Int) (k : Nat) (p : List Int × List Int) : Prop where
  held : ∀ b, 0 ≤ b → b ≤ n → (ws.idxOf b < k ∨ ws.idxOf (b + 1) < k) → Rr p b = b + 1 ∧ Ll p b = b
  low : ∀ b, 0 ≤ b → b ≤ n → k ≤ ws.idxOf b → k ≤ ws.idxOf (b + 1) → ws.idxOf b < ws.idxOf (b + 1) → Rr p b = b + 1
  high : ∀ b, 0 ≤ b → b ≤ n → k ≤ ws.idxOf b → k ≤ ws.idxOf (b + 1) → ws.idxOf (b + 1) < ws.idxOf b → Ll p b = b
theorem jn_zero {n : Nat} {ws : List Int} (n0 : 1 ≤ n) (n1 : n ≤ 200) (ha : All n ws) : Jn ws n 0 (run (whR n, whL n) (gos ws)) ∧
    (∀ b, 0 ≤ b → b ≤ (n : Int) → ws.idxOf b < ws.idxOf (b + 1) → Ll (run (whR n, whL n) (gos ws)) b ≠ b) ∧ ∀ b, 0 ≤ b → b ≤ (n : Int) → ws.idxOf (b + 1) < ws.idxOf b → Rr (run (whR n, whL n) (gos ws)) b ≠ b + 1 := by
  obtain ⟨h1, h2, h3⟩ := nf_gos n0 n1 ha.nd ha.inn ws.length (Nat.le_refl _)
  rw [show (gos ws).take ws.length = gos ws from by rw [← gos_len ws, List.take_length]] at h1 h2 h3
  have top : ∀ x, ws.idxOf x ≤ ws.length := fun x => List.idxOf_le_length
  refine ⟨⟨fun b b0 b1 hb => by omega, fun b b0 b1 _ _ h => h1.a1 b b0 b1 (by omega), fun b b0 b1 _ _ h => h1.a2 b b0 b1 h⟩, fun b b0 b1 h => h2 b b0 b1 ?_ h, fun b b0 b1 h => h3 b b0 b1 ?_ h⟩
  · have := top (b + 1)
    omega
  · have := top b
    omega
theorem owns_gone {n : Nat} {ws : List Int} (n0 : 1 ≤ n) (n1 : n ≤ 200) (ha : All n ws) (x : Int) : x ∈ owns (run (whR n, whL n) (gos ws)).1 (run (whR n, whL n) (gos ws)).2 ↔ x ∈ firsts ws := by
  obtain ⟨v1, l1⟩ := run_vs (n := n) (h := gos ws) (wh_vs n0 (by omega)) (by rw [whR_len]; omega) (okgos ha.inn)
  obtain ⟨j, j2, j3⟩ := jn_zero n0 n1 ha
  rw [whR_len] at l1
  generalize run (whR n, whL n) (gos ws) = p at v1 l1 j j2 j3 ⊢
  obtain ⟨rs, ls⟩ := p
  have l1 : rs.length = n + 1 := l1
  have neq : ∀ b : Int, 0 ≤ b → b ≤ n → ws.idxOf b ≠ ws.idxOf (b + 1) := fun b b0 b1 => by
    by_cases c : 1 ≤ b
    · exact fun z => idx_ne (ha.mem c b1) (b + 1) (by omega) z.symm
    · exact idx_ne (ha.mem (x := b + 1) (by omega) (by omega)) b (by omega)
  rw [own_mem v1]
  unfold firsts
  rw [List.mem_filter]
  constructor
  · rintro ⟨b, b0, b1, h⟩
    have hne := neq b b0 (by omega)
    rcases h with ⟨h1, rfl⟩ | ⟨h1, h2, rfl⟩
    · have : ws.idxOf (b + 1) < ws.idxOf b := by
        by_cases c : ws.idxOf b < ws.idxOf (b + 1)
        · exact absurd (j.low b b0 (by omega) (by omega) (by omega) c) h1
        · omega
      have hb : b + 1 ≤ n := by
        by_cases c : b + 1 ≤ n
        · exact c
        · have := ha.out0 (x := b + 1) (.inr (by omega))
          have := List.idxOf_le_length (l := ws) (a := b)
          rw [ha.len] at this
          omega
      refine ⟨ha.mem (by omega) hb, ?_⟩
      unfold late
      rw [decide_eq_false (by rw [show b + 1 - 1 = b from by omega]; omega)]
      rfl
    · have : ws.idxOf x < ws.idxOf (x + 1) := by
        by_cases c : ws.idxOf (x + 1) < ws.idxOf x
        · exact absurd (j.high x b0 (by omega) (by omega) (by omega) c) h2
        · omega
      have hb : 1 ≤ x := by
        by_cases c : 1 ≤ x
        · exact c
        · have := ha.out0 (x := x) (.inl (by omega))
          have := List.idxOf_le_length (l := ws) (a := x + 1)
          rw [ha.len] at this
          omega
      refine ⟨ha.mem hb (by omega), ?_⟩
      unfold late
      rw [decide_eq_false (by omega)]
      rfl
  · rintro ⟨hm, hl⟩
    have hx := ha.inn x hm
    have hl : late ws x = false := by simpa using hl
    have hl := of_decide_eq_false hl
    have n1 := neq x (by omega) (by omega)
    have n2 := neq (x - 1) (by omega) (by omega)
    rw [show x - 1 + 1 = x from by omega] at n2
    by_cases c : ws.idxOf x < ws.idxOf (x + 1)
    · exact ⟨x, by omega, by omega, .inr ⟨j.low x (by omega) (by omega) (by omega) (by omega) c, j2 x (by omega) (by omega) c, rfl⟩⟩
    · have c2 : ws.idxOf (x - 1 + 1) < ws.idxOf (x - 1) := by rw [show x - 1 + 1 = x from by omega]; omega
      exact ⟨x - 1, by omega, by omega, .inl ⟨j3 (x - 1) (by omega) (by omega) c2, by omega⟩⟩
theorem few_gone {n : Nat} {ws : List Int} (n0 : 1 ≤ n) (n1 : n ≤ 200) (ha : All n ws) : fewN (run (whR n, whL n) (gos ws)).1 (run (whR n, whL n) (gos ws)).2 = (firsts ws).length := by
  rw [few_dif]
  have nd : (firsts ws).Nodup := ha.nd.filter _
  refine Nat.le_antisymm (nd_le (dif_nd _) fun x hx => (owns_gone n0 n1 ha x).mp (dif_mem.mp hx)) (nd_le nd fun x hx => dif_mem.mpr ((owns_gone n0 n1 ha x).mpr hx))
theorem lost_gone {n : Nat} {ws : List Int} (n0 : 1 ≤ n) (n1 : n ≤ 200) (ha : All n ws) : lostOf (run (whR n, whL n) (gos ws)).1 (run (whR n, whL n) (gos ws)).2 = [] :=
  noforget (us := []) n0 n1 ha.nd ha.inn fun _ h => nomatch h

section
/-- a dict told by things of unlike keys -/
theorem val_foldN {A : Type} {kf : A → Key} {vf : A → D} {k : Key} : ∀ (l : List A) (kvs : List (Key × D)), (∀ a ∈ l, kf a ≠ k) → valD (l.foldl (fun kvs a => putD kvs (kf a) (vf a)) kvs) k = valD kvs k
  | [], _, _ => rfl
  | a :: l, kvs, h => by
    rw [List.foldl_cons, val_foldN l _ fun b hb => h b (List.mem_cons_of_mem _ hb), valD_put, if_neg fun z => h a List.mem_cons_self z.symm]
theorem val_fold {A : Type} {kf : A → Key} {vf : A → D} {b : A} : ∀ (l : List A) (kvs : List (Key × D)), (l.map kf).Nodup → b ∈ l → valD (l.foldl (fun kvs a => putD kvs (kf a) (vf a)) kvs) (kf b) = some (vf b)
  | [], _, _, h => nomatch h
  | a :: l, kvs, hd, h => by
    rw [List.map_cons, List.nodup_cons] at hd
    rw [List.foldl_cons]
    rcases List.mem_cons.mp h with rfl | h
    · rw [val_foldN l _ fun c hc z => hd.1 (List.mem_map.mpr ⟨c, hc, z⟩), valD_put, if_pos rfl]
    · exact val_fold l _ hd.2 h
def wentOf (ws : List Int) : List (Key × D) := (List.range ws.length).foldl (fun kvs i => putD kvs (Sum.inl (ws.getD i 0)) (.int i)) []
theorem went_get {ws : List Int} {x : Int} (hd : ws.Nodup) (h : x ∈ ws) : valD (wentOf ws) (Sum.inl x) = some (.int (ws.idxOf x : Nat)) := by
  have hl := idx_lt h
  have hx : ws.getD (ws.idxOf x) 0 = x := by rw [List.getD_eq_getElem?_getD, List.getElem?_eq_getElem hl, List.getElem_idxOf]; rfl
  have := val_fold (kf := fun i : Nat => (Sum.inl (ws.getD i 0) : Key)) (vf := fun i : Nat => D.int i) (b := ws.idxOf x) (List.range ws.length) [] ?_ (List.mem_range.mpr hl)
  · simp only [hx] at this
    exact this
  · rw [List.Nodup, List.pairwise_map]
    refine (List.nodup_range (n := ws.length)).imp_of_mem fun {i j} hi hj hne z => hne ?_
    have hi := List.mem_range.mp hi
    have hj := List.mem_range.mp hj
    have z := Sum.inl.inj z
    rw [List.getD_eq_getElem?_getD, List.getD_eq_getElem?_getD, List.getElem?_eq_getElem hi, List.getElem?_eq_getElem hj] at z
    exact (List.getElem_inj hd).mp z
end
section
variable {C : Store} {QD : D → Store → Prop} {x y : D} {n : Nat} {ws us : List Int}
end


section
variable {rs ls : List Int} {n w : Int}
theorem owns_in (v : Vs rs ls) (hn : n = rs.length - 1) : ∀ x ∈ owns rs ls, 1 ≤ x ∧ x ≤ n := fun x hx => by
  obtain ⟨b, b0, b1, hb⟩ := (own_mem v).mp hx
  obtain ⟨q1, q2, q3, q4⟩ := rl_bd v hn (b := b) b0 (by omega)
  omega
/-- a sure one's coming takes it, and it alone, off the owners -/
theorem own_less (v : Vs rs ls) (hn : n = rs.length - 1) (hw : 1 ≤ w ∧ w ≤ n) (h : lostOf rs ls = []) (ho : w ∈ owns rs ls) (c : (Ll (rs, ls) (w - 1) = w - 1 ∧ Rr (rs, ls) w = w + 1)) :
    lostOf (step (rs, ls) ("come", w)).1 (step (rs, ls) ("come", w)).2 = [] ∧ ∀ x, x ∈ owns (step (rs, ls) ("come", w)).1 (step (rs, ls) ("come", w)).2 ↔ x ≠ w ∧ x ∈ owns rs ls := by
  obtain ⟨h1, h2⟩ := come_one v hn hw h ho c
  refine ⟨h1, fun x => ⟨h2 x, fun hx => ?_⟩⟩
  exact (own_come v hn hw h1 x hx.2).resolve_left hx.1
theorem uniq_few : (uniqI (owns rs ls)).length = fewN rs ls := by
  unfold uniqI fewN
  exact (sortI_perm _).length_eq
theorem uniq_nd {l : List Int} : (uniqI l).Nodup := (uniqI_lt _).imp fun h => by omega
/-- who knows both borders -/
def sureW (rs ls : List Int) (w : Int) : Bool := decide (rs.getD w.toNat 0 = w + 1) && decide (ls.getD (w - 1).toNat 0 = w - 1)
theorem sureW_iff : sureW rs ls w = true ↔ Ll (rs, ls) (w - 1) = w - 1 ∧ Rr (rs, ls) w = w + 1 := by
  unfold sureW
  rw [Bool.and_eq_true, decide_eq_true_iff, decide_eq_true_iff]
  exact ⟨fun h => ⟨h.2, h.1⟩, fun h => ⟨h.2, h.1⟩⟩
end
section
variable {rs ls : List Int} {C : Store} {QD : D → Store → Prop} {x y : D} {h : List Dd} {n : Int}
end


theorem lt_ext : ∀ {a b : List Int}, a.Pairwise (· < ·) → b.Pairwise (· < ·) → (∀ x, x ∈ a ↔ x ∈ b) → a = b
  | [], [], _, _, _ => rfl
  | [], y :: _, _, _, h => nomatch (h y).mpr List.mem_cons_self
  | x :: _, [], _, _, h => nomatch (h x).mp List.mem_cons_self
  | x :: a, y :: b, ha, hb, h => by
    have ha := List.pairwise_cons.mp ha
    have hb := List.pairwise_cons.mp hb
    have e : x = y := by
      rcases List.mem_cons.mp ((h x).mp List.mem_cons_self) with e | e
      · exact e
      · rcases List.mem_cons.mp ((h y).mpr List.mem_cons_self) with e2 | e2
        · exact e2.symm
        · have := hb.1 x e
          have := ha.1 y e2
          omega
    subst e
    rw [lt_ext ha.2 hb.2 fun z => ?_]
    constructor
    · intro hz
      rcases List.mem_cons.mp ((h z).mp (List.mem_cons_of_mem _ hz)) with e | e
      · have := ha.1 z hz
        omega
      · exact e
    · intro hz
      rcases List.mem_cons.mp ((h z).mpr (List.mem_cons_of_mem _ hz)) with e | e
      · have := hb.1 z hz
        omega
      · exact e
section
variable {rs ls : List Int} {n : Int}
theorem ownIx_mem {i : Nat} : i ∈ ownIx rs ls ↔ i < rs.length ∧ (Rr (rs, ls) i ≠ (i : Int) + 1 ∨ Ll (rs, ls) i ≠ i) := by
  unfold ownIx
  rw [List.mem_filter, List.mem_range, not_held (r := Rr (rs, ls) i) (l := Ll (rs, ls) i) (by unfold Rr; rw [Int.toNat_natCast]) (by unfold Ll; rw [Int.toNat_natCast])]
  simp
theorem own_l {i : Nat} (h : i ∈ ownIx rs ls) (c : Rr (rs, ls) i = (i : Int) + 1) : ownF rs ls i = i := by
  rw [not_left (r := Rr (rs, ls) i) (l := Ll (rs, ls) i) (by unfold Rr; rw [Int.toNat_natCast]) (by unfold Ll; rw [Int.toNat_natCast]) (List.mem_filter.mp h).2]
  simp [c]
theorem own_r {i : Nat} (h : i ∈ ownIx rs ls) (c : Rr (rs, ls) i ≠ (i : Int) + 1) : ownF rs ls i = (i : Int) + 1 := by
  rw [not_left (r := Rr (rs, ls) i) (l := Ll (rs, ls) i) (by unfold Rr; rw [Int.toNat_natCast]) (by unfold Ll; rw [Int.toNat_natCast]) (List.mem_filter.mp h).2]
  simp [c]
abbrev dP (p : Int × Int) : D := .tup [.int p.1, .int p.2]
/-- for whom an owner waits, by the border or by the hands -/
def wtF (rs ls : List Int) (i : Nat) : Int × Int := (ownF rs ls i, if (i : Int) = ownF rs ls i then ownF rs ls i - 1 else ownF rs ls i + 1)
def wtL (rs ls : List Int) : List (Int × Int) := ((ownIx rs ls).filter fun i => !sureW rs ls (ownF rs ls i)).map (wtF rs ls)
def duF (rs : List Int) (w : Int) : Int × Int := (w, if rs.getD w.toNat 0 = w + 1 then w - 1 else w + 1)
def duL (rs ls : List Int) : List (Int × Int) := ((uniqI (owns rs ls)).filter fun w => !sureW rs ls w).map (duF rs)
theorem wt_in {i : Nat} (h : i ∈ (ownIx rs ls).filter fun i => !sureW rs ls (ownF rs ls i)) : i ∈ ownIx rs ls ∧ ¬ (Ll (rs, ls) (ownF rs ls i - 1) = ownF rs ls i - 1 ∧ Rr (rs, ls) (ownF rs ls i) = ownF rs ls i + 1) := by
  obtain ⟨h1, h2⟩ := List.mem_filter.mp h
  refine ⟨h1, fun k => ?_⟩
  rw [sureW_iff.mpr k] at h2
  cases h2
theorem wt_lt (v : Vs rs ls) (hn : n = rs.length - 1) (hl : lostOf rs ls = []) : (((ownIx rs ls).filter fun i => !sureW rs ls (ownF rs ls i)).map (ownF rs ls)).Pairwise (· < ·) := by
  rw [List.pairwise_map]
  have hp : ((ownIx rs ls).filter fun i => !sureW rs ls (ownF rs ls i)).Pairwise (· < ·) := (List.pairwise_lt_range.filter _).filter _
  refine hp.imp_of_mem fun {i j} hi hj hij => ?_
  obtain ⟨i1, i2⟩ := wt_in hi
  obtain ⟨j1, j2⟩ := wt_in hj
  have iL := (ownIx_mem.mp i1).1
  have lo := (lost_iff v).mp hl i (by omega) (by omega)
  by_cases ci : Rr (rs, ls) i = (i : Int) + 1
  · rw [own_l i1 ci]
    by_cases cj : Rr (rs, ls) j = (j : Int) + 1
    · rw [own_l j1 cj]; omega
    · rw [own_r j1 cj]; omega
  · rw [own_r i1 ci] at i2 ⊢
    by_cases cj : Rr (rs, ls) j = (j : Int) + 1
    · rw [own_l j1 cj]
      by_cases e : j = i + 1
      · subst e
        exfalso
        refine i2 ⟨?_, ?_⟩
        · rw [show (i : Int) + 1 - 1 = i from by omega]
          exact lo.resolve_left ci
        · exact cj
      · omega
    · rw [own_r j1 cj]; omega
theorem due_wt (v : Vs rs ls) (hn : n = rs.length - 1) (hl : lostOf rs ls = []) : duL rs ls = wtL rs ls := by
  have e1 : ((uniqI (owns rs ls)).filter fun w => !sureW rs ls w) = (((ownIx rs ls).filter fun i => !sureW rs ls (ownF rs ls i)).map (ownF rs ls)) := by
    refine lt_ext ((uniqI_lt _).filter _) (wt_lt v hn hl) fun x => ?_
    rw [List.mem_filter, uniqI_mem]
    unfold owns
    rw [List.mem_map, List.mem_map]
    constructor
    · rintro ⟨⟨i, hi, rfl⟩, h2⟩
      exact ⟨i, List.mem_filter.mpr ⟨hi, h2⟩, rfl⟩
    · rintro ⟨i, hi, rfl⟩
      obtain ⟨h1, h2⟩ := List.mem_filter.mp hi
      exact ⟨⟨i, h1, rfl⟩, h2⟩
  unfold duL wtL
  rw [e1, List.map_map]
  refine List.map_congr_left fun i hi => ?_
  obtain ⟨i1, i2⟩ := wt_in hi
  have iL := (ownIx_mem.mp i1).1
  have lo := (lost_iff v).mp hl i (by omega) (by omega)
  show duF rs (ownF rs ls i) = wtF rs ls i
  unfold duF wtF
  by_cases ci : Rr (rs, ls) i = (i : Int) + 1
  · rw [own_l i1 ci, if_pos rfl, if_pos (show rs.getD ((i : Nat) : Int).toNat 0 = (i : Int) + 1 from ci)]
  · rw [own_r i1 ci] at i2 ⊢
    rw [if_neg (by omega : ¬ ((i : Int) = (i : Int) + 1)), if_neg]
    intro k
    refine i2 ⟨?_, k⟩
    rw [show (i : Int) + 1 - 1 = i from by omega]
    exact lo.resolve_left ci
end
section
variable {rs ls : List Int} {C : Store} {QD : D → Store → Prop} {x y : D} {n : Int}
theorem issureC_ok {w : Int} (hx : IsSt C x rs ls) (v : Vs rs ls) (hn : n = rs.length - 1) (h0 : 1 ≤ w ∧ w ≤ n) (q : QD (.bl (sureW rs ls w)) C) : W (m_is_sure [x, .int w] C) QD := by
  obtain ⟨a, b, rfl, ha, hb⟩ := id hx
  obtain ⟨r, hr, a1, _, _, er⟩ := v.rx (i := w) (by omega) (by omega)
  obtain ⟨l, hl, a2, _, _, el⟩ := v.lx (i := w - 1) (by omega) (by omega)
  unfold sureW at q
  rw [er, el] at q
  unfold m_is_sure
  repeat' walk_at "ev"
  by_cases c : r = w + 1
  · refine ite_t (decide_eq_true c) ?_
    repeat' walk_at "ev"
    exact fin_same rfl rfl (by simpa [c] using q)
  · refine ite_f (decide_eq_false c) ?_
    exact fin_same rfl rfl (by simpa [c] using q)
theorem known_ok (hx : IsSt C x rs ls) (v : Vs rs ls) (hl : lostOf rs ls = []) (q : QD (.lst ((wordsOf rs ls).map D.str)) C) : W (m_need_known [x] C) QD := by
  unfold m_need_known
  repeat' walk_at "ev"
  refine wordsF_ok v (w_var rfl ⟨rfl, hx⟩) ?_
  repeat' walk_at "ev"
  refine w_inS ?_
  rw [if_neg Bool.false_ne_true, anyLost]
  repeat' walk_at "ev"
  refine ite_f (by rw [decide_eq_true hl]; decide) ?_
  repeat' walk_at "ev"
  exact fin_closed0 (closedDs_strs _ _) q
theorem ownersC_ok (hx : IsSt C x rs ls) (v : Vs rs ls) (hl : lostOf rs ls = []) (q : QD (.cell C.length) (C ++ [.lst ((ownIx rs ls).map fun i : Nat => .tup [.int i, .int (ownF rs ls i)])])) : W (m_owners [x] C) QD := by
  unfold m_owners
  repeat' walk_at "ev"
  refine w_fzV0 ?_
  repeat' walk_at "ev"
  refine known_ok hx v hl ?_
  refine ⟨[], by simp, closedDs_strs _ _, ?_⟩
  repeat' walk_at "ev"
  refine owners_ok v ?_
  exact W.of (fin_cell0 (closedDs_own _ _)) q
theorem closedDs_dP (n : Nat) (l : List (Int × Int)) : closedDs n (l.map dP) = true := closedDs_map (fun _ => rfl) l
theorem waits_ok (hx : IsSt C x rs ls) (v : Vs rs ls) (hn : n = rs.length - 1) (hl : lostOf rs ls = []) (q : QD (.cell C.length) (C ++ [.lst ((wtL rs ls).map dP)])) : W (m_waits [x] C) QD := by
  have t0 := v.top
  have hol := ownIx_len (rs := rs) (ls := ls)
  unfold m_waits
  repeat' walk_at "ev"
  refine w_fzL ?_
  repeat' walk_at "ev"
  refine ownersC_ok hx.app v hl ⟨_, rfl, rfl, closedDs_own _ _, ?_⟩
  repeat' walk_at "ev"
  refine w_forM (fun i sl C1 => ∃ x2 x3, sl = [some x, some (.cell C.length), x2, x3] ∧ C1 = C ++ [.lst (((((ownIx rs ls).take i).filter fun i => !sureW rs ls (ownF rs ls i)).map (wtF rs ls)).map dP)]) (fun _ _ _ _ => okG_nil _) ?_ ?_ ⟨_, _, rfl, rfl⟩
  · intro i d sl C1 hd hi
    obtain ⟨x2, x3, rfl, rfl⟩ := hi
    rw [List.getElem?_map, Option.map_eq_some_iff] at hd
    obtain ⟨j, hj, rfl⟩ := hd
    have hil := (List.getElem?_eq_some_iff.mp hj).1
    have hjm := List.mem_of_getElem? hj
    have hw := owns_in v hn (ownF rs ls j) (List.mem_map.mpr ⟨j, hjm, rfl⟩)
    have hcl : (((((ownIx rs ls).take i).filter fun i => !sureW rs ls (ownF rs ls i)).map (wtF rs ls)).map dP).length < sizeLine := by
      rw [List.length_map, List.length_map]
      exact Nat.lt_of_le_of_lt (List.length_filter_le _ _) (by rw [List.length_take]; exact Nat.lt_of_lt_of_le (by omega : min i (ownIx rs ls).length < 10000) (by decide))
    rw [List.take_succ, hj, Option.toList_some, List.filter_append, List.map_append, List.map_append]
    generalize hcur : ((((ownIx rs ls).take i).filter fun i => !sureW rs ls (ownF rs ls i)).map (wtF rs ls)).map dP = cur at hcl ⊢
    have hk : (C ++ [Cell.lst cur])[C.length]? = some (.lst cur) := at_app0
    repeat' walk_at "evs"
    refine w_sif ?_
    repeat' walk_at "ev"
    refine issureC_ok hx.app v hn hw ?_
    repeat' walk_at "ev"
    by_cases c : sureW rs ls (ownF rs ls j) = true
    · refine ite_f (by rw [c]; rfl) ?_
      repeat' walk_at "ev"
      rw [List.filter_cons_of_neg (by rw [c]; decide), List.filter_nil, List.map_nil, List.map_nil, List.append_nil]
      exact ⟨_, _, rfl, rfl⟩
    · have c : sureW rs ls (ownF rs ls j) = false := by simpa using c
      refine ite_t (by rw [c]; rfl) ?_
      repeat' walk_at "ev"
      refine isL_and (w_chkC hk) ?_
      repeat' walk_at "ev"
      rw [List.filter_cons_of_pos (by rw [c]; rfl), List.filter_nil, List.map_cons, List.map_nil, List.map_cons, List.map_nil]
      by_cases e : (j : Int) = ownF rs ls j
      · refine ite_t (decide_eq_true e) ?_
        repeat' walk_at "ev"
        refine ⟨_, _, rfl, ?_⟩
        rw [set_app0]
        unfold wtF
        rw [if_pos e]
        rfl
      · refine ite_f (decide_eq_false e) ?_
        repeat' walk_at "ev"
        refine ⟨_, _, rfl, ?_⟩
        rw [set_app0]
        unfold wtF
        rw [if_neg e]
        rfl
  · intro sl C1 hi
    obtain ⟨x2, x3, rfl, rfl⟩ := hi
    rw [List.length_map, List.take_length]
    repeat' walk_at "ev"
    exact W.of (fin_cell0 (closedDs_dP _ _)) q
end


def facN : Nat → Nat
  | 0 => 1
  | n + 1 => (n + 1) * facN n
def binN : Nat → Nat → Nat
  | _, 0 => 1
  | 0, _ + 1 => 0
  | n + 1, k + 1 => binN n k + binN n (k + 1)
theorem facN_pos : ∀ n, 0 < facN n
  | 0 => Nat.one_pos
  | n + 1 => Nat.mul_pos (Nat.succ_pos n) (facN_pos n)
theorem binN_big : ∀ n k, binN n (n + k + 1) = 0
  | 0, k => by rw [Nat.zero_add]; rfl
  | n + 1, k => by
    rw [show n + 1 + k + 1 = (n + k + 1) + 1 from by omega]
    show binN n (n + k + 1) + binN n ((n + k + 1) + 1) = 0
    rw [binN_big n k, show (n + k + 1) + 1 = n + (k + 1) + 1 from by omega, binN_big n (k + 1)]
theorem binN_self : ∀ n, binN n n = 1
  | 0 => rfl
  | n + 1 => by
    show binN n n + binN n (n + 1) = 1
    rw [binN_self n, show n + 1 = n + 0 + 1 from rfl, binN_big n 0]
theorem bin_fac : ∀ (a b : Nat), binN (a + b) a * (facN a * facN b) = facN (a + b)
  | 0, b => by
    rw [Nat.zero_add]
    cases b <;> simp [binN, facN]
  | a + 1, 0 => by
    rw [Nat.add_zero, binN_self]
    simp [facN]
  | a + 1, b + 1 => by
    have h1 := bin_fac a (b + 1)
    have h2 := bin_fac (a + 1) b
    rw [show a + (b + 1) = a + b + 1 from by omega] at h1
    rw [show a + 1 + b = a + b + 1 from by omega] at h2
    rw [show a + 1 + (b + 1) = (a + b + 1) + 1 from by omega]
    show (binN (a + b + 1) a + binN (a + b + 1) (a + 1)) * (facN (a + 1) * facN (b + 1)) = (a + b + 1 + 1) * facN (a + b + 1)
    have e1 : binN (a + b + 1) a * (facN (a + 1) * facN (b + 1)) = (a + 1) * facN (a + b + 1) := by
      rw [← h1]
      show binN (a + b + 1) a * (((a + 1) * facN a) * facN (b + 1)) = _
      simp only [Nat.mul_assoc, Nat.mul_left_comm, Nat.mul_comm]
    have e2 : binN (a + b + 1) (a + 1) * (facN (a + 1) * facN (b + 1)) = (b + 1) * facN (a + b + 1) := by
      rw [← h2]
      show binN (a + b + 1) (a + 1) * (facN (a + 1) * ((b + 1) * facN b)) = _
      simp only [Nat.mul_assoc, Nat.mul_left_comm, Nat.mul_comm]
    rw [Nat.add_mul, e1, e2, ← Nat.add_mul]
    congr 1
    omega
/-- what is divided one by one is divided by all at once -/
theorem foldl_div : ∀ (ns : List Nat) (a : Nat), ns.foldl (· / ·) a = a / ns.foldl (· * ·) 1
  | [], a => by simp
  | n :: ns, a => by
    have hm : ∀ (ns : List Nat) (x : Nat), ns.foldl (· * ·) x = x * ns.foldl (· * ·) 1 := by
      intro ns
      induction ns with
      | nil => intro x; simp
      | cons y ns ih =>
        intro x
        rw [List.foldl_cons, List.foldl_cons, ih (x * y), ih (1 * y)]
        rw [Nat.one_mul, Nat.mul_assoc]
    rw [List.foldl_cons, List.foldl_cons, foldl_div ns, hm ns (1 * n), Nat.one_mul, Nat.div_div_eq_div_mul]
/-- the product of the burdens of trees with chains of a and of b -/
def hookP : List (Nat × Nat) → Nat
  | [] => 1
  | p :: r => (facN p.1 * facN p.2 * (p.1 + p.2 + 1)) * hookP r
def sizeP : List (Nat × Nat) → Nat
  | [] => 0
  | p :: r => (p.1 + p.2 + 1) + sizeP r
/-- the weavings, the total so far being t -/
def weaveP : Nat → List (Nat × Nat) → Nat
  | _, [] => 1
  | t, p :: r => binN (t + (1 + p.1 + p.2)) (1 + p.1 + p.2) * binN (p.1 + p.2) p.1 * weaveP (t + (1 + p.1 + p.2)) r
theorem weave_hook : ∀ (ps : List (Nat × Nat)) (t : Nat), weaveP t ps * hookP ps * facN t = facN (t + sizeP ps)
  | [], t => by simp [weaveP, hookP, sizeP]
  | p :: r, t => by
    have h1 := bin_fac (1 + p.1 + p.2) t
    have h2 := bin_fac p.1 p.2
    have h3 := weave_hook r (t + (1 + p.1 + p.2))
    have e : facN (1 + p.1 + p.2) = (p.1 + p.2 + 1) * facN (p.1 + p.2) := by
      rw [show 1 + p.1 + p.2 = (p.1 + p.2) + 1 from by omega]
      rfl
    rw [Nat.add_comm (1 + p.1 + p.2) t] at h1
    rw [show t + sizeP (p :: r) = t + (1 + p.1 + p.2) + sizeP r from by show t + ((p.1 + p.2 + 1) + sizeP r) = _; omega, ← h3, ← h1, e, ← h2]
    show binN (t + (1 + p.1 + p.2)) (1 + p.1 + p.2) * binN (p.1 + p.2) p.1 * weaveP (t + (1 + p.1 + p.2)) r * ((facN p.1 * facN p.2 * (p.1 + p.2 + 1)) * hookP r) * facN t = _
    generalize binN (t + (1 + p.1 + p.2)) (1 + p.1 + p.2) = A
    generalize binN (p.1 + p.2) p.1 = B
    generalize weaveP (t + (1 + p.1 + p.2)) r = Wv
    generalize facN p.1 = f1
    generalize facN p.2 = f2
    generalize p.1 + p.2 + 1 = s
    generalize hookP r = hk
    generalize facN t = ft
    simp only [Nat.mul_assoc, Nat.mul_left_comm, Nat.mul_comm]
theorem hookP_pos : ∀ ps, 0 < hookP ps
  | [] => Nat.one_pos
  | p :: r => Nat.mul_pos (Nat.mul_pos (Nat.mul_pos (facN_pos _) (facN_pos _)) (Nat.succ_pos _)) (hookP_pos r)
/-- all orders, through the burdens: the weavings -/
theorem hook (ps : List (Nat × Nat)) : facN (sizeP ps) / hookP ps = weaveP 0 ps := by
  have h := weave_hook ps 0
  rw [Nat.zero_add, show facN 0 = 1 from rfl, Nat.mul_one] at h
  rw [← h]
  exact Nat.mul_div_cancel _ (hookP_pos ps)


section
variable {C : Store} {QD : D → Store → Prop}
theorem w_gMulS {i j : Int} (h0 : -10000 ≤ j) (h1 : j ≤ 10000) (q : QD (.int (i * j)) C) : W (gMul (.int i) (.int j) C) QD := by
  refine W.of (a := .int (i * j)) (C := C) ?_ q
  show (if (smallI i || smallI j || (bigI i && bigI j)) = true then R.ok (D.int (i * j), C) else R.no) = _
  have h : smallI j = true := by
    unfold smallI
    rw [Bool.and_eq_true, decide_eq_true_iff, decide_eq_true_iff]
    omega
  rw [h, Bool.or_true, Bool.true_or, if_pos rfl]
theorem w_gDivS {i j : Int} (h0 : 0 < j) (h1 : j ≤ 10000) (q : QD (.int (i / j)) C) : W (gDiv (.int i) (.int j) C) QD := by
  refine W.of (a := .int (i / j)) (C := C) ?_ q
  show (if 0 < j ∧ j ≤ 10 ^ 60 then R.ok (D.int (i / j), C) else R.no) = _
  rw [if_pos ⟨h0, by omega⟩]
theorem counted_ok {ns : List Nat} (hl : ns.length ≤ 200) (hp : ∀ x ∈ ns, 0 < x ∧ x ≤ 200) (q : QD (.int ((facN ns.length / ns.foldl (· * ·) 1 : Nat) : Int)) C) : W (m_counted_by [.lst (ns.map fun x : Nat => D.int (x : Int))] C) QD := by
  rw [← foldl_div] at q
  unfold m_counted_by
  repeat' walk_at "ev"
  refine ⟨1, _, rfl, by rw [List.length_map]; simp [lowI]; omega, ?_⟩
  rw [List.length_map, show (ns.length : Int) + 1 = 1 + (ns.length : Int) from by omega]
  refine w_forM (fun i sl C1 => ∃ x, sl = [some (.lst (ns.map fun x : Nat => D.int (x : Int))), some (.int ((facN i : Nat) : Int)), x, none] ∧ C1 = C) (fun _ _ _ _ => okG_nil _) ?_ ?_ ⟨_, rfl, rfl⟩
  · intro i d sl C1 hd hi
    obtain ⟨x, rfl, rfl⟩ := hi
    obtain ⟨hi, rfl⟩ := rgD_get2 hd
    repeat' walk_at "ev"
    refine w_gMulS (by omega) (by omega) ?_
    rw [show ((facN i : Nat) : Int) * (1 + (i : Int)) = ((facN (i + 1) : Nat) : Int) from by
      show _ = (((i + 1) * facN i : Nat) : Int)
      rw [Int.natCast_mul, Int.mul_comm]
      congr 1
      omega]
    exact ⟨_, rfl, rfl⟩
  · intro sl C1 hi
    obtain ⟨x, rfl, rfl⟩ := hi
    rw [rgD_len2]
    repeat' walk_at "ev"
    refine w_forM (fun i sl C2 => ∃ y, sl = [some (.lst (ns.map fun x : Nat => D.int (x : Int))), some (.int (((ns.take i).foldl (· / ·) (facN ns.length) : Nat) : Int)), x, y] ∧ C2 = C1) (fun _ _ _ _ => okG_nil _) ?_ ?_ ⟨_, rfl, rfl⟩
    · intro i d sl C2 hd hi
      obtain ⟨y, rfl, rfl⟩ := hi
      rw [List.getElem?_map, Option.map_eq_some_iff] at hd
      obtain ⟨b, hb, rfl⟩ := hd
      obtain ⟨b0, b1⟩ := hp b (List.mem_of_getElem? hb)
      repeat' walk_at "ev"
      refine w_gDivS (by omega) (by omega) ?_
      rw [show (((ns.take i).foldl (· / ·) (facN ns.length) : Nat) : Int) / (b : Int) = (((ns.take (i + 1)).foldl (· / ·) (facN ns.length) : Nat) : Int) from by
        rw [List.take_add_one, hb, List.foldl_append, ← Int.natCast_ediv]
        rfl]
      exact ⟨_, rfl, rfl⟩
    · intro sl C2 hi
      obtain ⟨y, rfl, rfl⟩ := hi
      rw [List.length_map, List.take_length]
      repeat' walk_at "ev"
      exact fin_same rfl rfl q
/-- how many wait in a row beside a dancer, after so many bouts -/
def chN (late : List Int) (d on : Int) : Nat → Nat
  | 0 => 0
  | i + 1 => if d + ((chN late d on i : Int) + 1) * on ∈ late then chN late d on i + 1 else chN late d on i
end


section
variable {C : Store} {QD : D → Store → Prop} {x : D} {rs ls : List Int}
/-- who waits on one side -/
def wtB (rs ls : List Int) (on : Int) (d : Int) : Bool :=
  (decide (on = 1) && (decide (Rr (rs, ls) d = d + 1) && !decide (Ll (rs, ls) d = d) && !decide (Ll (rs, ls) (d - 1) = d - 1))) ||
  (decide (on = -1) && (decide (Ll (rs, ls) (d - 1) = d - 1) && !decide (Rr (rs, ls) (d - 1) = d) && !decide (Rr (rs, ls) d = d + 1)))
def wtN (rs ls : List Int) (on : Int) (n : Nat) : List Int := ((List.range n).filter fun i : Nat => wtB rs ls on (1 + (i : Int))).map fun i : Nat => 1 + (i : Int)
end


def prodN : List Nat → Nat
  | [] => 1
  | x :: r => x * prodN r
theorem prodN_fold (l : List Nat) : l.foldl (· * ·) 1 = prodN l := by
  suffices h : ∀ (l : List Nat) (a : Nat), l.foldl (· * ·) a = a * prodN l from by rw [h, Nat.one_mul]
  intro l
  induction l with
  | nil => intro a; simp [prodN]
  | cons x l ih =>
    intro a
    rw [List.foldl_cons, ih, prodN, Nat.mul_assoc]
def segI : Int → Nat → List Int
  | _, 0 => []
  | i, m + 1 => i :: segI (i + 1) m
theorem segI_mem {x : Int} : ∀ {i : Int} {m : Nat}, x ∈ segI i m ↔ i ≤ x ∧ x < i + (m : Int)
  | i, 0 => by
    rw [segI]
    refine ⟨fun h => (nomatch h), fun h => ?_⟩
    omega
  | i, m + 1 => by
    rw [segI, List.mem_cons, segI_mem]
    omega
theorem segI_len : ∀ {i : Int} {m : Nat}, (segI i m).length = m
  | _, 0 => rfl
  | i, m + 1 => by rw [segI, List.length_cons, segI_len]
theorem segI_lt : ∀ {i : Int} {m : Nat}, (segI i m).Pairwise (· < ·)
  | _, 0 => .nil
  | i, m + 1 => .cons (fun x hx => by have := segI_mem.mp hx; omega) segI_lt
/-- chains: who waits to the left (behind a root rising), to the right, and the roots -/
structure Chn (n : Nat) (wR wL rt : Int → Bool) (A B : Int → Nat) : Prop where
  r1 : ∀ i, wR i = true → wR (i - 1) = true ∨ rt (i - 1) = true
  l1 : ∀ i, wL i = true → wL (i + 1) = true ∨ rt (i + 1) = true
  rl : ∀ i, wR i = true → wL i = true → False
  rr : ∀ i, wR i = true → rt i = true → False
  lr : ∀ i, wL i = true → rt i = true → False
  rb : ∀ i, wR i = true → 1 ≤ i ∧ i ≤ n
  lb : ∀ i, wL i = true → 1 ≤ i ∧ i ≤ n
  tb : ∀ i, rt i = true → 1 ≤ i ∧ i ≤ n
  a1 : ∀ d (j : Nat), 1 ≤ j → j ≤ A d → wR (d + j) = true
  a2 : ∀ d, wR (d + (A d : Int) + 1) = false
  b1 : ∀ d (j : Nat), 1 ≤ j → j ≤ B d → wL (d - j) = true
  b2 : ∀ d, wL (d - (B d : Int) - 1) = false
namespace Chn
variable {n : Nat} {wR wL rt : Int → Bool} {A B : Int → Nat}
def own (wR wL rt : Int → Bool) (d : Int) : Bool := wR d || wL d || rt d
theorem A0 (c : Chn n wR wL rt A B) {d : Int} (h : wR (d + 1) = false) : A d = 0 := by
  rcases Nat.eq_zero_or_pos (A d) with e | e
  · exact e
  · have := c.a1 d 1 (Nat.le_refl _) e
    rw [show d + ((1 : Nat) : Int) = d + 1 from by omega, h] at this
    cases this
theorem A1 (c : Chn n wR wL rt A B) {d : Int} (h : wR (d + 1) = true) : A d = A (d + 1) + 1 := by
  have h1 := c.a2 d
  have h2 := c.a2 (d + 1)
  rcases Nat.lt_trichotomy (A d) (A (d + 1) + 1) with e | e | e
  · exfalso
    rcases Nat.eq_zero_or_pos (A d) with z | z
    · rw [z, show d + ((0 : Nat) : Int) + 1 = d + 1 from by omega, h] at h1
      cases h1
    · have := c.a1 (d + 1) (A d) z (by omega)
      rw [show d + 1 + (A d : Int) = d + (A d : Int) + 1 from by omega, h1] at this
      cases this
  · exact e
  · exfalso
    have := c.a1 d (A (d + 1) + 2) (by omega) (by omega)
    rw [show d + ((A (d + 1) + 2 : Nat) : Int) = d + 1 + (A (d + 1) : Int) + 1 from by omega, h2] at this
    cases this
theorem B0 (c : Chn n wR wL rt A B) {d : Int} (h : wL (d - 1) = false) : B d = 0 := by
  rcases Nat.eq_zero_or_pos (B d) with e | e
  · exact e
  · have := c.b1 d 1 (Nat.le_refl _) e
    rw [show d - ((1 : Nat) : Int) = d - 1 from by omega, h] at this
    cases this
theorem B1 (c : Chn n wR wL rt A B) {d : Int} (h : wL d = true) : B (d + 1) = B d + 1 := by
  have h1 := c.b2 (d + 1)
  have h2 := c.b2 d
  rcases Nat.lt_trichotomy (B (d + 1)) (B d + 1) with e | e | e
  · exfalso
    rcases Nat.eq_zero_or_pos (B (d + 1)) with z | z
    · rw [z, show d + 1 - ((0 : Nat) : Int) - 1 = d from by omega, h] at h1
      cases h1
    · have := c.b1 d (B (d + 1)) z (by omega)
      rw [show d - (B (d + 1) : Int) = d + 1 - (B (d + 1) : Int) - 1 from by omega, h1] at this
      cases this
  · exact e
  · exfalso
    have := c.b1 (d + 1) (B d + 2) (by omega) (by omega)
    rw [show d + 1 - ((B d + 2 : Nat) : Int) = d - (B d : Int) - 1 from by omega, h2] at this
    cases this
theorem noL (c : Chn n wR wL rt A B) {d : Int} (h1 : wL d = false) (h2 : rt d = false) : B d = 0 := c.B0 (by
  cases e : wL (d - 1) with
  | false => rfl
  | true =>
    have := c.l1 _ e
    rw [show d - 1 + 1 = d from by omega, h1, h2] at this
    simp at this)
theorem noR (c : Chn n wR wL rt A B) {d : Int} (h1 : wR d = false) (h2 : rt d = false) : A d = 0 := c.A0 (by
  cases e : wR (d + 1) with
  | false => rfl
  | true =>
    have := c.r1 _ e
    rw [show d + 1 - 1 = d from by omega, h1, h2] at this
    simp at this)
theorem nx (c : Chn n wR wL rt A B) (d : Int) : (if wR (d + 1) = true then A (d + 1) + 1 else 0) = A d := by
  split
  · rename_i h; exact (c.A1 h).symm
  · rename_i h; exact (c.A0 (by simpa using h)).symm
theorem bn (c : Chn n wR wL rt A B) {d : Int} (h : wL d = false) : B (d + 1) = 0 := c.B0 (by rw [show d + 1 - 1 = d from by omega]; exact h)
/-- all burdens and how many there are, by the roots -/
theorem main (c : Chn n wR wL rt A B) : ∀ (m : Nat) (i : Int), i + m = n + 1 →
    prodN (((segI i m).filter (own wR wL rt)).map fun u => 1 + A u + B u) * facN (B i) = hookP (((segI i m).filter rt).map fun d => (A d, B d)) * facN (if wR i = true then A i + 1 else 0) ∧
    ((segI i m).filter (own wR wL rt)).length + B i = sizeP (((segI i m).filter rt).map fun d => (A d, B d)) + (if wR i = true then A i + 1 else 0)
  | 0, i, h => by
    have e1 : wR i = false := by
      cases e : wR i with
      | false => rfl
      | true => have := c.rb i e; omega
    have e2 : wL (i - 1) = false := by
      cases e : wL (i - 1) with
      | false => rfl
      | true =>
        exfalso
        rcases c.l1 _ e with h | h
        · have := c.lb _ h; omega
        · have := c.tb _ h; omega
    rw [c.B0 e2, e1]
    simp [segI, prodN, hookP, sizeP, facN]
  | m + 1, i, h => by
    have ih := main c m (i + 1) (by omega)
    rw [c.nx i] at ih
    obtain ⟨h1, h2⟩ := ih
    rw [segI]
    cases eL : wL i with
    | true =>
      have eR : wR i = false := by
        cases e : wR i with
        | false => rfl
        | true => exact (c.rl i e eL).elim
      have eT : rt i = false := by
        cases e : rt i with
        | false => rfl
        | true => exact (c.lr i eL e).elim
      have ha := c.noR eR eT
      rw [c.B1 eL, ha] at h1 h2
      rw [List.filter_cons_of_pos (by simp [own, eL]), List.filter_cons_of_neg (by simp [eT]), List.map_cons, prodN, ha, eR]
      refine ⟨?_, ?_⟩
      · rw [if_neg Bool.false_ne_true, ← h1, facN, show 1 + 0 + B i = B i + 1 from by omega]
        simp only [Nat.mul_assoc, Nat.mul_left_comm, Nat.mul_comm]
      · rw [List.length_cons, if_neg Bool.false_ne_true]
        omega
    | false =>
      rw [c.bn eL] at h1 h2
      rw [show facN 0 = 1 from rfl, Nat.mul_one] at h1
      cases eT : rt i with
      | true =>
        have eR : wR i = false := by
          cases e : wR i with
          | false => rfl
          | true => exact (c.rr i e eT).elim
        rw [List.filter_cons_of_pos (by simp [own, eT]), List.filter_cons_of_pos eT, List.map_cons, List.map_cons, prodN, hookP, sizeP, eR, if_neg Bool.false_ne_true, h1, List.length_cons]
        refine ⟨?_, ?_⟩
        · rw [show facN 0 = 1 from rfl, Nat.mul_one, show 1 + A i + B i = A i + B i + 1 from by omega]
          simp only [Nat.mul_assoc, Nat.mul_left_comm, Nat.mul_comm]
        · show _ = (A i + B i + 1) + _ + 0
          omega
      | false =>
        have hb := c.noL eL eT
        cases eR : wR i with
        | true =>
          rw [List.filter_cons_of_pos (by simp [own, eR]), List.filter_cons_of_neg (by simp [eT]), List.map_cons, prodN, hb, if_pos rfl, h1, List.length_cons]
          refine ⟨?_, ?_⟩
          · rw [show facN 0 = 1 from rfl, Nat.mul_one, facN, show 1 + A i + 0 = A i + 1 from by omega]
            simp only [Nat.mul_assoc, Nat.mul_left_comm, Nat.mul_comm]
          · omega
        | false =>
          have ha := c.noR eR eT
          rw [List.filter_cons_of_neg (by simp [own, eR, eL, eT]), List.filter_cons_of_neg (by simp [eT]), hb, if_neg Bool.false_ne_true, h1, ha]
          refine ⟨by simp [facN], ?_⟩
          rw [ha] at h2
          exact h2
/-- the whole ring: what the burdens give is what the weavings give -/
theorem total (c : Chn n wR wL rt A B) :
    facN ((((segI 1 n).filter (own wR wL rt)).map fun u => 1 + A u + B u).length) / (((segI 1 n).filter (own wR wL rt)).map fun u => 1 + A u + B u).foldl (· * ·) 1 = weaveP 0 (((segI 1 n).filter rt).map fun d => (A d, B d)) := by
  have e1 : wR 1 = false := by
    cases e : wR 1 with
    | false => rfl
    | true =>
      rcases c.r1 _ e with h | h
      · have := c.rb _ h; omega
      · have := c.tb _ h; omega
  have e2 : wL (1 - 1) = false := by
    cases e : wL (1 - 1) with
    | false => rfl
    | true => have := c.lb _ e; omega
  obtain ⟨h1, h2⟩ := c.main n 1 (by omega)
  rw [c.B0 e2, e1, if_neg Bool.false_ne_true, show facN 0 = 1 from rfl, Nat.mul_one, Nat.mul_one] at h1
  rw [c.B0 e2, e1, if_neg Bool.false_ne_true, Nat.add_zero, Nat.add_zero] at h2
  rw [prodN_fold, h1, List.length_map, h2, hook]
end Chn


theorem chN_run (late : List Int) (d on : Int) : ∀ i (j : Nat), 1 ≤ j → j ≤ chN late d on i → d + (j : Int) * on ∈ late
  | 0, j, h1, h2 => by
    unfold chN at h2
    omega
  | i + 1, j, h1, h2 => by
    unfold chN at h2
    split at h2
    · rename_i h
      by_cases e : j = chN late d on i + 1
      · rw [e]
        exact h
      · exact chN_run late d on i j h1 (by omega)
    · exact chN_run late d on i j h1 h2
theorem chN_stop (late : List Int) (d on : Int) : ∀ i, chN late d on i = i ∨ ¬ d + ((chN late d on i : Int) + 1) * on ∈ late
  | 0 => .inl rfl
  | i + 1 => by
    unfold chN
    by_cases h : d + ((chN late d on i : Int) + 1) * on ∈ late
    · rw [if_pos h]
      rcases chN_stop late d on i with e | e
      · exact .inl (by rw [e])
      · exact absurd h e
    · rw [if_neg h]
      exact .inr h
theorem seg_few {late : List Int} {i : Int} {m : Nat} (hs : late.Pairwise (· < ·)) (h : ∀ x, i ≤ x → x < i + (m : Int) → x ∈ late) : m ≤ late.length := by
  have e : late.filter (fun x => decide (i ≤ x ∧ x < i + (m : Int))) = segI i m := lt_ext (hs.filter _) segI_lt fun x => by
    rw [List.mem_filter, segI_mem, decide_eq_true_iff]
    exact ⟨fun k => k.2, fun k => ⟨h x k.1 k.2, k⟩⟩
  have h2 := List.length_filter_le (fun x => decide (i ≤ x ∧ x < i + (m : Int))) late
  rw [e, segI_len] at h2
  exact h2
theorem chN_end {late : List Int} {d on : Int} (hs : late.Pairwise (· < ·)) (ho : on = 1 ∨ on = -1) : ¬ d + ((chN late d on late.length : Int) + 1) * on ∈ late := by
  rcases chN_stop late d on late.length with e | e
  · intro h
    have hr := chN_run late d on late.length
    rw [e] at h hr
    have hr2 : ∀ j : Nat, 1 ≤ j → j ≤ late.length + 1 → d + (j : Int) * on ∈ late := fun j h1 h2 => by
      by_cases c : j = late.length + 1
      · rw [c]
        exact h
      · exact hr j h1 (by omega)
    rcases ho with rfl | rfl
    · have := seg_few (i := d + 1) (m := late.length + 1) hs fun x h1 h2 => by
        have := hr2 (x - d).toNat (by omega) (by omega)
        rwa [show d + ((x - d).toNat : Int) * 1 = x from by omega] at this
      omega
    · have := seg_few (i := d - (late.length + 1 : Nat)) (m := late.length + 1) hs fun x h1 h2 => by
        have := hr2 (d - x).toNat (by omega) (by omega)
        rwa [show d + ((d - x).toNat : Int) * (-1) = x from by omega] at this
      omega
  · exact e
section
variable {rs ls : List Int} {n : Nat} {d x on : Int}
def wRb (rs ls : List Int) (n : Nat) (d : Int) : Bool := decide (1 ≤ d ∧ d ≤ (n : Int)) && wtB rs ls 1 d
def wLb (rs ls : List Int) (n : Nat) (d : Int) : Bool := decide (1 ≤ d ∧ d ≤ (n : Int)) && wtB rs ls (-1) d
def rtb (rs ls : List Int) (n : Nat) (d : Int) : Bool := decide (d ∈ owns rs ls) && !wRb rs ls n d && !wLb rs ls n d
theorem wR_iff : wRb rs ls n d = true ↔ 1 ≤ d ∧ d ≤ n ∧ Rr (rs, ls) d = d + 1 ∧ Ll (rs, ls) d ≠ d ∧ Ll (rs, ls) (d - 1) ≠ d - 1 := by
  unfold wRb wtB
  simp [and_assoc]
theorem wL_iff : wLb rs ls n d = true ↔ 1 ≤ d ∧ d ≤ n ∧ Ll (rs, ls) (d - 1) = d - 1 ∧ Rr (rs, ls) (d - 1) ≠ d ∧ Rr (rs, ls) d ≠ d + 1 := by
  unfold wLb wtB
  simp [and_assoc]
theorem rt_iff : rtb rs ls n d = true ↔ d ∈ owns rs ls ∧ ¬ wRb rs ls n d = true ∧ ¬ wLb rs ls n d = true := by
  unfold rtb
  simp [and_assoc]
theorem wt_mem : x ∈ wtN rs ls on n ↔ 1 ≤ x ∧ x ≤ n ∧ wtB rs ls on x = true := by
  unfold wtN
  rw [List.mem_map]
  constructor
  · rintro ⟨i, hi, rfl⟩
    have := List.mem_filter.mp hi
    have h := List.mem_range.mp this.1
    exact ⟨by omega, by omega, this.2⟩
  · rintro ⟨h0, h1, h2⟩
    refine ⟨(x - 1).toNat, List.mem_filter.mpr ⟨List.mem_range.mpr (by omega), ?_⟩, by omega⟩
    rw [show 1 + (((x - 1).toNat : Nat) : Int) = x from by omega]
    exact h2
theorem wt_inR : x ∈ wtN rs ls 1 n ↔ wRb rs ls n x = true := by
  rw [wt_mem]
  unfold wRb
  simp [and_assoc]
theorem wt_inL : x ∈ wtN rs ls (-1) n ↔ wLb rs ls n x = true := by
  rw [wt_mem]
  unfold wLb
  simp [and_assoc]
theorem wtN_lt : (wtN rs ls on n).Pairwise (· < ·) := by
  unfold wtN
  rw [List.pairwise_map]
  exact (List.pairwise_lt_range.filter _).imp fun h => by omega
def wA (rs ls : List Int) (n : Nat) (d : Int) : Nat := chN (wtN rs ls 1 n) d 1 (wtN rs ls 1 n).length
def wB (rs ls : List Int) (n : Nat) (d : Int) : Nat := chN (wtN rs ls (-1) n) d (-1) (wtN rs ls (-1) n).length
theorem own_iff (v : Vs rs ls) (hn : (n : Int) = rs.length - 1) (hl : lostOf rs ls = []) : d ∈ owns rs ls ↔ 1 ≤ d ∧ d ≤ n ∧ ((Ll (rs, ls) (d - 1) = d - 1 ∧ Rr (rs, ls) (d - 1) ≠ d) ∨ (Rr (rs, ls) d = d + 1 ∧ Ll (rs, ls) d ≠ d)) := by
  have lo := (lost_iff v).mp hl
  rw [own_mem v]
  constructor
  · rintro ⟨b, b0, b1, h | h⟩
    · obtain ⟨h, rfl⟩ := h
      have l := lo b b0 b1
      have r := rl_bd v hn (b := b) b0 (by omega)
      refine ⟨by omega, by omega, .inl ?_⟩
      rw [show b + 1 - 1 = b from by omega]
      exact ⟨l.resolve_left h, h⟩
    · obtain ⟨h1, h2, rfl⟩ := h
      have r := rl_bd v hn (b := d) b0 (by omega)
      exact ⟨by omega, by omega, .inr ⟨h1, h2⟩⟩
  · rintro ⟨h0, h1, h | h⟩
    · exact ⟨d - 1, by omega, by omega, .inl ⟨by rw [show d - 1 + 1 = d from by omega]; exact h.2, by omega⟩⟩
    · exact ⟨d, by omega, by omega, .inr ⟨h.1, h.2, rfl⟩⟩
theorem rt_sure (v : Vs rs ls) (hn : (n : Int) = rs.length - 1) (hl : lostOf rs ls = []) : rtb rs ls n d = true ↔ d ∈ owns rs ls ∧ sureW rs ls d = true := by
  rw [rt_iff, sureW_iff, wR_iff, wL_iff]
  constructor
  · rintro ⟨h, c1, c2⟩
    refine ⟨h, ?_⟩
    obtain ⟨h0, h1, h | h⟩ := (own_iff v hn hl).mp h
    · exact ⟨h.1, Classical.byContradiction fun k => c2 ⟨h0, h1, h.1, h.2, k⟩⟩
    · exact ⟨Classical.byContradiction fun k => c1 ⟨h0, h1, h.1, h.2, k⟩, h.1⟩
  · rintro ⟨h, c1, c2⟩
    exact ⟨h, fun k => k.2.2.2.2 c1, fun k => k.2.2.2.2 c2⟩
theorem chn (v : Vs rs ls) (hn : (n : Int) = rs.length - 1) (hl : lostOf rs ls = []) : Chn n (wRb rs ls n) (wLb rs ls n) (rtb rs ls n) (wA rs ls n) (wB rs ls n) := by
  have lo := (lost_iff v).mp hl
  refine ⟨?_, ?_, ?_, ?_, ?_, ?_, ?_, ?_, ?_, ?_, ?_, ?_⟩
  · intro i h
    by_cases c : wRb rs ls n (i - 1) = true
    · exact .inl c
    · obtain ⟨h0, h1, h2, h3, h4⟩ := wR_iff.mp h
      have r := rl_bd v hn (b := i - 1) (by omega) (by omega)
      have e := (lo (i - 1) (by omega) (by omega)).resolve_right h4
      refine .inr (rt_iff.mpr ⟨(own_iff v hn hl).mpr ⟨by omega, by omega, .inr ⟨e, h4⟩⟩, c, fun k => ?_⟩)
      exact (wL_iff.mp k).2.2.2.2 e
  · intro i h
    by_cases c : wLb rs ls n (i + 1) = true
    · exact .inl c
    · obtain ⟨h0, h1, h2, h3, h4⟩ := wL_iff.mp h
      have r := rl_bd v hn (b := i) (by omega) (by omega)
      have e := (lo i (by omega) (by omega)).resolve_left h4
      refine .inr (rt_iff.mpr ⟨(own_iff v hn hl).mpr ⟨by omega, by omega, .inl ?_⟩, fun k => ?_, c⟩)
      · rw [show i + 1 - 1 = i from by omega]
        exact ⟨e, h4⟩
      · have := (wR_iff.mp k).2.2.2.2
        rw [show i + 1 - 1 = i from by omega] at this
        exact this e
  · intro i h1 h2
    exact (wR_iff.mp h1).2.2.2.2 (wL_iff.mp h2).2.2.1
  · intro i h1 h2
    exact (rt_iff.mp h2).2.1 h1
  · intro i h1 h2
    exact (rt_iff.mp h2).2.2 h1
  · intro i h
    exact ⟨(wR_iff.mp h).1, (wR_iff.mp h).2.1⟩
  · intro i h
    exact ⟨(wL_iff.mp h).1, (wL_iff.mp h).2.1⟩
  · intro i h
    exact owns_in v hn i (rt_iff.mp h).1
  · intro d j h0 h1
    have := chN_run (wtN rs ls 1 n) d 1 _ j h0 h1
    rw [Int.mul_one] at this
    exact wt_inR.mp this
  · intro d
    have := chN_end (d := d) (on := 1) (wtN_lt (rs := rs) (ls := ls) (on := 1) (n := n)) (.inl rfl)
    rw [wt_inR, Int.mul_one] at this
    rw [Int.add_assoc]
    exact Bool.eq_false_iff.mpr this
  · intro d j h0 h1
    have := chN_run (wtN rs ls (-1) n) d (-1) _ j h0 h1
    rw [show d + (j : Int) * -1 = d - j from by omega] at this
    exact wt_inL.mp this
  · intro d
    have := chN_end (d := d) (on := -1) (wtN_lt (rs := rs) (ls := ls) (on := -1) (n := n)) (.inr rfl)
    rw [wt_inL] at this
    refine Bool.eq_false_iff.mpr fun k => this ?_
    rw [show d + ((chN (wtN rs ls (-1) n) d (-1) (wtN rs ls (-1) n).length : Int) + 1) * -1 = d - (wB rs ls n d : Int) - 1 from by unfold wB; omega]
    exact k
theorem own_seg (v : Vs rs ls) (hn : (n : Int) = rs.length - 1) (hl : lostOf rs ls = []) : uniqI (owns rs ls) = (segI 1 n).filter (Chn.own (wRb rs ls n) (wLb rs ls n) (rtb rs ls n)) := by
  refine lt_ext (uniqI_lt _) (segI_lt.filter _) fun x => ?_
  rw [uniqI_mem, List.mem_filter, segI_mem]
  unfold Chn.own
  simp only [Bool.or_eq_true]
  constructor
  · intro h
    have b := owns_in v hn x h
    refine ⟨⟨b.1, by omega⟩, ?_⟩
    by_cases c1 : wRb rs ls n x = true
    · exact .inl (.inl c1)
    · by_cases c2 : wLb rs ls n x = true
      · exact .inl (.inr c2)
      · exact .inr (rt_iff.mpr ⟨h, c1, c2⟩)
  · rintro ⟨-, (h | h) | h⟩
    · obtain ⟨h0, h1, h2, h3, h4⟩ := wR_iff.mp h
      exact (own_iff v hn hl).mpr ⟨h0, h1, .inr ⟨h2, h3⟩⟩
    · obtain ⟨h0, h1, h2, h3, h4⟩ := wL_iff.mp h
      exact (own_iff v hn hl).mpr ⟨h0, h1, .inl ⟨h2, h3⟩⟩
    · exact (rt_iff.mp h).1
end


section
variable {l : List Int} {f : Int → Int} {u y : Int}
/-- a dict of numbers by numbers -/
def mapK (l : List Int) (f : Int → Int) : List (Key × D) := l.map fun u => (.inl u, .int (f u))
theorem mapK_len : (mapK l f).length = l.length := by
  unfold mapK
  rw [List.length_map]
theorem mapK_keys : (mapK l f).map (fun kv => keyD kv.1) = l.map D.int := by
  unfold mapK
  rw [List.map_map]
  rfl
theorem mapK_vals : (mapK l f).map (·.2) = l.map fun u => D.int (f u) := by
  unfold mapK
  rw [List.map_map]
  rfl
theorem mapK_put (h : u ∈ l) : putD (mapK l f) (Sum.inl u) (.int y) = mapK l fun x => if x = u then y else f x := by
  unfold putD mapK
  rw [if_pos (by
    rw [List.any_eq_true]
    exact ⟨_, List.mem_map.mpr ⟨u, h, rfl⟩, decide_eq_true rfl⟩), List.map_map]
  refine List.map_congr_left fun x _ => ?_
  show (if (Sum.inl x : Key) = Sum.inl u then _ else _) = ((Sum.inl x : Key), D.int (if x = u then y else f x))
  by_cases c : x = u
  · rw [if_pos (by rw [c]), if_pos c]
  · rw [if_neg (by simpa using c), if_neg c]
theorem mapK_val : valD (mapK l f) (Sum.inl u) = if u ∈ l then some (.int (f u)) else none := by
  unfold mapK
  induction l with
  | nil => rfl
  | cons x l ih =>
    unfold valD at ih ⊢
    rw [List.map_cons, List.find?_cons]
    by_cases c : x = u
    · subst c
      simp
    · rw [decide_eq_false (by simpa using c)]
      simp only
      rw [ih]
      by_cases c2 : u ∈ l
      · rw [if_pos c2, if_pos (List.mem_cons_of_mem _ c2)]
      · rw [if_neg c2, if_neg (by simp [c2, Ne.symm c])]
theorem mapK_fold (hd : l.Nodup) : l.foldl (fun kvs u => putD kvs (Sum.inl u) (.int (f u))) [] = mapK l f := by
  suffices h : ∀ (es pre : List Int), (pre ++ es).Nodup → es.foldl (fun kvs u => putD kvs (Sum.inl u) (.int (f u))) (mapK pre f) = mapK (pre ++ es) f from h l [] hd
  intro es
  induction es with
  | nil =>
    intro pre _
    rw [List.append_nil]
    rfl
  | cons e es ih =>
    intro pre hn
    rw [List.foldl_cons]
    have hne : ¬ e ∈ pre := fun k => by
      have := (List.nodup_append.mp hn).2.2 e k e List.mem_cons_self
      exact this rfl
    rw [show putD (mapK pre f) (Sum.inl e) (.int (f e)) = mapK (pre ++ [e]) f from by
      unfold putD
      rw [if_neg]
      · unfold mapK
        rw [List.map_append]
        rfl
      · rw [List.any_eq_true]
        rintro ⟨kv, hk, hk2⟩
        unfold mapK at hk
        obtain ⟨x, hx, rfl⟩ := List.mem_map.mp hk
        have := of_decide_eq_true hk2
        cases this
        exact hne hx]
    rw [ih (pre ++ [e]) (by rw [List.append_assoc]; exact hn), List.append_assoc]
    rfl
end
namespace Chn
variable {n : Nat} {wR wL rt : Int → Bool} {A B : Int → Nat}
def hit (A B : Int → Nat) (u v : Int) : Bool := decide (u - (B u : Int) ≤ v ∧ v ≤ u + (A u : Int))
theorem upA (c : Chn n wR wL rt A B) {u v : Int} (h : u ≤ v) : (∀ w, u < w → w ≤ v → wR w = true) ↔ v ≤ u + (A u : Int) := by
  constructor
  · intro k
    refine Int.not_lt.mp fun h2 => ?_
    have := k (u + (A u : Int) + 1) (by omega) (by omega)
    rw [c.a2 u] at this
    cases this
  · intro k w h1 h2
    have := c.a1 u (w - u).toNat (by omega) (by omega)
    rwa [show u + ((w - u).toNat : Int) = w from by omega] at this
theorem dnB (c : Chn n wR wL rt A B) {u v : Int} (h : v ≤ u) : (∀ w, v ≤ w → w < u → wL w = true) ↔ u - (B u : Int) ≤ v := by
  constructor
  · intro k
    refine Int.not_lt.mp fun h2 => ?_
    have := k (u - (B u : Int) - 1) (by omega) (by omega)
    rw [c.b2 u] at this
    cases this
  · intro k w h1 h2
    have := c.b1 u (u - w).toNat (by omega) (by omega)
    rwa [show u - ((u - w).toNat : Int) = w from by omega] at this
def Path (wR wL : Int → Bool) (h v : Int) : Prop := (h ≤ v ∧ ∀ w, h < w → w ≤ v → wR w = true) ∨ (v ≤ h ∧ ∀ w, v ≤ w → w < h → wL w = true)
def Btw (h v u : Int) : Prop := (h ≤ u ∧ u ≤ v) ∨ (v ≤ u ∧ u ≤ h)
instance {h v u : Int} : Decidable (Btw h v u) := by unfold Btw; exact inferInstance
theorem hit_path (c : Chn n wR wL rt A B) {u v h : Int} (ht : rt h = true) (hp : Path wR wL h v) : Btw h v u ↔ hit A B u v = true := by
  unfold hit Btw
  rw [decide_eq_true_iff]
  constructor
  · rintro (⟨h1, h2⟩ | ⟨h1, h2⟩)
    · refine ⟨by omega, ?_⟩
      rcases hp with ⟨p1, p2⟩ | ⟨p1, p2⟩
      · exact (c.upA h2).mp fun w w1 w2 => p2 w (by omega) w2
      · omega
    · refine ⟨?_, by omega⟩
      rcases hp with ⟨p1, p2⟩ | ⟨p1, p2⟩
      · omega
      · exact (c.dnB h1).mp fun w w1 w2 => p2 w w1 (by omega)
  · rintro ⟨h1, h2⟩
    rcases Int.lt_trichotomy v u with e | e | e
    · have kl := (c.dnB (by omega)).mpr h1
      have hv := kl v (by omega) e
      rcases hp with ⟨p1, p2⟩ | ⟨p1, p2⟩
      · by_cases e2 : h = v
        · rw [e2] at ht
          exact (c.lr v hv ht).elim
        · exact (c.rl v (p2 v (by omega) (by omega)) hv).elim
      · refine .inr ⟨by omega, Int.not_lt.mp fun k => ?_⟩
        exact c.lr h (kl h p1 k) ht
    · rcases hp with ⟨p1, p2⟩ | ⟨p1, p2⟩
      · exact .inl ⟨by omega, by omega⟩
      · exact .inr ⟨by omega, by omega⟩
    · have kr := (c.upA (by omega)).mpr h2
      have hv := kr v e (by omega)
      rcases hp with ⟨p1, p2⟩ | ⟨p1, p2⟩
      · refine .inl ⟨Int.not_lt.mp fun k => ?_, by omega⟩
        exact c.rr h (kr h k p1) ht
      · by_cases e2 : h = v
        · rw [e2] at ht
          exact (c.rr v hv ht).elim
        · exact (c.rl v hv (p2 v (by omega) (by omega))).elim
theorem hits (c : Chn n wR wL rt A B) {U : List Int} (hU : U.Pairwise (· < ·)) (hm : ∀ x, x ∈ U ↔ own wR wL rt x = true) {u : Int} (hu : u ∈ U) : (U.filter (hit A B u)).length = 1 + A u + B u := by
  rw [show U.filter (hit A B u) = segI (u - (B u : Int)) (B u + 1 + A u) from lt_ext (hU.filter _) segI_lt fun x => ?_, segI_len]
  · omega
  · rw [List.mem_filter, segI_mem]
    unfold hit
    rw [decide_eq_true_iff]
    constructor
    · rintro ⟨h, h1, h2⟩
      omega
    · rintro ⟨h1, h2⟩
      refine ⟨?_, by omega, by omega⟩
      rcases Int.lt_trichotomy x u with e | e | e
      · refine (hm x).mpr ?_
        have := (c.dnB (u := u) (v := x) (by omega)).mpr (by omega) x (by omega) e
        simp [own, this]
      · rw [e]
        exact hu
      · refine (hm x).mpr ?_
        have := (c.upA (u := u) (v := x) (by omega)).mpr (by omega) x e (by omega)
        simp [own, this]
end Chn


section
variable {C : Store} {QD : D → Store → Prop} {x : D} {rs ls : List Int}
theorem unlikeP_ok (hx : IsSt C x rs ls) (v : Vs rs ls) (hl : lostOf rs ls = []) (q : QD (.cell C.length) (C ++ [iL (uniqI (owns rs ls))])) : W (m_unlike_owners [x] C) QD := by
  have t0 := v.top
  have oil : (ownIx rs ls).length ≤ rs.length := ownIx_len
  have hle : ((ownIx rs ls).map fun i : Nat => D.tup [.int i, .int (ownF rs ls i)]).length ≤ sizeLine := by
    rw [List.length_map]
    exact Nat.le_trans (by omega : (ownIx rs ls).length ≤ 10000) (by decide)
  unfold m_unlike_owners
  repeat' walk_at "ev"
  refine w_mSc ?_
  repeat' walk_at "ev"
  refine w_fzL ?_
  repeat' walk_at "ev"
  refine ownersC_ok hx v hl ⟨_, rfl, rfl, closedDs_own _ _, ?_⟩
  repeat' walk_at "ev"
  refine w_scA (l := ownIx rs ls) (p := fun _ => true) (f := ownF rs ls) (okG_nil _) (by omega) (fun i a ha => ?_) ?_
  · repeat' walk_at "ev"
    refine ⟨rfl, rfl, fun _ => ?_⟩
    repeat' walk_at "ev"
    exact ⟨rfl, rfl⟩
  rw [show (ownIx rs ls).filter (fun _ => true) = ownIx rs ls from List.filter_eq_self.mpr fun _ _ => rfl]
  refine w_sortSc (w_newC ?_)
  exact W.of (fin_cell0 (closedDs_ints _ _)) q
end


section
variable {rs ls : List Int} {n : Nat} {d : Int}
def nxW (rs : List Int) (w : Int) : Int := (duF rs w).2
def wtrs (rs ls : List Int) : List Int := (uniqI (owns rs ls)).filter fun w => !sureW rs ls w
theorem wt_pairs (v : Vs rs ls) {n : Int} (hn : n = rs.length - 1) (hl : lostOf rs ls = []) : (wtL rs ls).map dP = (wtrs rs ls).map fun w => D.tup [.int w, .int (nxW rs w)] := by
  rw [← due_wt v hn hl]
  unfold duL wtrs
  rw [List.map_map]
  rfl
theorem prs_ok : ∀ l : List Int, pairsD (l.map fun w => D.tup [.int w, .int (nxW rs w)]) = some (l.map fun w => (D.int w, D.int (nxW rs w)))
  | [] => rfl
  | w :: l => by
    show (pairsD (l.map fun w => D.tup [.int w, .int (nxW rs w)])).map _ = _
    rw [prs_ok l]
    rfl
theorem fks_ok : ∀ l : List Int, fkKeys (l.map fun w => (D.int w, D.int (nxW rs w))) = some (mapK l (nxW rs))
  | [] => rfl
  | w :: l => by
    show (keyOf (D.int w)).bind (fun k => (fkKeys (l.map fun w => (D.int w, D.int (nxW rs w)))).map ((k, D.int (nxW rs w)) :: ·)) = _
    rw [fks_ok l]
    rfl
theorem puts_ok {l : List Int} (hd : l.Nodup) {f : Int → Int} : putDs [] (mapK l f) = mapK l f := by
  unfold putDs
  conv => lhs; arg 3; unfold mapK
  rw [List.foldl_map]
  exact mapK_fold hd
theorem wtrs_mem (v : Vs rs ls) (hn : (n : Int) = rs.length - 1) (hl : lostOf rs ls = []) {w : Int} (hw : w ∈ owns rs ls) : w ∈ wtrs rs ls ↔ ¬ rtb rs ls n w = true := by
  unfold wtrs
  rw [List.mem_filter, uniqI_mem, rt_sure v hn hl]
  simp [hw]
theorem nx_R {w : Int} (h : wRb rs ls n w = true) : nxW rs w = w - 1 := by
  unfold nxW duF
  have := (wR_iff.mp h).2.2.1
  exact if_pos this
theorem nx_L {w : Int} (h : wLb rs ls n w = true) : nxW rs w = w + 1 := by
  unfold nxW duF
  have := (wL_iff.mp h).2.2.2.2
  exact if_neg this
/-- what has been counted when so many owners are through -/
def cnt (rs ls : List Int) (n : Nat) (i : Nat) (u : Int) : Int := (((uniqI (owns rs ls)).take i).filter (Chn.hit (wA rs ls n) (wB rs ls n) u)).length
theorem ite_iff {p q : Prop} [Decidable p] [Decidable q] {a b : Int} (h : p ↔ q) : (if p then a else b) = if q then a else b := by
  by_cases c : p
  · rw [if_pos c, if_pos (h.mp c)]
  · rw [if_neg c, if_neg fun k => c (h.mpr k)]
theorem mapK_cl (l : List Int) (f : Int → Int) : closedC 0 (.dk (mapK l f)) = true := by
  show closedDs 0 ((mapK l f).map (·.2)) = true
  rw [mapK_vals]
  exact closedDs_map (fun _ => rfl) l
variable {C : Store} {QD : D → Store → Prop} {x : D}
theorem burdens_ok (hx : IsSt C x rs ls) (v : Vs rs ls) (hn : (n : Int) = rs.length - 1) (hl : lostOf rs ls = []) (q : QD (.cell C.length) (C ++ [.dk (mapK (uniqI (owns rs ls)) fun u => 1 + (wA rs ls n u : Int) + wB rs ls n u)])) : W (m_burdens [x] C) QD := by
  have t0 := v.top
  have c := chn v hn hl
  have hnd : (uniqI (owns rs ls)).Nodup := uniq_nd
  have hlt := uniqI_lt (owns rs ls)
  have hle := uniq_few (rs := rs) (ls := ls)
  have hle2 : (uniqI (owns rs ls)).length ≤ 202 := by
    rw [own_seg v hn hl]
    exact Nat.le_trans (List.length_filter_le _ _) (by rw [segI_len]; omega)
  have hmem : ∀ z, z ∈ uniqI (owns rs ls) ↔ z ∈ owns rs ls := fun z => uniqI_mem
  have hown : ∀ z, z ∈ uniqI (owns rs ls) ↔ Chn.own (wRb rs ls n) (wLb rs ls n) (rtb rs ls n) z = true := fun z => by
    rw [own_seg v hn hl, List.mem_filter, segI_mem]
    refine ⟨fun h => h.2, fun h => ⟨?_, h⟩⟩
    unfold Chn.own at h
    simp only [Bool.or_eq_true] at h
    rcases h with (h | h) | h
    · have := c.rb z h; omega
    · have := c.lb z h; omega
    · have := c.tb z h; omega
  unfold m_burdens
  repeat' walk_at "ev"
  refine w_fzL ?_
  repeat' walk_at "ev"
  refine waits_ok hx v hn hl ⟨_, rfl, rfl, closedDs_dP _ _, ?_⟩
  rw [wt_pairs v hn hl]
  have hndw : (wtrs rs ls).Nodup := hnd.sublist List.filter_sublist
  repeat' walk_at "ev"
  refine w_dictK (kvs := mapK (wtrs rs ls) (nxW rs)) rfl (prs_ok _) (fks_ok _) ?_
  rw [puts_ok hndw]
  have hx1 := hx.app (X := [Cell.dk (mapK (wtrs rs ls) (nxW rs))])
  repeat' walk_at "ev"
  refine w_mDc ?_
  repeat' walk_at "ev"
  refine w_fzL ?_
  repeat' walk_at "ev"
  refine unlikeP_ok hx1 v hl ⟨_, rfl, rfl, closedDs_ints _ _, ?_⟩
  repeat' walk_at "ev"
  refine w_dcA (φ := D.int) (p := fun _ => true) (kf := fun a => Sum.inl a) (vf := fun _ => .int 0) (okG_nil _) (by omega) (fun i a h => ?_) ?_
  · repeat' walk_at "ev"
    refine ⟨rfl, rfl, fun _ => ?_⟩
    repeat' walk_at "ev"
    exact ⟨rfl, rfl, rfl⟩
  rw [filter_all, mapK_fold (f := fun _ => 0) hnd]
  rw [show mapK (uniqI (owns rs ls)) (fun _ => 0) = mapK (uniqI (owns rs ls)) (cnt rs ls n 0) from rfl]
  repeat' walk_at "ev"
  refine w_listDk at_app0 ?_
  rw [mapK_keys]
  refine w_newF ?_
  obtain ⟨C0, hC0⟩ : ∃ C0, C0 = C ++ [Cell.dk (mapK (wtrs rs ls) (nxW rs))] := ⟨_, rfl⟩
  have hA0 : C0[C.length]? = some (.dk (mapK (wtrs rs ls) (nxW rs))) := by rw [hC0]; exact at_app0
  rw [← hC0]
  repeat' walk_at "ev"
  refine w_forM (fun i sl C1 => ∃ x3 x4, sl = [some x, some (.cell C.length), some (.cell C0.length), x3, x4] ∧ C1 = C0 ++ [.dk (mapK (uniqI (owns rs ls)) (cnt rs ls n i))]) (fun _ _ _ _ => okG_nil _) ?_ ?_ ⟨_, _, rfl, rfl⟩
  · intro i d sl C1 hd hi
    obtain ⟨x3, x4, rfl, rfl⟩ := hi
    rw [List.getElem?_map, Option.map_eq_some_iff] at hd
    obtain ⟨w, hw, rfl⟩ := hd
    have hwm := List.mem_of_getElem? hw
    have hnext : ∀ u, cnt rs ls n (i + 1) u = cnt rs ls n i u + if Chn.hit (wA rs ls n) (wB rs ls n) u w = true then 1 else 0 := fun u => by
      unfold cnt
      rw [List.take_add_one, hw, Option.toList_some, List.filter_append, List.length_append, List.filter_cons]
      split <;> simp
    have hA1 : ∀ c1, (C0 ++ [c1])[C.length]? = some (.dk (mapK (wtrs rs ls) (nxW rs))) := fun c1 => by
      rw [List.getElem?_append_left (List.getElem?_eq_some_iff.mp hA0).1]
      exact hA0
    repeat' walk_at "ev"
    refine w_daddk ?_
    repeat' walk_at "ev"
    refine ⟨_, _, _, _, rfl, at_app0, rfl, by rw [mapK_val, if_pos hwm], ?_⟩
    repeat' walk_at "ev"
    refine ⟨_, _, rfl, at_app0, by rw [mapK_len]; exact Nat.lt_of_lt_of_le (by omega : (uniqI (owns rs ls)).length < 10000) (by decide), ?_⟩
    rw [set_app0, mapK_put hwm]
    rw [show (fun x => if x = w then cnt rs ls n i w + 1 else cnt rs ls n i x) = fun u => cnt rs ls n i u + if Chn.Btw w w u then 1 else 0 from by
      funext u
      by_cases e : u = w
      · rw [if_pos e, if_pos (by unfold Chn.Btw; omega), e]
      · rw [if_neg e, if_neg (by unfold Chn.Btw; omega), Int.add_zero]]
    refine w_while (fun k sl C2 => ∃ h, sl = [some x, some (.cell C.length), some (.cell C0.length), some (.int w), some (.int h)] ∧ C2 = C0 ++ [.dk (mapK (uniqI (owns rs ls)) fun u => cnt rs ls n i u + if Chn.Btw h w u then 1 else 0)] ∧ h ∈ uniqI (owns rs ls) ∧
      ((h ≤ w ∧ (∀ z, h < z → z ≤ w → wRb rs ls n z = true) ∧ ¬ wLb rs ls n w = true ∧ k = h.toNat) ∨ (w ≤ h ∧ (∀ z, w ≤ z → z < h → wLb rs ls n z = true) ∧ wLb rs ls n w = true ∧ k = (n + 1 - h).toNat))) ?_ (if wLb rs ls n w = true then (n + 1 - w).toNat else w.toNat) ?_ ⟨w, rfl, rfl, hwm, ?_⟩
    · intro k sl C2 hi
      obtain ⟨h, rfl, rfl, hm, hp⟩ := hi
      have hb := owns_in v hn h ((hmem h).mp hm)
      generalize hfk : mapK (uniqI (owns rs ls)) (fun u => cnt rs ls n i u + if Chn.Btw h w u then 1 else 0) = fk
      repeat' walk_at "ev"
      refine w_dinK ?_
      repeat' walk_at "ev"
      refine ⟨_, _, _, rfl, hA1 _, rfl, ?_⟩
      rw [mapK_val]
      refine ⟨_, rfl, ?_⟩
      rw [if_neg Bool.false_ne_true]
      by_cases hin : h ∈ wtrs rs ls
      · have hnr := (wtrs_mem v hn hl ((hmem h).mp hm)).mp hin
        have ho := (hown h).mp hm
        unfold Chn.own at ho
        simp only [Bool.or_eq_true] at ho
        have ho := ho.resolve_right hnr
        have hstep : ∃ h', nxW rs h = h' ∧ h' ∈ uniqI (owns rs ls) ∧ (∀ u, Chn.Btw h' w u ↔ Chn.Btw h w u ∨ u = h') ∧ ¬ Chn.Btw h w h' ∧ 0 < k ∧
            ((h' ≤ w ∧ (∀ z, h' < z → z ≤ w → wRb rs ls n z = true) ∧ ¬ wLb rs ls n w = true ∧ k - 1 = h'.toNat) ∨ (w ≤ h' ∧ (∀ z, w ≤ z → z < h' → wLb rs ls n z = true) ∧ wLb rs ls n w = true ∧ k - 1 = (n + 1 - h').toNat)) := by
          rcases hp with ⟨p1, p2, p3, p4⟩ | ⟨p1, p2, p3, p4⟩
          · have hR : wRb rs ls n h = true := ho.resolve_right fun hL => by
              by_cases e : h = w
              · exact p3 (e ▸ hL)
              · rcases c.r1 _ (p2 (h + 1) (by omega) (by omega)) with k | k
                · rw [show h + 1 - 1 = h from by omega] at k
                  exact c.rl h k hL
                · rw [show h + 1 - 1 = h from by omega] at k
                  exact c.lr h hL k
            refine ⟨h - 1, nx_R hR, (hown _).mpr ?_, fun u => ?_, ?_, ?_, .inl ⟨by omega, fun z z1 z2 => ?_, p3, by omega⟩⟩
            · unfold Chn.own
              rcases c.r1 _ hR with k | k <;> simp [k]
            · unfold Chn.Btw
              omega
            · unfold Chn.Btw
              omega
            · omega
            · by_cases e : z = h
              · rw [e]
                exact hR
              · exact p2 z (by omega) z2
          · have hL : wLb rs ls n h = true := ho.resolve_left fun hR => by
              by_cases e : h = w
              · exact c.rl h hR (e ▸ p3)
              · rcases c.l1 _ (p2 (h - 1) (by omega) (by omega)) with k | k
                · rw [show h - 1 + 1 = h from by omega] at k
                  exact c.rl h hR k
                · rw [show h - 1 + 1 = h from by omega] at k
                  exact c.rr h hR k
            refine ⟨h + 1, nx_L hL, (hown _).mpr ?_, fun u => ?_, ?_, ?_, .inr ⟨by omega, fun z z1 z2 => ?_, p3, by omega⟩⟩
            · unfold Chn.own
              rcases c.l1 _ hL with k | k <;> simp [k]
            · unfold Chn.Btw
              omega
            · unfold Chn.Btw
              omega
            · omega
            · by_cases e : z = h
              · rw [e]
                exact hL
              · exact p2 z z1 (by omega)
        obtain ⟨h', e1, e2, e3, e4, e5, e6⟩ := hstep
        rw [if_pos hin, if_pos (show (some (D.int (nxW rs h))).isSome = true from rfl)]
        refine ⟨e5, ?_⟩
        repeat' walk_at "ev"
        refine w_dgetK ?_
        repeat' walk_at "ev"
        refine ⟨_, _, _, _, rfl, hA1 _, rfl, by rw [mapK_val, if_pos hin], ?_⟩
        rw [e1]
        repeat' walk_at "ev"
        refine w_daddk ?_
        repeat' walk_at "ev"
        rw [← hfk]
        refine ⟨_, _, _, _, rfl, at_app0, rfl, by rw [mapK_val, if_pos e2], ?_⟩
        repeat' walk_at "ev"
        refine ⟨_, _, rfl, at_app0, by rw [mapK_len]; exact Nat.lt_of_lt_of_le (by omega : (uniqI (owns rs ls)).length < 10000) (by decide), ?_⟩
        rw [set_app0, mapK_put e2]
        refine ⟨h', rfl, ?_, e2, e6⟩
        refine congrArg (fun f => C0 ++ [Cell.dk (mapK (uniqI (owns rs ls)) f)]) (funext fun u => ?_)
        by_cases e : u = h'
        · rw [if_pos e, if_pos ((e3 u).mpr (.inr e)), e, if_neg e4, Int.add_zero]
        · rw [if_neg e]
          congr 1
          exact ite_iff ⟨fun k => (e3 u).mpr (.inl k), fun k => ((e3 u).mp k).resolve_right e⟩
      · rw [if_neg hin, if_neg (by exact Bool.false_ne_true)]
        have hr : rtb rs ls n h = true := Classical.byContradiction fun k => hin ((wtrs_mem v hn hl ((hmem h).mp hm)).mpr k)
        have hpath : Chn.Path (wRb rs ls n) (wLb rs ls n) h w := by
          rcases hp with ⟨p1, p2, -⟩ | ⟨p1, p2, -⟩
          · exact .inl ⟨p1, p2⟩
          · exact .inr ⟨p1, p2⟩
        refine ⟨_, _, rfl, ?_⟩
        rw [← hfk]
        refine congrArg (fun f => C0 ++ [Cell.dk (mapK (uniqI (owns rs ls)) f)]) (funext fun u => ?_)
        rw [hnext]
        congr 1
        exact ite_iff (c.hit_path hr hpath)
    · have hb := owns_in v hn w ((hmem w).mp hwm)
      split
      · omega
      · omega
    · by_cases e : wLb rs ls n w = true
      · rw [if_pos e]
        exact .inr ⟨Int.le_refl _, fun z z1 z2 => by omega, e, rfl⟩
      · rw [if_neg e]
        exact .inl ⟨Int.le_refl _, fun z z1 z2 => by omega, e, rfl⟩
  · intro sl C1 hi
    obtain ⟨x3, x4, rfl, rfl⟩ := hi
    rw [List.length_map]
    repeat' walk_at "ev"
    rw [show mapK (uniqI (owns rs ls)) (cnt rs ls n (uniqI (owns rs ls)).length) = mapK (uniqI (owns rs ls)) fun u => 1 + (wA rs ls n u : Int) + wB rs ls n u from by
      unfold mapK
      refine List.map_congr_left fun u hu => ?_
      unfold cnt
      rw [List.take_length, c.hits hlt hown hu]
      congr 2]
    rw [hC0, List.append_assoc, List.length_append]
    exact fin_one0 (k := 1) rfl (mapK_cl _ _) q
end


section
variable {rs ls : List Int} {n : Nat} {d : Int}
/-- the chains of the roots -/
def rtP (rs ls : List Int) (n : Nat) : List (Nat × Nat) := ((segI 1 n).filter (rtb rs ls n)).map fun d => (wA rs ls n d, wB rs ls n d)
variable {C : Store} {QD : D → Store → Prop} {x : D}
end


section
variable {rs ls : List Int}
theorem held_iff : heldB rs ls = true ↔ ∀ i, i < rs.length → wAt rs ls i = "held" := by
  unfold heldB
  rw [List.all_map, List.all_eq_true]
  constructor
  · intro h i hi
    exact of_decide_eq_true (h i (List.mem_range.mpr hi))
  · intro h i hi
    exact decide_eq_true (h i (List.mem_range.mp hi))
theorem own_none : (∀ x, x ∉ owns rs ls) ↔ heldB rs ls = true := by
  rw [held_iff]
  constructor
  · intro z i hi
    apply Classical.byContradiction
    intro c
    have hm : i ∈ ownIx rs ls := List.mem_filter.mpr ⟨List.mem_range.mpr hi, by simpa using c⟩
    exact z _ (List.mem_map.mpr ⟨i, hm, rfl⟩)
  · intro z x hx
    obtain ⟨i, hi, _⟩ := List.mem_map.mp hx
    obtain ⟨h1, h2⟩ := List.mem_filter.mp hi
    rw [z i (List.mem_range.mp h1)] at h2
    simp at h2
end
namespace Chn
variable {n : Nat} {wR wL rt : Int → Bool} {A B : Int → Nat}
theorem isA (c : Chn n wR wL rt A B) {d : Int} {a : Nat} (h1 : ∀ j : Nat, 1 ≤ j → j ≤ a → wR (d + j) = true) (h2 : ¬ wR (d + (a : Int) + 1) = true) : A d = a := by
  rcases Nat.lt_trichotomy (A d) a with e | e | e
  · exfalso
    have := h1 (A d + 1) (by omega) (by omega)
    rw [show d + ((A d + 1 : Nat) : Int) = d + (A d : Int) + 1 from by omega, c.a2 d] at this
    cases this
  · exact e
  · exfalso
    have := c.a1 d (a + 1) (by omega) (by omega)
    rw [show d + ((a + 1 : Nat) : Int) = d + (a : Int) + 1 from by omega] at this
    exact h2 this
theorem isB (c : Chn n wR wL rt A B) {d : Int} {a : Nat} (h1 : ∀ j : Nat, 1 ≤ j → j ≤ a → wL (d - j) = true) (h2 : ¬ wL (d - (a : Int) - 1) = true) : B d = a := by
  rcases Nat.lt_trichotomy (B d) a with e | e | e
  · exfalso
    have := h1 (B d + 1) (by omega) (by omega)
    rw [show d - ((B d + 1 : Nat) : Int) = d - (B d : Int) - 1 from by omega, c.b2 d] at this
    cases this
  · exact e
  · exfalso
    have := c.b1 d (a + 1) (by omega) (by omega)
    rw [show d - ((a + 1 : Nat) : Int) = d - (a : Int) - 1 from by omega] at this
    exact h2 this
end Chn
section
variable {rs ls rs' ls' : List Int} {n : Nat} {d u : Int}
/-- a root comes: who waited for it waits no longer -/
theorem coming (v : Vs rs ls) (hn : (n : Int) = rs.length - 1) (hl : lostOf rs ls = []) (hr : rtb rs ls n d = true) (e : step (rs, ls) ("come", d) = (rs', ls')) :
    (∀ u, wRb rs' ls' n u = true ↔ wRb rs ls n u = true ∧ u ≠ d + 1) ∧ (∀ u, wLb rs' ls' n u = true ↔ wLb rs ls n u = true ∧ u ≠ d - 1) := by
  obtain ⟨ho, hs⟩ := (rt_sure v hn hl).mp hr
  obtain ⟨s1, s2⟩ := sureW_iff.mp hs
  have hb := owns_in v hn d ho
  have vl := v.len
  have eR : doR (rs, ls) (("come", d) : Dd) = d + 1 := s2
  have eL : doL (rs, ls) (("come", d) : Dd) = d - 1 := s1
  unfold step at e
  have hcg : ¬ (("come", d) : Dd).1 = "go" := show ¬ (("come" : Str) = "go") from by decide
  rw [eR, eL, if_neg hcg, if_neg hcg, show d + 1 - 1 = d from by omega] at e
  obtain ⟨rfl, rfl⟩ := Prod.mk.inj e
  have hR : ∀ b : Int, 0 ≤ b → Rr (rs.set (d - 1).toNat d, ls.set d.toNat d) b = if b = d - 1 then d else Rr (rs, ls) b := fun b b0 =>
    Rr_set (rs := rs) (ls := ls) (i := d - 1) (x := d) (b := b) (by omega) (by omega) b0
  have hL : ∀ b : Int, 0 ≤ b → Ll (rs.set (d - 1).toNat d, ls.set d.toNat d) b = if b = d then d else Ll (rs, ls) b := fun b b0 =>
    Ll_set (rs := rs) (ls := ls) (i := d) (x := d) (b := b) (by omega) (by omega) b0
  refine ⟨fun u => ?_, fun u => ?_⟩
  · rw [wR_iff, wR_iff]
    constructor
    · rintro ⟨u0, u1, h1, h2, h3⟩
      rw [hL u (by omega)] at h2
      rw [hL (u - 1) (by omega)] at h3
      rw [hR u (by omega)] at h1
      by_cases c1 : u = d
      · rw [if_pos c1] at h2
        omega
      by_cases c2 : u - 1 = d
      · rw [if_pos c2] at h3
        omega
      rw [if_neg c1] at h2
      rw [if_neg c2] at h3
      by_cases c3 : u = d - 1
      · rw [c3] at h2
        exact absurd s1 h2
      rw [if_neg c3] at h1
      exact ⟨⟨u0, u1, h1, h2, h3⟩, by omega⟩
    · rintro ⟨⟨u0, u1, h1, h2, h3⟩, h4⟩
      have c1 : ¬ u = d := fun c => by
        rw [c] at h3
        exact h3 s1
      have c3 : ¬ u = d - 1 := fun c => by
        rw [c] at h2
        exact h2 s1
      rw [hL u (by omega), hL (u - 1) (by omega), hR u (by omega), if_neg c1, if_neg c3, if_neg (by omega)]
      exact ⟨u0, u1, h1, h2, h3⟩
  · rw [wL_iff, wL_iff]
    constructor
    · rintro ⟨u0, u1, h1, h2, h3⟩
      rw [hL (u - 1) (by omega)] at h1
      rw [hR (u - 1) (by omega)] at h2
      rw [hR u (by omega)] at h3
      by_cases c1 : u - 1 = d - 1
      · rw [if_pos c1] at h2
        omega
      by_cases c2 : u = d - 1
      · rw [if_pos c2] at h3
        omega
      rw [if_neg c1] at h2
      rw [if_neg c2] at h3
      by_cases c3 : u - 1 = d
      · rw [show u - 1 = d from c3, s2] at h2
        omega
      rw [if_neg c3] at h1
      exact ⟨⟨u0, u1, h1, h2, h3⟩, c2⟩
    · rintro ⟨⟨u0, u1, h1, h2, h3⟩, h4⟩
      have c1 : ¬ u - 1 = d - 1 := fun c => by
        rw [show u = d from by omega] at h3
        exact h3 s2
      have c3 : ¬ u - 1 = d := fun c => by
        rw [c, s2] at h2
        omega
      rw [hL (u - 1) (by omega), hR (u - 1) (by omega), hR u (by omega), if_neg c3, if_neg c1, if_neg h4]
      exact ⟨u0, u1, h1, h2, h3⟩
/-- the others' burdens stay -/
theorem coming_AB (v : Vs rs ls) (hn : (n : Int) = rs.length - 1) (hl : lostOf rs ls = []) (hr : rtb rs ls n d = true) (e : step (rs, ls) ("come", d) = (rs', ls')) (v' : Vs rs' ls') (hn' : (n : Int) = rs'.length - 1) (hl' : lostOf rs' ls' = []) (hu : u ≠ d) :
    wA rs' ls' n u = wA rs ls n u ∧ wB rs' ls' n u = wB rs ls n u := by
  obtain ⟨k1, k2⟩ := coming v hn hl hr e
  have c := chn v hn hl
  have c' := chn v' hn' hl'
  refine ⟨c'.isA (fun j j0 j1 => ?_) fun k => ?_, c'.isB (fun j j0 j1 => ?_) fun k => ?_⟩
  · refine (k1 _).mpr ⟨c.a1 u j j0 j1, fun e => ?_⟩
    by_cases h : j = 1
    · omega
    · have := c.a1 u (j - 1) (by omega) (by omega)
      rw [show u + ((j - 1 : Nat) : Int) = d from by omega] at this
      exact c.rr d this hr
  · have := ((k1 _).mp k).1
    rw [c.a2 u] at this
    cases this
  · refine (k2 _).mpr ⟨c.b1 u j j0 j1, fun e => ?_⟩
    by_cases h : j = 1
    · omega
    · have := c.b1 u (j - 1) (by omega) (by omega)
      rw [show u - ((j - 1 : Nat) : Int) = d from by omega] at this
      exact c.lr d this hr
  · have := ((k2 _).mp k).1
    rw [c.b2 u] at this
    cases this
end
def sumN : List Nat → Nat
  | [] => 0
  | x :: r => x + sumN r
theorem sumN_mul {α : Type} (f g : α → Nat) (a b : Nat) : ∀ l : List α, (∀ x ∈ l, f x * a = b * g x) → sumN (l.map f) * a = b * sumN (l.map g)
  | [], _ => by simp [sumN]
  | x :: l, h => by
    rw [List.map_cons, List.map_cons, sumN, sumN, Nat.add_mul, Nat.mul_add, h x List.mem_cons_self, sumN_mul f g a b l fun y hy => h y (List.mem_cons_of_mem _ hy)]
theorem prod_less {f : Int → Nat} {d : Int} : ∀ l : List Int, l.Nodup → d ∈ l → prodN (l.map f) = f d * prodN ((l.filter fun x => decide (x ≠ d)).map f)
  | x :: l, hn, h => by
    have hn := List.nodup_cons.mp hn
    rw [List.map_cons, prodN]
    by_cases c : x = d
    · subst c
      rw [List.filter_cons_of_neg (by simp), List.filter_eq_self.mpr fun y hy => by
        rw [decide_eq_true_iff]
        rintro rfl
        exact hn.1 hy]
    · rw [List.filter_cons_of_pos (by simpa using c), List.map_cons, prodN, prod_less l hn.2 ((List.mem_cons.mp h).resolve_left fun e => c e.symm), Nat.mul_left_comm]
theorem prod_len {d : Int} : ∀ l : List Int, l.Nodup → d ∈ l → l.length = 1 + (l.filter fun x => decide (x ≠ d)).length
  | x :: l, hn, h => by
    have hn := List.nodup_cons.mp hn
    by_cases c : x = d
    · subst c
      rw [List.filter_cons_of_neg (by simp), List.filter_eq_self.mpr fun y hy => by
        rw [decide_eq_true_iff]
        rintro rfl
        exact hn.1 hy, List.length_cons, Nat.add_comm]
    · rw [List.filter_cons_of_pos (by simpa using c), List.length_cons, List.length_cons, prod_len l hn.2 ((List.mem_cons.mp h).resolve_left fun e => c e.symm)]
      omega
/-- in how many orders the owners come, each knowing both its borders then -/
def cntT : Nat → List Int × List Int → List Int → Nat
  | 0, _, _ => 0
  | k + 1, p, left => if left = [] then (if heldB p.1 p.2 = true then 1 else 0) else sumN ((left.filter fun d => sureW p.1 p.2 d).map fun d => cntT k (step p ("come", d)) (left.filter fun x => decide (x ≠ d)))
theorem sizeP_sum (f : Int → Nat × Nat) : ∀ l : List Int, sizeP (l.map f) = sumN (l.map fun d => 1 + (f d).1 + (f d).2)
  | [] => rfl
  | x :: l => by
    rw [List.map_cons, List.map_cons, sizeP, sumN, sizeP_sum f l]
    omega
theorem counted_all {n : Nat} : ∀ (k : Nat) (rs ls : List Int), Vs rs ls → (n : Int) = rs.length - 1 → lostOf rs ls = [] → (uniqI (owns rs ls)).length ≤ k →
    cntT (k + 1) (rs, ls) (uniqI (owns rs ls)) * prodN ((uniqI (owns rs ls)).map fun u => 1 + wA rs ls n u + wB rs ls n u) = facN (uniqI (owns rs ls)).length
  | k, rs, ls, v, hn, hl, hk => by
    have c := chn v hn hl
    have hseg := own_seg v hn hl
    by_cases he : uniqI (owns rs ls) = []
    · unfold cntT
      rw [if_pos he, he]
      have hh : heldB rs ls = true := own_none.mp fun x hx => by
        have := uniqI_mem.mpr hx
        rw [he] at this
        exact nomatch this
      rw [if_pos hh]
      rfl
    · obtain ⟨k, rfl⟩ : ∃ k', k = k' + 1 := ⟨k - 1, by
        have : (uniqI (owns rs ls)).length ≠ 0 := fun e => he (List.length_eq_zero_iff.mp e)
        omega⟩
      have hN : (uniqI (owns rs ls)).length ≠ 0 := fun e => he (List.length_eq_zero_iff.mp e)
      have hrs : (uniqI (owns rs ls)).filter (fun d => sureW rs ls d) = (segI 1 n).filter (rtb rs ls n) := lt_ext ((uniqI_lt _).filter _) (segI_lt.filter _) fun x => by
        rw [List.mem_filter, List.mem_filter, uniqI_mem, segI_mem, rt_sure v hn hl]
        constructor
        · rintro ⟨h1, h2⟩
          have := owns_in v hn x h1
          exact ⟨by omega, h1, h2⟩
        · rintro ⟨-, h1, h2⟩
          exact ⟨h1, h2⟩
      unfold cntT
      rw [if_neg he]
      show sumN (((uniqI (owns rs ls)).filter fun d => sureW rs ls d).map _) * _ = _
      rw [hrs]
      rw [sumN_mul _ (fun d => 1 + wA rs ls n d + wB rs ls n d) _ (facN ((uniqI (owns rs ls)).length - 1)) _ fun d hd => ?_]
      · have hz := (c.main n 1 (by omega)).2
        have e1 : wRb rs ls n 1 = false := by
          cases e : wRb rs ls n 1 with
          | false => rfl
          | true =>
            rcases c.r1 _ e with h | h
            · have := c.rb _ h; omega
            · have := c.tb _ h; omega
        have e2 : wLb rs ls n (1 - 1) = false := by
          cases e : wLb rs ls n (1 - 1) with
          | false => rfl
          | true => have := c.lb _ e; omega
        rw [c.B0 e2, e1, if_neg Bool.false_ne_true, Nat.add_zero, Nat.add_zero, ← hseg, sizeP_sum] at hz
        rw [← hz]
        obtain ⟨N, eN⟩ : ∃ N, (uniqI (owns rs ls)).length = N + 1 := ⟨(uniqI (owns rs ls)).length - 1, by omega⟩
        rw [eN, Nat.add_sub_cancel, facN, Nat.mul_comm]
      · obtain ⟨hd1, hd2⟩ := List.mem_filter.mp hd
        obtain ⟨ho, hs⟩ := (rt_sure v hn hl).mp hd2
        have hb := owns_in v hn d ho
        obtain ⟨hl', ho'⟩ := own_less v hn hb hl ho (sureW_iff.mp hs)
        obtain ⟨v', l'⟩ := step_vs (n := n) (e := ("come", d)) v hn ⟨.inr rfl, hb.1, hb.2⟩
        generalize hp : step (rs, ls) (("come", d) : Dd) = p at *
        obtain ⟨rs', ls'⟩ := p
        have v' : Vs rs' ls' := v'
        have l' : rs'.length = rs.length := l'
        have hl' : lostOf rs' ls' = [] := hl'
        have hn' : (n : Int) = rs'.length - 1 := by omega
        have hU : (uniqI (owns rs ls)).filter (fun x => decide (x ≠ d)) = uniqI (owns rs' ls') := lt_ext ((uniqI_lt _).filter _) (uniqI_lt _) fun x => by
          rw [List.mem_filter, uniqI_mem, uniqI_mem, decide_eq_true_iff]
          exact ⟨fun h => (ho' x).mpr ⟨h.2, h.1⟩, fun h => ⟨((ho' x).mp h).2, ((ho' x).mp h).1⟩⟩
        have hlen : (uniqI (owns rs' ls')).length + 1 = (uniqI (owns rs ls)).length := by
          rw [← hU]
          have := prod_len (uniqI (owns rs ls)) uniq_nd (uniqI_mem.mpr ho)
          omega
        have ih := counted_all k rs' ls' v' hn' hl' (by omega)
        show cntT (k + 1) (rs', ls') _ * _ = _
        rw [prod_less _ uniq_nd (uniqI_mem.mpr ho), hU, Nat.mul_left_comm]
        rw [show (uniqI (owns rs' ls')).map (fun u => 1 + wA rs ls n u + wB rs ls n u) = (uniqI (owns rs' ls')).map fun u => 1 + wA rs' ls' n u + wB rs' ls' n u from List.map_congr_left fun u hu => by
          have hud := ((ho' u).mp (uniqI_mem.mp hu)).1
          obtain ⟨a1, a2⟩ := coming_AB v hn hl hd2 hp v' hn' hl' hud
          rw [a1, a2], ih, show (uniqI (owns rs' ls')).length = (uniqI (owns rs ls)).length - 1 from by omega, Nat.mul_comm]
  termination_by k => k
theorem counted_weave {n k : Nat} {rs ls : List Int} (v : Vs rs ls) (hn : (n : Int) = rs.length - 1) (hl : lostOf rs ls = []) (hk : (uniqI (owns rs ls)).length ≤ k) : cntT (k + 1) (rs, ls) (uniqI (owns rs ls)) = weaveP 0 (rtP rs ls n) := by
  have c := chn v hn hl
  have hseg := own_seg v hn hl
  have h1 := counted_all (n := n) k rs ls v hn hl hk
  have h2 := c.main n 1 (by omega)
  have e1 : wRb rs ls n 1 = false := by
    cases e : wRb rs ls n 1 with
    | false => rfl
    | true =>
      rcases c.r1 _ e with h | h
      · have := c.rb _ h; omega
      · have := c.tb _ h; omega
  have e2 : wLb rs ls n (1 - 1) = false := by
    cases e : wLb rs ls n (1 - 1) with
    | false => rfl
    | true => have := c.lb _ e; omega
  rw [c.B0 e2, e1, if_neg Bool.false_ne_true, Nat.add_zero, Nat.add_zero, ← hseg, show facN 0 = 1 from rfl, Nat.mul_one, Nat.mul_one] at h2
  have h3 := weave_hook (rtP rs ls n) 0
  rw [show facN 0 = 1 from rfl, Nat.mul_one, Nat.zero_add] at h3
  obtain ⟨g1, g2⟩ := h2
  rw [g1] at h1
  rw [g2] at h1
  exact Nat.eq_of_mul_eq_mul_right (hookP_pos _) (h1.trans h3.symm)






section
variable {m n : Nat} {S : Cell} {QD : D → Store → Prop}
end


section
variable {n : Nat} {p : List Int × List Int} {d u : Int}
/-- a stand of n dancers of which nothing is forgotten -/
structure Fine (n : Nat) (p : List Int × List Int) : Prop where
  v : Vs p.1 p.2
  hn : (n : Int) = p.1.length - 1
  hl : lostOf p.1 p.2 = []
def unP (p : List Int × List Int) : List Int := uniqI (owns p.1 p.2)
/-- so many mendings are tidy -/
def cP (n : Nat) (p : List Int × List Int) : Nat := weaveP 0 (rtP p.1 p.2 n)
def rtsP (p : List Int × List Int) : List Int := (unP p).filter fun d => sureW p.1 p.2 d
def cmP (p : List Int × List Int) (d : Int) : List Int × List Int := step p ("come", d)
def hkP (n : Nat) (p : List Int × List Int) (u : Int) : Nat := 1 + wA p.1 p.2 n u + wB p.1 p.2 n u
theorem rts_mem : d ∈ rtsP p ↔ d ∈ owns p.1 p.2 ∧ sureW p.1 p.2 d = true := by
  unfold rtsP unP
  rw [List.mem_filter, uniqI_mem]
theorem un_nd : (unP p).Nodup := uniq_nd
theorem un_lt : (unP p).Pairwise (· < ·) := uniqI_lt _
theorem Fine.un_in (h : Fine n p) (hd : d ∈ unP p) : 1 ≤ d ∧ d ≤ n := by
  have := owns_in h.v h.hn d (uniqI_mem.mp hd)
  omega
theorem rts_in (hd : d ∈ rtsP p) : d ∈ unP p := (List.mem_filter.mp hd).1
theorem Fine.rt (h : Fine n p) : rtb p.1 p.2 n d = true ↔ d ∈ rtsP p := by
  rw [rt_sure h.v h.hn h.hl, rts_mem]
theorem Fine.cm (h : Fine n p) (hd : d ∈ rtsP p) : Fine n (cmP p d) ∧ unP (cmP p d) = (unP p).filter (fun x => decide (x ≠ d)) ∧ (unP (cmP p d)).length + 1 = (unP p).length := by
  obtain ⟨rs, ls⟩ := p
  obtain ⟨ho, hs⟩ := rts_mem.mp hd
  have v : Vs rs ls := h.v
  have hn : (n : Int) = rs.length - 1 := h.hn
  have hl : lostOf rs ls = [] := h.hl
  have hb := owns_in v hn d ho
  obtain ⟨hl', ho'⟩ := own_less v hn hb hl ho (sureW_iff.mp hs)
  obtain ⟨v', l'⟩ := step_vs (n := n) (e := ("come", d)) v hn ⟨.inr rfl, hb.1, hb.2⟩
  have e : unP (cmP (rs, ls) d) = (unP (rs, ls)).filter (fun x => decide (x ≠ d)) := lt_ext (uniqI_lt _) ((uniqI_lt _).filter _) fun x => by
    rw [List.mem_filter, decide_eq_true_iff]
    unfold unP cmP
    rw [uniqI_mem, uniqI_mem]
    exact ⟨fun h => ⟨((ho' x).mp h).2, ((ho' x).mp h).1⟩, fun h => (ho' x).mpr ⟨h.2, h.1⟩⟩
  refine ⟨⟨v', ?_, hl'⟩, e, ?_⟩
  · show (n : Int) = ((step (rs, ls) ("come", d)).1.length : Int) - 1
    rw [l']
    exact hn
  · rw [e]
    have := prod_len (unP (rs, ls)) un_nd (uniqI_mem.mpr ho)
    omega
theorem Fine.few (h : Fine n p) : (unP p).length ≤ n := by
  unfold unP
  rw [own_seg h.v h.hn h.hl]
  exact Nat.le_trans (List.length_filter_le _ _) (by rw [segI_len]; omega)
theorem Fine.cmW (h : Fine n p) (hd : d ∈ rtsP p) : (∀ u, wRb (cmP p d).1 (cmP p d).2 n u = true ↔ wRb p.1 p.2 n u = true ∧ u ≠ d + 1) ∧ (∀ u, wLb (cmP p d).1 (cmP p d).2 n u = true ↔ wLb p.1 p.2 n u = true ∧ u ≠ d - 1) :=
  coming (rs := p.1) (ls := p.2) h.v h.hn h.hl (h.rt.mpr hd) rfl
theorem Fine.cmH (h : Fine n p) (hd : d ∈ rtsP p) (hu : u ≠ d) : hkP n (cmP p d) u = hkP n p u := by
  have h2 := (h.cm hd).1
  obtain ⟨a1, a2⟩ := coming_AB (rs := p.1) (ls := p.2) h.v h.hn h.hl (h.rt.mpr hd) (rs' := (cmP p d).1) (ls' := (cmP p d).2) rfl h2.v h2.hn h2.hl hu
  unfold hkP
  rw [a1, a2]
theorem prodN_pos : ∀ {l : List Nat}, (∀ x ∈ l, 0 < x) → 0 < prodN l
  | [], _ => Nat.one_pos
  | x :: l, h => Nat.mul_pos (h x List.mem_cons_self) (prodN_pos fun y hy => h y (List.mem_cons_of_mem _ hy))
theorem Fine.prod (h : Fine n p) : cP n p * prodN ((unP p).map (hkP n p)) = facN (unP p).length := by
  have h1 := counted_all (n := n) (uniqI (owns p.1 p.2)).length p.1 p.2 h.v h.hn h.hl (Nat.le_refl _)
  rw [counted_weave h.v h.hn h.hl (Nat.le_refl _)] at h1
  exact h1
theorem Fine.pos (h : Fine n p) : 0 < cP n p := by
  have := h.prod
  have h2 := facN_pos (unP p).length
  rw [← this] at h2
  exact Nat.pos_of_ne_zero fun e => by
    rw [e, Nat.zero_mul] at h2
    omega
theorem Fine.share (h : Fine n p) (hd : d ∈ rtsP p) : cP n p * hkP n p d = (unP p).length * cP n (cmP p d) := by
  obtain ⟨h', e, hlen⟩ := h.cm hd
  have h1 := h.prod
  have h2 := h'.prod
  rw [prod_less (f := hkP n p) (d := d) _ un_nd (rts_in hd), ← e] at h1
  rw [show (unP (cmP p d)).map (hkP n (cmP p d)) = (unP (cmP p d)).map (hkP n p) from List.map_congr_left fun u hu => by
    rw [e, List.mem_filter, decide_eq_true_iff] at hu
    exact h.cmH hd hu.2] at h2
  rw [← hlen] at h1 ⊢
  have h3 : facN ((unP (cmP p d)).length + 1) = ((unP (cmP p d)).length + 1) * facN (unP (cmP p d)).length := rfl
  rw [h3, ← h2] at h1
  have hp : 0 < prodN ((unP (cmP p d)).map (hkP n p)) := prodN_pos fun x hx => by
    obtain ⟨u, _, rfl⟩ := List.mem_map.mp hx
    unfold hkP
    omega
  refine Nat.eq_of_mul_eq_mul_right hp ?_
  rw [Nat.mul_assoc, h1, Nat.mul_assoc]
theorem Fine.sum (h : Fine n p) (h0 : unP p ≠ []) : cP n p = sumN ((rtsP p).map fun d => cP n (cmP p d)) := by
  have hN : (unP p).length ≠ 0 := fun e => h0 (List.length_eq_zero_iff.mp e)
  obtain ⟨k, hk⟩ : ∃ k, (unP p).length = k + 1 := ⟨(unP p).length - 1, by omega⟩
  have h1 := counted_weave (n := n) (k := k + 1) h.v h.hn h.hl (show (unP p).length ≤ k + 1 by omega)
  show weaveP 0 (rtP p.1 p.2 n) = _
  rw [← h1]
  unfold cntT
  rw [if_neg (show ¬ uniqI (owns p.1 p.2) = [] from h0)]
  show sumN ((rtsP p).map _) = _
  congr 1
  refine List.map_congr_left fun d hd => ?_
  obtain ⟨h', e, hlen⟩ := h.cm hd
  rw [← show unP (cmP p d) = (uniqI (owns p.1 p.2)).filter (fun x => decide (x ≠ d)) from e]
  exact counted_weave (n := n) (k := k) h'.v h'.hn h'.hl (show (unP (cmP p d)).length ≤ k by omega)
/-- who comes next by shares -/
def pickT : List (Int × Nat) → Nat → Int × Nat × Nat
  | [], _ => (0, 0, 0)
  | x :: r, i => if i < x.2 then (x.1, x.2, i) else pickT r (i - x.2)
theorem pick_ok : ∀ {l : List (Int × Nat)} {i : Nat}, i < sumN (l.map (·.2)) → ((pickT l i).1, (pickT l i).2.1) ∈ l ∧ (pickT l i).2.2 < (pickT l i).2.1
  | [], _, h => nomatch h
  | x :: r, i, h => by
    unfold pickT
    by_cases c : i < x.2
    · rw [if_pos c]
      exact ⟨List.mem_cons_self, c⟩
    · rw [if_neg c]
      have h : i < x.2 + sumN (r.map (·.2)) := h
      have := pick_ok (l := r) (i := i - x.2) (by omega)
      exact ⟨List.mem_cons_of_mem _ this.1, this.2⟩
def shP (n : Nat) (p : List Int × List Int) : List (Int × Nat) := (rtsP p).map fun d => (d, cP n (cmP p d))
/-- the i-th tidy mending of k comings -/
def nthT (n : Nat) : Nat → List Int × List Int → Nat → List Int
  | 0, _, _ => []
  | k + 1, p, i => (pickT (shP n p) i).1 :: nthT n k (cmP p (pickT (shP n p) i).1) (pickT (shP n p) i).2.2
theorem Fine.pick (h : Fine n p) (h0 : unP p ≠ []) {i : Nat} (hi : i < cP n p) : (pickT (shP n p) i).1 ∈ rtsP p ∧ (pickT (shP n p) i).2.1 = cP n (cmP p (pickT (shP n p) i).1) ∧ (pickT (shP n p) i).2.2 < cP n (cmP p (pickT (shP n p) i).1) ∧ i < sumN ((shP n p).map (·.2)) := by
  have hs : i < sumN ((shP n p).map (·.2)) := by
    unfold shP
    rw [List.map_map]
    rw [h.sum h0] at hi
    exact hi
  obtain ⟨h1, h2⟩ := pick_ok hs
  unfold shP at h1
  obtain ⟨d, hd, e⟩ := List.mem_map.mp h1
  obtain ⟨e1, e2⟩ := Prod.mk.inj e
  change cP n (cmP p d) = (pickT (shP n p) i).2.1 at e2
  change d = (pickT (shP n p) i).1 at e1
  rw [← e1, e2]
  exact ⟨hd, rfl, h2, hs⟩
end
/-- what the first stand tells of a later one: who still waits -/
structure Later (n : Nat) (p0 p : List Int × List Int) : Prop where
  f : Fine n p
  sub : ∀ u ∈ unP p, u ∈ unP p0
  wr : ∀ u ∈ unP p, (wRb p.1 p.2 n u = true ↔ wRb p0.1 p0.2 n u = true ∧ u - 1 ∈ unP p)
  wl : ∀ u ∈ unP p, (wLb p.1 p.2 n u = true ↔ wLb p0.1 p0.2 n u = true ∧ u + 1 ∈ unP p)
  hk : ∀ u ∈ unP p, hkP n p u = hkP n p0 u
section
variable {n : Nat} {p0 p : List Int × List Int} {d u : Int}
theorem own_un (h : Fine n p) : u ∈ unP p ↔ Chn.own (wRb p.1 p.2 n) (wLb p.1 p.2 n) (rtb p.1 p.2 n) u = true := by
  unfold unP
  rw [own_seg h.v h.hn h.hl, List.mem_filter, segI_mem]
  refine ⟨fun h => h.2, fun k => ⟨?_, k⟩⟩
  have c := chn h.v h.hn h.hl
  unfold Chn.own at k
  simp only [Bool.or_eq_true] at k
  rcases k with (k | k) | k
  · have := c.rb u k; omega
  · have := c.lb u k; omega
  · have := c.tb u k; omega
theorem Fine.later (h : Fine n p) : Later n p p := by
  have c := chn h.v h.hn h.hl
  refine ⟨h, fun _ h => h, fun u hu => ⟨fun k => ⟨k, (own_un h).mpr ?_⟩, fun k => k.1⟩, fun u hu => ⟨fun k => ⟨k, (own_un h).mpr ?_⟩, fun k => k.1⟩, fun _ _ => rfl⟩
  · unfold Chn.own
    rcases c.r1 u k with k | k <;> simp [k]
  · unfold Chn.own
    rcases c.l1 u k with k | k <;> simp [k]
theorem Later.cm (h : Later n p0 p) (hd : d ∈ rtsP p) : Later n p0 (cmP p d) := by
  obtain ⟨h', e, hlen⟩ := h.f.cm hd
  obtain ⟨k1, k2⟩ := h.f.cmW hd
  have hm : ∀ u, u ∈ unP (cmP p d) ↔ u ∈ unP p ∧ u ≠ d := fun u => by rw [e, List.mem_filter, decide_eq_true_iff]
  refine ⟨h', fun u hu => h.sub u ((hm u).mp hu).1, fun u hu => ?_, fun u hu => ?_, fun u hu => ?_⟩
  · rw [k1, h.wr u ((hm u).mp hu).1, hm]
    constructor
    · rintro ⟨⟨a, b⟩, c⟩
      exact ⟨a, b, by omega⟩
    · rintro ⟨a, b, c⟩
      exact ⟨⟨a, b⟩, by omega⟩
  · rw [k2, h.wl u ((hm u).mp hu).1, hm]
    constructor
    · rintro ⟨⟨a, b⟩, c⟩
      exact ⟨a, b, by omega⟩
    · rintro ⟨a, b, c⟩
      exact ⟨⟨a, b⟩, by omega⟩
  · rw [h.f.cmH hd ((hm u).mp hu).2, h.hk u ((hm u).mp hu).1]
/-- who may come: whoever waits for nobody that is left -/
theorem Later.may (h0 : Fine n p0) (h : Later n p0 p) (hu : u ∈ unP p) : sureW p.1 p.2 u = true ↔ ¬ (u ∈ wtrs p0.1 p0.2 ∧ nxW p0.1 u ∈ unP p) := by
  have hr := h.f.rt (d := u)
  rw [rts_mem, rt_iff, h.wr u hu, h.wl u hu] at hr
  have ho := uniqI_mem.mp hu
  have h3 : sureW p.1 p.2 u = true ↔ ¬ (wRb p0.1 p0.2 n u = true ∧ u - 1 ∈ unP p) ∧ ¬ (wLb p0.1 p0.2 n u = true ∧ u + 1 ∈ unP p) :=
    ⟨fun k => (hr.mpr ⟨ho, k⟩).2, fun k => (hr.mp ⟨ho, k⟩).2⟩
  rw [h3, wtrs_mem h0.v h0.hn h0.hl (uniqI_mem.mp (h.sub u hu))]
  have hown := (own_un h0).mp (h.sub u hu)
  have c := chn h0.v h0.hn h0.hl
  unfold Chn.own at hown
  simp only [Bool.or_eq_true] at hown
  constructor
  · rintro ⟨a, b⟩ ⟨e, m⟩
    rcases hown with (k | k) | k
    · rw [nx_R k] at m
      exact a ⟨k, m⟩
    · rw [nx_L k] at m
      exact b ⟨k, m⟩
    · exact e k
  · intro k
    refine ⟨fun a => k ⟨fun r => c.rr u a.1 r, ?_⟩, fun a => k ⟨fun r => c.lr u a.1 r, ?_⟩⟩
    · rw [nx_R a.1]
      exact a.2
    · rw [nx_L a.1]
      exact a.2
theorem Later.roots (h0 : Fine n p0) (h : Later n p0 p) : (unP p0).filter (fun u => decide (u ∈ unP p) && !(decide (u ∈ wtrs p0.1 p0.2) && decide (nxW p0.1 u ∈ unP p))) = rtsP p := by
  refine lt_ext (un_lt.filter _) (un_lt.filter _) fun u => ?_
  rw [List.mem_filter, show (u ∈ rtsP p) = (u ∈ (unP p).filter fun d => sureW p.1 p.2 d) from rfl, List.mem_filter, Bool.and_eq_true, decide_eq_true_iff, Bool.not_eq_true', Bool.and_eq_false_iff, decide_eq_false_iff_not, decide_eq_false_iff_not]
  constructor
  · rintro ⟨_, hu, k⟩
    exact ⟨hu, (h.may h0 hu).mpr fun m => k.elim (fun a => a m.1) fun a => a m.2⟩
  · rintro ⟨hu, k⟩
    have := (h.may h0 hu).mp k
    exact ⟨h.sub u hu, hu, Classical.or_iff_not_imp_left.mpr fun a b => this ⟨Classical.not_not.mp a, b⟩⟩
/-- left out of a dict of numbers -/
theorem mapK_drop {l : List Int} {f : Int → Int} : dropD (mapK l f) (Sum.inl d) = mapK (l.filter fun x => decide (x ≠ d)) f := by
  induction l with
  | nil => rfl
  | cons x l ih =>
    unfold dropD mapK at ih ⊢
    rw [List.map_cons, List.filter_cons, List.filter_cons]
    by_cases c : x = d
    · rw [if_neg (by simp [c]), if_neg (by simp [c])]
      exact ih
    · rw [if_pos (by simpa using c), if_pos (by simpa using c), ih]
      rfl
end
/-- the comings of a row -/
def cmL (l : List Int) : Cell := .lst ((comes l).map dD)


section
variable {C : Store} {QD : D → Store → Prop} {x : D} {rs ls : List Int} {n : Nat}
def shD (s : Int × Nat) : D := .tup [.int s.1, .int (s.2 : Int)]
theorem nextat_ok {l : List (Int × Nat)} {i : Nat} (hi : i < sumN (l.map (·.2))) (q : QD (.tup [.int (pickT l i).1, .int ((pickT l i).2.1 : Int), .int ((pickT l i).2.2 : Int)]) C) : W (m_next_at [.lst (l.map shD), .int i] C) QD := by
  unfold m_next_at
  repeat' walk_at "ev"
  refine w_forM (fun j sl C1 => ∃ (i' : Nat) (x2 x3 : Option D), sl = [some (.lst (l.map shD)), some (.int (i' : Int)), x2, x3] ∧ C1 = C ∧ pickT (l.drop j) i' = pickT l i ∧ i' < sumN ((l.drop j).map (·.2))) (fun _ _ _ _ => okG_nil _) ?_ ?_ ⟨i, _, _, rfl, rfl, rfl, hi⟩
  · intro j d sl C1 hd hinv
    obtain ⟨i', x2, x3, rfl, rfl, e, hlt⟩ := hinv
    rw [List.getElem?_map, Option.map_eq_some_iff] at hd
    obtain ⟨s, hs, rfl⟩ := hd
    have hdr : l.drop j = s :: l.drop (j + 1) := by
      have hj := (List.getElem?_eq_some_iff.mp hs)
      obtain ⟨hj1, hj2⟩ := hj
      rw [List.drop_eq_getElem_cons hj1, hj2]
    rw [hdr] at e hlt
    rw [show pickT (s :: l.drop (j + 1)) i' = if i' < s.2 then (s.1, s.2, i') else pickT (l.drop (j + 1)) (i' - s.2) from rfl] at e
    have hlt : i' < s.2 + sumN ((l.drop (j+1)).map (·.2)) := hlt
    unfold shD
    repeat' walk_at "ev"
    by_cases c : i' < s.2
    · rw [if_pos c] at e
      refine ite_t (decide_eq_true (by omega)) ?_
      repeat' walk_at "ev"
      rw [← e] at q
      exact fin_closed0 rfl q
    · rw [if_neg c] at e
      refine ite_f (decide_eq_false (by omega)) ?_
      repeat' walk_at "ev"
      have hsub : ((i' - s.2 : Nat) : Int) = (i' : Int) - (s.2 : Int) := Int.natCast_sub (by omega)
      exact ⟨i' - s.2, some (.int s.1), some (.int (s.2 : Int)), by rw [hsub]; rfl, rfl, e, by omega⟩
  · intro sl C1 hinv
    obtain ⟨i', x2, x3, rfl, rfl, e, hlt⟩ := hinv
    rw [List.length_map, List.drop_length] at hlt
    exact absurd hlt (Nat.not_lt_zero _)
/-- the burdens, as the dict holds them -/
def hvF (n : Nat) (p : List Int × List Int) (u : Int) : Int := 1 + (wA p.1 p.2 n u : Int) + wB p.1 p.2 n u
theorem hv_hk {p : List Int × List Int} {u : Int} : hvF n p u = (hkP n p u : Int) := by
  unfold hvF hkP
  omega
/-- who may come, by the dicts -/
theorem tidyM_ok {p : List Int × List Int} {kA kB : List (Key × D)} {num M : D} {done : List Int} {x7 x8 x9 : Option D} {hf : Int → Int} {QS : Fl → Sl → Store → Prop} (h : Fine n (rs, ls)) (n1 : n ≤ 200) (hp : Later n (rs, ls) p) (hA : mapK (unP (rs, ls)) (hvF n (rs, ls)) = kA) (hB : mapK (wtrs rs ls) (nxW rs) = kB)
    (q : QS .nx [some x, some num, some (.cell C.length), some (.cell (C.length + 1)), some M, some (.cell (C.length + 2)), some (.cell (C.length + 3)), some (.lst ((rtsP p).map D.int)), x8, x9, none] (C ++ [.dk kA, .dk kB, cmL done, .dk (mapK (unP p) hf)])) :
    WS (sLkS 2 (sAsg (mLc false [10] (iKey (mVar 2)) (gmN 10) (tAndM (mT (mDInK false (mVar 10) (mVar 6))) (mT (mDInQ true (mDGet1 (mVar 3) (mVar 10)) (mVar 6)))) (mVar 10)) (gmN 7)) [some x, some num, some (.cell C.length), some (.cell (C.length + 1)), some M, some (.cell (C.length + 2)), some (.cell (C.length + 3)), x7, x8, x9, none] (C ++ [.dk kA, .dk kB, cmL done, .dk (mapK (unP p) hf)])) QS := by
  have a0 : ∀ c d, (C ++ [.dk kA, .dk kB, c, d])[C.length]? = some (.dk kA) := fun c d => at_app0
  have a1 : ∀ z c d, (C ++ [z, .dk kB, c, d])[C.length + 1]? = some (.dk kB) := fun z c d => at_app
  have a3 : ∀ z y c d, (C ++ [z, y, c, d])[C.length + 3]? = some d := fun z y c d => at_app
  have hul : (unP (rs, ls)).length ≤ n := h.few
  have hkeys : kA.map (fun kv => keyD kv.1) = (unP (rs, ls)).map D.int := by
    rw [← hA]
    exact mapK_keys
  refine w_lkS (v := 2) rfl (a0 _ _) ?_
  rw [set_app0, List.set_cons_zero]
  repeat' walk_at "ev"
  refine w_iKey ?_
  repeat' walk_at "ev"
  refine ⟨_, _, rfl, at_app0, ?_⟩
  rw [hkeys]
  repeat' walk_at "ev"
  refine w_lcAf (φ := D.int) (l := unP (rs, ls)) (p := fun u => decide (u ∈ unP p) && !(decide (u ∈ wtrs rs ls) && decide (nxW rs u ∈ unP p))) (f := D.int) (okG_nil _) (fun j u hu => ?_) ?_
  · refine w_gmN ?_
    refine w_tAndV (a := decide (u ∈ unP p)) (b := !(decide (u ∈ wtrs rs ls) && decide (nxW rs u ∈ unP p))) ?_ ?_ ?_
    · repeat' walk_at "ev"
      refine w_dinK ?_
      repeat' walk_at "ev"
      refine ⟨_, _, _, rfl, a3 _ _ _ _, rfl, ?_⟩
      rw [mapK_val]
      refine ⟨_, rfl, ?_⟩
      rw [if_neg Bool.false_ne_true]
      refine ⟨?_, rfl⟩
      by_cases c : u ∈ unP p
      · rw [if_pos c, decide_eq_true c]
        rfl
      · rw [if_neg c, decide_eq_false c]
        rfl
    · repeat' walk_at "ev"
      refine w_dinQ ?_
      refine w_dget1 ?_
      repeat' walk_at "ev"
      refine ⟨_, _, rfl, a1 _ _ _, ?_⟩
      repeat' walk_at "ev"
      refine ⟨_, _, a1 _ _ _, rfl, ?_⟩
      repeat' walk_at "ev"
      refine ⟨_, _, rfl, a3 _ _ _ _, ?_⟩
      rw [← hB, mapK_val]
      by_cases c : u ∈ wtrs rs ls
      · rw [if_pos c, decide_eq_true c]
        refine .inl ⟨.inl (nxW rs u), rfl, ?_⟩
        rw [mapK_val]
        refine ⟨_, rfl, ?_⟩
        refine ⟨?_, rfl⟩
        rw [if_pos rfl]
        by_cases c2 : nxW rs u ∈ unP p
        · rw [if_pos c2, decide_eq_true c2]
          rfl
        · rw [if_neg c2, decide_eq_false c2]
          rfl
      · rw [if_neg c, decide_eq_false c]
        exact .inr ⟨rfl, _, rfl, rfl, rfl⟩
    · refine ⟨rfl, rfl, fun _ => ?_⟩
      repeat' walk_at "ev"
      exact ⟨rfl, rfl⟩
  rw [show (unP (rs, ls)).filter (fun u => decide (u ∈ unP p) && !(decide (u ∈ wtrs rs ls) && decide (nxW rs u ∈ unP p))) = rtsP p from hp.roots h]
  repeat' walk_at "ev"
  refine ⟨_, at_app0, ?_⟩
  rw [set_app0, List.set_cons_zero]
  exact q
/-- the shares of those who may come -/
theorem tidyS_ok {p : List Int × List Int} {kA kB : List (Key × D)} {num : D} {done : List Int} {x8 x9 : Option D} {hf : Int → Int} {QS : Fl → Sl → Store → Prop} (h : Fine n (rs, ls)) (n1 : n ≤ 200) (hp : Later n (rs, ls) p) (hA : mapK (unP (rs, ls)) (hvF n (rs, ls)) = kA) (hhk : ∀ u ∈ unP (rs, ls), 0 < hkP n (rs, ls) u ∧ hkP n (rs, ls) u ≤ 200) (k0 : (unP p).length ≠ 0)
    (q : QS .nx [some x, some num, some (.cell C.length), some (.cell (C.length + 1)), some (.int (cP n p)), some (.cell (C.length + 2)), some (.cell (C.length + 3)), some (.lst ((rtsP p).map D.int)), some (.lst ((shP n p).map shD)), x9, none] (C ++ [.dk kA, .dk kB, cmL done, .dk (mapK (unP p) hf)])) :
    WS (sAsg (mLc false [10] (iLst (mVar 7)) (gmN 10) tTrue (mTup (aCons (mVar 10) (aCons (m2 gDiv (m2 gMul (mVar 4) (mDGetK (mVar 2) (mVar 10))) (mCB (on1 gLenK) (aCons (mVar 6) aNil))) aNil)))) (gmN 8) [some x, some num, some (.cell C.length), some (.cell (C.length + 1)), some (.int (cP n p)), some (.cell (C.length + 2)), some (.cell (C.length + 3)), some (.lst ((rtsP p).map D.int)), x8, x9, none] (C ++ [.dk kA, .dk kB, cmL done, .dk (mapK (unP p) hf)])) QS := by
  have a0 : ∀ c d, (C ++ [.dk kA, .dk kB, c, d])[C.length]? = some (.dk kA) := fun c d => at_app0
  have a3 : ∀ z y c d, (C ++ [z, y, c, d])[C.length + 3]? = some d := fun z y c d => at_app
  have hrl : (rtsP p).length ≤ n := Nat.le_trans (List.length_filter_le _ _) hp.f.few
  have hul : (unP p).length ≤ n := hp.f.few
  generalize hk : (unP p).length = k at *
  repeat' walk_at "ev"
  refine w_lcA (φ := D.int) (l := rtsP p) (f := fun d => shD (d, cP n (cmP p d))) (okG_nil _) (fun j d hd => ?_) ?_
  · have hdm := List.mem_of_getElem? hd
    refine w_gmN ?_
    have hdu := hp.sub d (rts_in hdm)
    have hb := hhk d hdu
    have hsh := hp.f.share hdm
    rw [hp.hk d (rts_in hdm), hk] at hsh
    refine w_tup ?_
    refine w_aCons ?_
    refine w_var (by with_unfolding_all rfl) ?_
    refine w_aCons ?_
    refine w_2 ?_
    refine w_2 ?_
    refine w_var (by with_unfolding_all rfl) ?_
    refine w_dgetK ?_
    refine w_var (by with_unfolding_all rfl) ?_
    refine w_var (by with_unfolding_all rfl) ?_
    refine ⟨_, _, _, _, rfl, a0 _ _, rfl, by rw [← hA, mapK_val, if_pos hdu], ?_⟩
    rw [hv_hk]
    refine w_gMulS (by omega) (by omega) ?_
    refine w_cb ?_
    refine w_aCons ?_
    refine w_var (by with_unfolding_all rfl) ?_
    refine w_aNil ?_
    refine w_lenK (a3 _ _ _ _) ?_
    rw [mapK_len, hk]
    refine w_gDivS (by omega) (by omega) ?_
    refine w_aNil ?_
    refine le_and le2 ?_
    refine ⟨?_, rfl⟩
    unfold shD
    rw [← Int.natCast_mul, hsh, ← Int.natCast_ediv, Nat.mul_div_cancel_left _ (by omega)]
  rw [show (rtsP p).map (fun d => shD (d, cP n (cmP p d))) = (shP n p).map shD from by unfold shP; rw [List.map_map]; rfl]
  refine w_newF ?_
  refine w_gmN ?_
  simp only [List.set_cons_zero, List.set_cons_succ]
  exact q
theorem tidyat_ok (hx : IsSt C x rs ls) (h : Fine n (rs, ls)) (n1 : n ≤ 200) {i : Nat} (hi : i < cP n (rs, ls)) (q : QD (.cell C.length) (C ++ [cmL (nthT n (unP (rs, ls)).length (rs, ls) i)])) : W (m_tidy_at [x, .int i] C) QD := by
  have v : Vs rs ls := h.v
  have hn : (n : Int) = rs.length - 1 := h.hn
  have hl : lostOf rs ls = [] := h.hl
  have c := chn v hn hl
  have hnd : (unP (rs, ls)).Nodup := un_nd
  have hln : (unP (rs, ls)).length ≤ n := by
    unfold unP
    rw [own_seg v hn hl]
    exact Nat.le_trans (List.length_filter_le _ _) (by rw [segI_len]; omega)
  have hndw : (wtrs rs ls).Nodup := hnd.sublist List.filter_sublist
  have hpr := h.prod
  unfold m_tidy_at
  repeat' walk_at "ev"
  refine burdens_ok hx v hn hl ?_
  have hx1 := hx.app (X := [Cell.dk (mapK (unP (rs, ls)) (hvF n (rs, ls)))])
  repeat' walk_at "ev"
  refine w_fzL ?_
  repeat' walk_at "ev"
  refine waits_ok hx1 v hn hl ⟨_, rfl, rfl, closedDs_dP _ _, ?_⟩
  rw [wt_pairs v hn hl]
  repeat' walk_at "ev"
  refine w_dictK (kvs := mapK (wtrs rs ls) (nxW rs)) rfl (prs_ok _) (fks_ok _) ?_
  rw [puts_ok hndw]
  repeat' walk_at "ev"
  rw [List.append_assoc, List.length_append]
  refine w_listVals ?_
  repeat' walk_at "ev"
  refine ⟨_, _, rfl, at_app0, w_newF ?_⟩
  have hev : (mapK (unP (rs, ls)) (hvF n (rs, ls))).map (·.2) = ((unP (rs, ls)).map (hkP n (rs, ls))).map fun x : Nat => D.int (x : Int) := by
    rw [mapK_vals, List.map_map]
    refine List.map_congr_left fun u _ => ?_
    show D.int _ = D.int _
    rw [hv_hk]
  rw [show (mapK (uniqI (owns rs ls)) fun u => 1 + (wA rs ls n u : Int) + wB rs ls n u).map (·.2) = _ from hev]
  repeat' walk_at "ev"
  have hhk : ∀ u ∈ unP (rs, ls), 0 < hkP n (rs, ls) u ∧ hkP n (rs, ls) u ≤ 200 := fun u hu => by
    refine ⟨by unfold hkP; omega, ?_⟩
    show 1 + wA rs ls n u + wB rs ls n u ≤ 200
    rw [← c.hits (uniqI_lt _) (fun z => own_un (p := (rs, ls)) h) hu]
    exact Nat.le_trans (List.length_filter_le _ _) (Nat.le_trans hln n1)
  refine counted_ok (by rw [List.length_map]; omega) (fun y hy => by
    obtain ⟨u, hu, rfl⟩ := List.mem_map.mp hy
    exact hhk u hu) ?_
  have hmany : facN ((unP (rs, ls)).map (hkP n (rs, ls))).length / ((unP (rs, ls)).map (hkP n (rs, ls))).foldl (· * ·) 1 = cP n (rs, ls) := by
    rw [List.length_map, prodN_fold, ← hpr]
    exact Nat.mul_div_cancel _ (prodN_pos fun y hy => by
      obtain ⟨u, hu, rfl⟩ := List.mem_map.mp hy
      exact (hhk u hu).1)
  rw [hmany]
  repeat' walk_at "ev"
  rw [List.append_assoc, List.length_append]
  refine w_dictC at_app0 ?_
  repeat' walk_at "ev"
  rw [List.append_assoc, List.length_append]
  generalize hA : (mapK (uniqI (owns rs ls)) fun u => 1 + (wA rs ls n u : Int) + wB rs ls n u) = kA
  change mapK (unP (rs, ls)) (hvF n (rs, ls)) = kA at hA
  generalize hB : mapK (wtrs rs ls) (nxW rs) = kB
  simp only [List.length_append, List.length_cons, List.length_nil, List.append_assoc, List.cons_append, List.nil_append, Nat.zero_add, Nat.reduceAdd]
  generalize hT : nthT n (unP (rs, ls)).length (rs, ls) i = T at q
  generalize hF : (unP (rs, ls)).length = F at hln hT
  refine w_while (fun k sl C1 => ∃ (p : List Int × List Int) (num : Nat) (done : List Int) (x7 x8 x9 : Option D), sl = [some x, some (.int num), some (.cell C.length), some (.cell (C.length + 1)), some (.int (cP n p)), some (.cell (C.length + 2)), some (.cell (C.length + 3)), x7, x8, x9, none] ∧ C1 = C ++ [.dk kA, .dk kB, cmL done, .dk (mapK (unP p) (hvF n (rs, ls)))] ∧ Later n (rs, ls) p ∧ (unP p).length = k ∧ done.length + k = F ∧ num < cP n p ∧ done ++ nthT n k p num = T) ?_ F (by omega) ⟨(rs, ls), i, [], _, _, _, rfl, by rw [← hA]; rfl, h.later, hF, by rw [show ([] : List Int).length = 0 from rfl]; omega, hi, hT⟩
  intro k sl C1 hinv
  obtain ⟨p, num, done, x7, x8, x9, rfl, rfl, hp, hk, hdk, hnum, hN⟩ := hinv
  have a0 : ∀ c d, (C ++ [.dk kA, .dk kB, c, d])[C.length]? = some (.dk kA) := fun c d => at_app0
  have a1 : ∀ z c d, (C ++ [z, .dk kB, c, d])[C.length + 1]? = some (.dk kB) := fun z c d => at_app
  have a2 : ∀ z y c d, (C ++ [z, y, c, d])[C.length + 2]? = some c := fun z y c d => at_app
  have a3 : ∀ z y c d, (C ++ [z, y, c, d])[C.length + 3]? = some d := fun z y c d => at_app
  have hrl : (rtsP p).length ≤ n := Nat.le_trans (List.length_filter_le _ _) (by omega)
  have hul : (unP (rs, ls)).length ≤ n := by omega
  have hsz : ((comes done).map dD).length < sizeLine := by
    rw [List.length_map]
    unfold comes
    rw [List.length_map]
    exact Nat.lt_of_lt_of_le (by omega : done.length < 10000) (by decide)
  repeat' walk_at "ev"
  refine w_demp ?_
  refine w_neDE (a3 _ _ _ _) ?_
  refine ⟨_, rfl, ?_⟩
  rw [show (!(mapK (unP p) (hvF n (rs, ls))).isEmpty) = decide (unP p ≠ []) from by unfold mapK; cases unP p <;> rfl]
  by_cases he : unP p = []
  · rw [if_neg (by simpa using he)]
    have k0 : k = 0 := by rw [← hk, he]; rfl
    subst k0
    have hN : done = T := by
      rw [← hN]
      show done = done ++ []
      rw [List.append_nil]
    rw [← hN] at q
    repeat' walk_at "ev"
    exact fin_one0 (k := 2) rfl (dD_closed _) q
  rw [if_pos (by simpa using he)]
  have k0 : k ≠ 0 := fun e => he (List.length_eq_zero_iff.mp (hk.trans e))
  refine ⟨by omega, ?_⟩
  obtain ⟨hd1, he2, hlt, hs⟩ := hp.f.pick he hnum
  have hstep : nthT n k p num = (pickT (shP n p) num).1 :: nthT n (k - 1) (cmP p (pickT (shP n p) num).1) (pickT (shP n p) num).2.2 := by
    obtain ⟨k', rfl⟩ : ∃ k', k = k' + 1 := ⟨k - 1, by omega⟩
    rfl
  repeat' walk_at "ev"
  refine tidyM_ok h n1 hp hA hB ?_
  refine w_then ?_
  refine w_seq ?_
  refine tidyS_ok h n1 hp hA hhk (by omega) ?_
  refine w_then ?_
  refine w_seq ?_
  refine w_asg ?_
  refine w_fzV0 ?_
  refine w_F ?_
  repeat' walk_at "ev"
  refine nextat_ok hs ?_
  refine ⟨[], by simp, rfl, ?_⟩
  rw [he2]
  generalize (pickT (shP n p) num).1 = d at *
  generalize (pickT (shP n p) num).2.2 = num' at *
  obtain ⟨hc1, hc2, hc3⟩ := hp.f.cm hd1
  generalize hM : ((cP n (cmP p d) : Nat) : Int) = M
  repeat' walk_at "ev"
  refine isL_and (w_chkC (a2 _ _ _ _)) ?_
  repeat' walk_at "ev"
  rw [set_app, show ([Cell.dk kA, Cell.dk kB, cmL done, Cell.dk (mapK (unP p) (hvF n (rs, ls)))] : List Cell).set 2 (.lst ((comes done).map dD ++ [D.tup [.str "come", .int d]])) = [Cell.dk kA, Cell.dk kB, cmL (done ++ [d]), Cell.dk (mapK (unP p) (hvF n (rs, ls)))] from by simp [cmL, comes]]
  refine w_dpop1 ?_
  repeat' walk_at "ev"
  refine ⟨_, _, rfl, a3 _ _ _ _, ?_⟩
  repeat' walk_at "ev"
  refine ⟨_, _, _, a3 _ _ _ _, rfl, by rw [mapK_val, if_pos (rts_in hd1)], ?_⟩
  rw [set_app, mapK_drop, ← hc2]
  refine ⟨cmP p d, num', done ++ [d], _, _, _, by rw [← hM], rfl, hp.cm hd1, by omega, by rw [List.length_append]; show done.length + 1 + (k - 1) = F; omega, hlt, ?_⟩
  rw [List.append_assoc]
  rw [hstep] at hN
  exact hN
end


/-- a row of comings, each of one who knows both borders then, of all who own any -/
inductive Tidy : List Int × List Int → List Int → Prop
  | nil {p : List Int × List Int} : unP p = [] → Tidy p []
  | cons {p : List Int × List Int} {d : Int} {l : List Int} : d ∈ rtsP p → Tidy (cmP p d) l → Tidy p (d :: l)
section
variable {n : Nat} {p : List Int × List Int} {d : Int} {l : List Int}
theorem nth_tidy : ∀ (k : Nat) {p : List Int × List Int} {i : Nat}, Fine n p → (unP p).length = k → i < cP n p → Tidy p (nthT n k p i)
  | 0, p, i, h, e, _ => .nil (List.length_eq_zero_iff.mp e)
  | k + 1, p, i, h, e, hi => by
    have he : unP p ≠ [] := fun z => by
      rw [z] at e
      cases e
    obtain ⟨h1, h2, h3, -⟩ := h.pick he hi
    obtain ⟨c1, c2, c3⟩ := h.cm h1
    exact .cons h1 (nth_tidy k c1 (by omega) h3)
theorem Tidy.mem (h : Fine n p) (t : Tidy p l) : (∀ x, x ∈ l ↔ x ∈ unP p) ∧ l.Nodup ∧ l.length = (unP p).length := by
  induction t with
  | nil e =>
    rw [e]
    exact ⟨fun _ => Iff.rfl, .nil, rfl⟩
  | @cons p d l hd t ih =>
    obtain ⟨c1, c2, c3⟩ := h.cm hd
    obtain ⟨i1, i2, i3⟩ := ih c1
    have hm : ∀ u, u ∈ l ↔ u ∈ unP p ∧ u ≠ d := fun u => by rw [i1, c2, List.mem_filter, decide_eq_true_iff]
    refine ⟨fun x => ?_, List.nodup_cons.mpr ⟨fun z => ((hm d).mp z).2 rfl, i2⟩, by rw [List.length_cons, i3, c3]⟩
    rw [List.mem_cons, hm]
    constructor
    · rintro (rfl | h)
      · exact rts_in hd
      · exact h.1
    · intro hx
      by_cases c : x = d
      · exact .inl c
      · exact .inr ⟨hx, c⟩
theorem Tidy.held (h : Fine n p) (t : Tidy p l) : heldB (run p (comes l)).1 (run p (comes l)).2 = true := by
  induction t with
  | @nil p e =>
    refine own_none.mp fun x hx => ?_
    have : x ∈ unP p := uniqI_mem.mpr hx
    rw [e] at this
    exact nomatch this
  | cons hd t ih => exact ih (h.cm hd).1
theorem Tidy.ok (h : Fine n p) (t : Tidy p l) : OkH n (comes l) := fun e he => by
  obtain ⟨x, hx, rfl⟩ := List.mem_map.mp he
  have := h.un_in (((t.mem h).1 x).mp hx)
  exact okcome this
theorem Tidy.split (h : Fine n p) (t : Tidy p (d :: l)) : d ∈ rtsP p ∧ Tidy (cmP p d) l ∧ Fine n (cmP p d) := by
  cases t with
  | cons hd t => exact ⟨hd, t, (h.cm hd).1⟩
theorem comes_len (l : List Int) : ((comes l).map dD).length = l.length := by
  unfold comes
  rw [List.length_map, List.length_map]
theorem nth_len : ∀ (k : Nat) (p : List Int × List Int) (i : Nat), (nthT n k p i).length = k
  | 0, _, _ => rfl
  | k + 1, p, i => by
    show (nthT n k _ _).length + 1 = k + 1
    rw [nth_len k]
/-- the least mending of a stand -/
def leastT (n : Nat) (p : List Int × List Int) : List Int := nthT n (unP p).length p 0
end


section
variable {C : Store} {QD : D → Store → Prop} {x : D} {rs ls : List Int} {n : Nat}
theorem mending_ok (hx : IsSt C x rs ls) (h : Fine n (rs, ls)) (n1 : n ≤ 200) (q : QD (.cell C.length) (C ++ [cmL (leastT n (rs, ls))])) : W (m_mending [x] C) QD := by
  unfold m_mending
  repeat' walk_at "ev"
  refine tidyat_ok (i := 0) hx h n1 h.pos ?_
  repeat' walk_at "ev"
  exact W.of (fin_cell0 (dD_closed _)) q
end


section
variable {A S S2 : Type} {P : Exn → Store → Prop} {sl : Sl} {C : Store} {m : ME} {mas : MG (List D)} {u u1 u2 : MS} {t : MG Bool} {x f : Str} {n : Nat} {mf : MF} {g : MT} {ds : List D} {hm : Exn → MS} {QS : Fl → Sl → Store → Prop}
end

theorem cut_take {A : Type} (f : A → D) (l : List A) (m : Int) (h : 0 ≤ m) : cutD (l.map f) none (some m) = (l.take m.toNat).map f := by
  rw [cutD_map]
  congr 1
  unfold HT.sIx
  simp only
  rw [if_neg (by omega), List.drop_zero, Nat.sub_zero]
  by_cases hm : m.toNat ≤ l.length
  · rw [Nat.min_eq_left hm]
  · rw [Nat.min_eq_right (by omega), List.take_of_length_le (Nat.le_refl _), List.take_of_length_le (by omega)]

theorem cells_ok {ns : List Int} {m : Int} {C : Store} {QD : D → Store → Prop} (hl : ns.length ≤ 63) (h0 : 0 ≤ m) (q : ∀ ms : List Int, ms.length ≤ 64 → (ms.length : Int) ≤ m + 1 → QD (.cell C.length) (C ++ [iL ms])) : W (m__law_cells [.lst (ns.map D.int), .int m] C) QD := by
  unfold m__law_cells
  repeat' walk_at "ev"
  refine w_slL ?_
  rw [cut_take D.int ns m h0]
  repeat' walk_at "ev"
  refine w_eqLI (m := []) ?_
  repeat' walk_at "ev"
  obtain ⟨k, hk, k1⟩ : ∃ k : Nat, (if decide (ns = []) = true then (1 : Int) else 0) = (k : Int) ∧ k ≤ 1 := by
    split
    · exact ⟨1, rfl, by decide⟩
    · exact ⟨0, rfl, by decide⟩
  rw [hk]
  repeat' walk_at "ev"
  refine ⟨by simp [sizeLine]; omega, ?_⟩
  rw [Int.toNat_natCast, show (List.replicate k [D.int 0]).flatten = (List.replicate k (0 : Int)).map D.int from by
    clear hk k1
    induction k with
    | zero => rfl
    | succ k ih => rw [List.replicate_succ, List.flatten_cons, ih, List.replicate_succ]; rfl]
  repeat' walk_at "ev"
  refine w_addL (by simp [sizeLine]; omega) ?_
  rw [← List.map_append]
  refine w_newC ?_
  exact W.of (fin_cell0 (closedDs_ints _ _)) (q _ (by simp; omega) (by simp; omega))


/-! a ring as an object: its stand, the deeds that stand, those done back -/
abbrev flds (p : List Int × List Int) (j k : Nat) : List (Str × D) := [("stand_held", sD p.1 p.2), ("done_held", .cell j), ("back_held", .cell k)]
abbrev obR (p : List Int × List Int) (j k : Nat) : Cell := .obj "Ring" (flds p j k)
abbrev enD (e : Dd × (List Int × List Int)) : D := .tup [dD e.1, sD e.2.1 e.2.2]
abbrev enL (dn : List (Dd × (List Int × List Int))) : Cell := .lst (dn.map enD)
structure RingAt (C : Store) (i j k : Nat) (p : List Int × List Int) (dn : List (Dd × (List Int × List Int))) (bk : List Dd) : Prop where
  o : C[i]? = some (obR p j k)
  d : C[j]? = some (enL dn)
  b : C[k]? = some (.lst (bk.map dD))
  ij : i ≠ j
  ik : i ≠ k
  jk : j ≠ k
section
variable {C : Store} {QD : D → Store → Prop} {i j k : Nat} {p : List Int × List Int} {dn : List (Dd × (List Int × List Int))} {bk : List Dd} {n : Int} {e : Dd} {rs ls : List Int} {x : D}
theorem get_lt {A : Type} {L : List A} {l : Nat} {a : A} (h : L[l]? = some a) : l < L.length := (List.getElem?_eq_some_iff.mp h).1
theorem w_stand (h : RingAt C i j k p dn bk) (q : QD (sD p.1 p.2) C) : W (gFld "Ring" "stand_held" (.cell i) C) QD := w_gfld h.o rfl q
theorem w_done (h : RingAt C i j k p dn bk) (q : QD (.cell j) C) : W (gFld "Ring" "done_held" (.cell i) C) QD := w_gfld h.o rfl q
theorem w_back (h : RingAt C i j k p dn bk) (q : QD (.cell k) C) : W (gFld "Ring" "back_held" (.cell i) C) QD := w_gfld h.o rfl q
theorem withdeed_ok (hx : IsSt C x rs ls) (v : Vs rs ls) (hn : n = rs.length - 1) (he : OkD n e)
    (q : QD (.tup [.cell C.length, .cell (C.length + 1)]) (C ++ [iL (step (rs, ls) e).1, iL (step (rs, ls) e).2])) : W (m_with_deed [x, dD e] C) QD := by
  unfold m_with_deed
  repeat' walk_at "ev"
  refine copied_ok hx ?_
  repeat' walk_at "ev"
  refine w_fzL ?_
  repeat' walk_at "ev"
  refine handsby_ok hx.app v hn he ?_
  refine ⟨_, rfl, rfl, rfl, ?_⟩
  repeat' walk_at "ev"
  obtain ⟨h0, h1, h2⟩ := he
  obtain ⟨r, hr, a1, r1, r2, er⟩ := v.rx (i := e.2) (by omega) (by omega)
  obtain ⟨l, hl, a2, k1, k2, el⟩ := v.lx (i := e.2 - 1) (by omega) (by omega)
  have e1 : doR (rs, ls) e = r := er
  have e2 : doL (rs, ls) e = l := el
  have vl := v.len
  unfold step at q
  simp only [e1, e2] at q ⊢
  have i1 : ixN (rs.map D.int).length l = some l.toNat := ixN_in k1 (by simp; omega)
  have i2 : ixN (ls.map D.int).length (r - 1) = some (r - 1).toNat := ixN_in (by omega) (by simp [vl]; omega)
  refine w_forCons ?_
  repeat' walk_at "ev"
  rw [setI_map]
  simp only [set_app0, List.set_cons_zero]
  refine w_forCons ?_
  repeat' walk_at "ev"
  rw [setI_map]
  simp only [set_app, List.set_cons_zero, List.set_cons_succ]
  refine w_forNil ?_
  repeat' walk_at "ev"
  exact fin_two0 (j := 0) (k := 1) rfl rfl (by decide) (closed_iL _ _) (closed_iL _ _) q
theorem RingAt.lt (h : RingAt C i j k p dn bk) : i < C.length ∧ j < C.length ∧ k < C.length := ⟨get_lt h.o, get_lt h.d, get_lt h.b⟩
theorem RingAt.app {Y : Store} (h : RingAt C i j k p dn bk) : RingAt (C ++ Y) i j k p dn bk := ⟨at_lo h.o, at_lo h.d, at_lo h.b, h.ij, h.ik, h.jk⟩
theorem RingAt.set {l : Nat} {c : Cell} (h : RingAt C i j k p dn bk) (h1 : l ≠ i) (h2 : l ≠ j) (h3 : l ≠ k) : RingAt (C.set l c) i j k p dn bk := ⟨by rw [List.getElem?_set_ne h1]; exact h.o, by rw [List.getElem?_set_ne h2]; exact h.d, by rw [List.getElem?_set_ne h3]; exact h.b, h.ij, h.ik, h.jk⟩
/-- the store behind a deed put -/
abbrev putC (C : Store) (i j k : Nat) (p : List Int × List Int) (dn : List (Dd × (List Int × List Int))) (e : Dd) : Store := (C.set j (enL (dn ++ [(e, p)]))).set i (obR (step p e) j k)
theorem RingAt.put (h : RingAt C i j k p dn bk) (e : Dd) : RingAt (putC C i j k p dn e) i j k (step p e) (dn ++ [(e, p)]) bk := by
  obtain ⟨h1, h2, h3⟩ := h.lt
  exact ⟨by rw [List.getElem?_set_self (by simpa using h1)], by rw [List.getElem?_set_ne h.ij, List.getElem?_set_self h2], by rw [List.getElem?_set_ne h.ik, List.getElem?_set_ne h.jk]; exact h.b, h.ij, h.ik, h.jk⟩
theorem put_ok (h : RingAt C i j k p dn bk) (v : Vs p.1 p.2) (hn : n = p.1.length - 1) (he : OkD n e) (hl : dn.length < 100000) (q : QD .non (putC C i j k p dn e)) : W (m_Ring__put [.cell i, dD e] C) QD := by
  obtain ⟨h1, h2, h3⟩ := h.lt
  have lt : (dn.map enD).length < sizeLine := by rw [List.length_map]; exact Nat.lt_of_lt_of_le hl (by decide)
  unfold m_Ring__put
  repeat' walk_at "ev"
  refine w_done h ?_
  repeat' walk_at "ev"
  refine ⟨w_chkC h.d, ?_⟩
  repeat' walk_at "ev"
  refine w_stand h ?_
  repeat' walk_at "ev"
  refine w_append h.d lt ?_
  rw [show dn.map enD ++ [D.tup [dD e, sD p.1 p.2]] = (dn ++ [(e, p)]).map enD from by simp]
  have ho : (C.set j (.lst ((dn ++ [(e, p)]).map enD)))[i]? = some (obR p j k) := by rw [List.getElem?_set_ne (Ne.symm h.ij)]; exact h.o
  repeat' walk_at "ev"
  refine w_sFld ?_
  repeat' walk_at "ev"
  refine w_fzS ?_
  repeat' walk_at "ev"
  refine w_gfld (v := sD p.1 p.2) ho rfl ?_
  repeat' walk_at "ev"
  refine withdeed_ok (.f _ _) v hn he ?_
  refine ⟨_, _, rfl, rfl, closedDs_ints _ _, closedDs_ints _ _, ?_⟩
  repeat' walk_at "ev"
  refine ⟨i, _, rfl, ho, by show (3 : Nat) < 1000; decide, ?_⟩
  repeat' walk_at "ev"
  exact q
/-- the store behind a deed done -/
abbrev didC (C : Store) (i j k : Nat) (p : List Int × List Int) (dn : List (Dd × (List Int × List Int))) (e : Dd) : Store := (putC C i j k p dn e ++ [Cell.lst []]).set i (obR (step p e) j C.length)
theorem RingAt.did (h : RingAt C i j k p dn bk) (e : Dd) : RingAt (didC C i j k p dn e) i j C.length (step p e) (dn ++ [(e, p)]) [] := by
  obtain ⟨h1, h2, h3⟩ := h.lt
  have hp := (h.put e).app (Y := [Cell.lst []])
  have hlen : (putC C i j k p dn e).length = C.length := by simp
  refine ⟨by rw [List.getElem?_set_self (by simp; omega)], by rw [List.getElem?_set_ne h.ij]; exact hp.d, ?_, h.ij, by omega, by omega⟩
  rw [List.getElem?_set_ne (by omega), ← hlen]
  exact at_app0
theorem did_ok {w : Str} {d : Int} (h : RingAt C i j k p dn bk) (v : Vs p.1 p.2) (hn : n = p.1.length - 1) (he : OkD n (w, d)) (hl : dn.length < 100000) (q : QD .non (didC C i j k p dn (w, d))) : W (m_Ring__did [.cell i, .str w, .int d] C) QD := by
  obtain ⟨h1, h2, h3⟩ := h.lt
  have hp := h.put (w, d)
  unfold m_Ring__did
  repeat' walk_at "ev"
  refine w_stand h ?_
  repeat' walk_at "ev"
  refine dancers_ok (.f _ _) ?_
  repeat' walk_at "ev"
  refine isdeed_ok (e := (w, d)) (by rw [← hn]; exact he) ?_
  repeat' walk_at "ev"
  refine w_M ?_
  repeat' walk_at "ev"
  refine ⟨i, _, rfl, h.o, rfl, ?_⟩
  repeat' walk_at "ev"
  refine ⟨rfl, ?_⟩
  refine put_ok (e := (w, d)) h v hn he hl ?_
  repeat' walk_at "ev"
  refine w_sFld ?_
  repeat' walk_at "ev"
  refine ⟨i, _, rfl, at_lo hp.o, by show (3 : Nat) < 1000; decide, ?_⟩
  repeat' walk_at "ev"
  rw [show (putC C i j k p dn (w, d)).length = C.length from by simp]
  exact q
theorem go_ok {d : Int} (h : RingAt C i j k p dn bk) (v : Vs p.1 p.2) (hn : n = p.1.length - 1) (hd : 1 ≤ d ∧ d ≤ n) (hl : dn.length < 100000) (q : QD .non (didC C i j k p dn ("go", d))) : W (m_Ring__go [.cell i, .int d] C) QD := by
  unfold m_Ring__go
  repeat' walk_at "ev"
  refine w_M ?_
  repeat' walk_at "ev"
  refine ⟨i, _, rfl, h.o, rfl, ?_⟩
  repeat' walk_at "ev"
  refine ⟨rfl, ?_⟩
  refine did_ok (w := "go") h v hn ⟨.inl rfl, hd⟩ hl ?_
  repeat' walk_at "ev"
  exact q
theorem come_ok {d : Int} (h : RingAt C i j k p dn bk) (v : Vs p.1 p.2) (hn : n = p.1.length - 1) (hd : 1 ≤ d ∧ d ≤ n) (hl : dn.length < 100000) (q : QD .non (didC C i j k p dn ("come", d))) : W (m_Ring__come [.cell i, .int d] C) QD := by
  unfold m_Ring__come
  repeat' walk_at "ev"
  refine w_M ?_
  repeat' walk_at "ev"
  refine ⟨i, _, rfl, h.o, rfl, ?_⟩
  repeat' walk_at "ev"
  refine ⟨rfl, ?_⟩
  refine did_ok (w := "come") h v hn ⟨.inr rfl, hd⟩ hl ?_
  repeat' walk_at "ev"
  exact q
end


/-! a ring made, and asked -/
section
variable {C : Store} {QD : D → Store → Prop} {i j k : Nat} {p : List Int × List Int} {dn : List (Dd × (List Int × List Int))} {bk : List Dd} {rs ls : List Int} {x : D}
theorem first_stand_ok (hx : IsSt C x rs ls) (v : Vs rs ls) (q : QD (.tup [.cell C.length, .cell (C.length + 1)]) (C ++ [iL rs, iL ls])) : W (m_first_stand [.non, x] C) QD := by
  have hx' := hx
  obtain ⟨a, b, rfl, ha, hb⟩ := hx
  unfold m_first_stand
  repeat' walk_at "ev"
  refine need_ok hx' v ?_
  repeat' walk_at "ev"
  refine copied_ok hx' ?_
  repeat' walk_at "ev"
  exact fin_two0 (j := 0) (k := 1) rfl rfl (by decide) (closed_iL _ _) (closed_iL _ _) q
theorem first_size_ok {n : Nat} (h1 : 1 ≤ n) (h2 : n ≤ 200) (q : QD (.tup [.cell C.length, .cell (C.length + 1)]) (C ++ [iL (whR n), iL (whL n)])) : W (m_first_stand [.int n, .non] C) QD := by
  unfold m_first_stand
  repeat' walk_at "ev"
  refine whole_ok h1 h2 ?_
  repeat' walk_at "ev"
  exact fin_two0 (j := 0) (k := 1) rfl rfl (by decide) (closed_iL _ _) (closed_iL _ _) q
theorem pf1 {s d : D} : putFD "done_held" d [("stand_held", s)] = ([("stand_held", s), ("done_held", d)] : List (Str × D)) := rfl
theorem pf2 {s d e : D} : putFD "back_held" e [("stand_held", s), ("done_held", d)] = ([("stand_held", s), ("done_held", d), ("back_held", e)] : List (Str × D)) := rfl
theorem init_tail {y z : D} {a b : List Int} (hf : ∀ {QD : D → Store → Prop} {Y : Store}, QD (.tup [.cell (C ++ Y).length, .cell ((C ++ Y).length + 1)]) (C ++ Y ++ [iL a, iL b]) → W (m_first_stand [y, z] (C ++ Y)) QD) (q : QD .non (C ++ [obR (a, b) (C.length + 1) (C.length + 2), .lst [], .lst []])) : W (m_Ring____init__ [.cell C.length, y, z] (C ++ [.obj "Ring" []])) QD := by
  unfold m_Ring____init__
  repeat' walk_at "ev"
  refine w_sFld ?_
  repeat' walk_at "ev"
  refine w_fzS ?_
  repeat' walk_at "ev"
  refine hf ?_
  refine ⟨_, _, rfl, rfl, closedDs_ints _ _, closedDs_ints _ _, ?_⟩
  repeat' walk_at "ev"
  refine ⟨C.length, _, rfl, at_app0, by decide, ?_⟩
  rw [show (C ++ [Cell.obj "Ring" []]).set C.length (.obj "Ring" (putFD "stand_held" (.tup [.lst (a.map D.int), .lst (b.map D.int)]) [])) = C ++ [.obj "Ring" [("stand_held", sD a b)]] from by rw [set_app0]; rfl]
  repeat' walk_at "ev"
  refine w_sFld ?_
  repeat' walk_at "ev"
  refine ⟨C.length, _, rfl, at_lo at_app0, by show (1 : Nat) < 1000; decide, ?_⟩
  rw [show (C ++ [Cell.obj "Ring" [("stand_held", sD a b)]] ++ [Cell.lst []]).set C.length (Cell.obj "Ring" (putFD "done_held" (D.cell (C ++ [Cell.obj "Ring" [("stand_held", sD a b)]]).length) [("stand_held", sD a b)])) = C ++ [.obj "Ring" [("stand_held", sD a b), ("done_held", .cell (C.length + 1))], .lst []] from by
    rw [pf1, List.append_assoc, set_app0]
    simp]
  repeat' walk_at "ev"
  refine w_sFld ?_
  repeat' walk_at "ev"
  refine ⟨C.length, _, rfl, at_lo at_app0, by show (2 : Nat) < 1000; decide, ?_⟩
  rw [show (C ++ [Cell.obj "Ring" [("stand_held", sD a b), ("done_held", .cell (C.length + 1))], Cell.lst []] ++ [Cell.lst []]).set C.length (Cell.obj "Ring" (putFD "back_held" (D.cell (C ++ [Cell.obj "Ring" [("stand_held", sD a b), ("done_held", D.cell (C.length + 1))], Cell.lst []]).length) [("stand_held", sD a b), ("done_held", .cell (C.length + 1))])) = C ++ [obR (a, b) (C.length + 1) (C.length + 2), .lst [], .lst []] from by
    rw [pf2, List.append_assoc, set_app0]
    simp]
  repeat' walk_at "ev"
  exact q
theorem init_stand (hx : IsSt C x rs ls) (v : Vs rs ls) (q : QD .non (C ++ [obR (rs, ls) (C.length + 1) (C.length + 2), .lst [], .lst []])) : W (m_Ring____init__ [.cell C.length, .non, x] (C ++ [.obj "Ring" []])) QD := init_tail (fun {QD} {Y} q => first_stand_ok hx.app v q) q
theorem init_size {n : Nat} (h1 : 1 ≤ n) (h2 : n ≤ 200) (q : QD .non (C ++ [obR (whR n, whL n) (C.length + 1) (C.length + 2), .lst [], .lst []])) : W (m_Ring____init__ [.cell C.length, .int n, .non] (C ++ [.obj "Ring" []])) QD := init_tail (fun {QD} {Y} q => first_size_ok h1 h2 q) q
theorem made_at : RingAt (C ++ [obR p (C.length + 1) (C.length + 2), .lst [], .lst []]) C.length (C.length + 1) (C.length + 2) p [] [] := ⟨at_app0, by rw [List.getElem?_append_right (by omega)]; simp, by rw [List.getElem?_append_right (by omega)]; simp, by omega, by omega, by omega⟩
theorem rstand_ok (h : RingAt C i j k p dn bk) (q : QD (.tup [.cell C.length, .cell (C.length + 1)]) (C ++ [iL p.1, iL p.2])) : W (m_Ring__stand [.cell i] C) QD := by
  unfold m_Ring__stand
  repeat' walk_at "ev"
  refine w_stand h ?_
  repeat' walk_at "ev"
  refine copied_ok (.f _ _) ?_
  repeat' walk_at "ev"
  exact fin_two0 (j := 0) (k := 1) rfl rfl (by decide) (closed_iL _ _) (closed_iL _ _) q
theorem rhistory_ok (h : RingAt C i j k p dn bk) (hl : dn.length ≤ 100000) (q : QD (.cell C.length) (C ++ [.lst ((dn.map (·.1)).map dD)])) : W (m_Ring__history [.cell i] C) QD := by
  have hd := h.d
  have hle : (dn.map enD).length ≤ sizeLine := by rw [List.length_map]; exact Nat.le_trans hl (by decide)
  unfold m_Ring__history
  repeat' walk_at "ev"
  refine w_done h ?_
  repeat' walk_at "ev"
  refine w_lcA (φ := enD) (l := dn) (f := fun e => dD e.1) (fun p hp => by cases List.mem_singleton.mp hp; exact hd) (fun i e he => ?_) ?_
  · repeat' walk_at "ev"
    exact ⟨rfl, rfl⟩
  rw [show dn.map (fun e => dD e.1) = (dn.map (·.1)).map dD from by rw [List.map_map]; rfl]
  repeat' walk_at "ev"
  exact fin_one0 (k := 0) rfl (dD_closed _) q
theorem rfewest_ok (h : RingAt C i j k p dn bk) (v : Vs p.1 p.2) (q : QD (if lostOf p.1 p.2 = [] then .int (fewN p.1 p.2) else .non) C) : W (m_Ring__fewest [.cell i] C) QD := by
  unfold m_Ring__fewest
  repeat' walk_at "ev"
  refine w_stand h ?_
  repeat' walk_at "ev"
  refine fewest_ok v (.f _ _) ?_
  repeat' walk_at "ev"
  exact fin_closed0 (by split <;> rfl) q
theorem rlen_ok (h : RingAt C i j k p dn bk) (hl : dn.length ≤ 100000) (q : QD (.int (dn.length : Nat)) C) : W (on1 (gLenO "Ring" 1 m_Ring____len__) [.cell i] C) QD := by
  have hd := h.d
  refine w_lenO h.o ?_
  unfold m_Ring____len__
  repeat' walk_at "ev"
  refine w_done h ?_
  repeat' walk_at "ev"
  rw [List.length_map]
  exact fin_closed0 rfl ⟨_, rfl, by omega, by omega, q⟩
end


section
variable {G : Store} {S S' : Cell} {QD : D → Store → Prop}
theorem fin_oneS {Y : Store} {a : Cell} {j : Nat} (hS : closedC 0 S' = true) (hk : Y[j]? = some a) (ha : closedC 0 a = true) (h : QD (.cell (S :: G).length) ((S' :: G) ++ [a])) : W (fin (S :: G) (.cell ((S' :: G).length + j)) ((S' :: G) ++ Y)) QD := by
  refine W.of (a := .cell (S :: G).length) (C := (S' :: G) ++ [a]) ?_ h
  have cond : (S :: G).length ≤ ((S' :: G) ++ Y).length ∧ ∀ (i : Nat), i < (S :: G).length → ((S' :: G) ++ Y)[i]? = (S :: G)[i]? ∨ ∃ c, ((S' :: G) ++ Y)[i]? = some c ∧ closedC (S :: G).length c = true := by
    refine ⟨by simp, fun i hi => ?_⟩
    cases i with
    | zero => exact .inr ⟨S', rfl, closedC_mono (Nat.zero_le _) _ hS⟩
    | succ i =>
      refine .inl ?_
      have hi : i < G.length := by simpa using hi
      show (G ++ Y)[i]? = G[i]?
      rw [List.getElem?_append_left hi]
  unfold fin
  rw [if_pos cond]
  simp only [at_app, hk]
  rw [if_neg (by simp), if_pos (closedC_mono (Nat.zero_le _) _ ha), app_take (by simp)]
end
section
variable {G X : Store} {n most : Int} {S : Cell} {QD : D → Store → Prop}
end


/-! what a step at a ring leaves as it is; deeds done back and again -/
/-- no cell points beyond the store -/
def SC (C : Store) : Prop := ∀ c ∈ C, closedC C.length c = true
theorem SC.set {C : Store} {l : Nat} {c : Cell} (h : SC C) (hc : closedC C.length c = true) : SC (C.set l c) := fun x hx => by
  rw [List.length_set]
  rcases List.mem_or_eq_of_mem_set hx with hx | rfl
  · exact h x hx
  · exact hc
theorem SC.app {C Y : Store} (h : SC C) (hY : ∀ c ∈ Y, closedC (C.length + Y.length) c = true) : SC (C ++ Y) := fun x hx => by
  rw [List.length_append]
  rcases List.mem_append.mp hx with hx | hx
  · exact closedC_mono (by omega) _ (h x hx)
  · exact hY x hx
theorem SC.one {c : Cell} {C : Store} (h : SC C) (hc : closedC C.length c = true) : SC (C ++ [c]) := h.app fun x hx => by
  rw [List.mem_singleton.mp hx]
  exact closedC_mono (by omega) _ hc
/-- what a step at the ring of the cells i, j, k leaves -/
structure Lv (C C' : Store) (i j k k' : Nat) : Prop where
  len : C.length ≤ C'.length
  at_ : ∀ l c, C[l]? = some c → l ≠ i → l ≠ j → l ≠ k → C'[l]? = some c
  nw : ∀ l, l < C.length → l ≠ k → l ≠ k'
  sc : SC C → SC C'
section
variable {C C' C2 : Store} {i j k k' k2 : Nat}
theorem Lv.refl : Lv C C i j k k := ⟨Nat.le_refl _, fun _ _ h _ _ _ => h, fun _ _ h => h, fun h => h⟩
theorem Lv.trans (h1 : Lv C C' i j k k') (h2 : Lv C' C2 i j k' k2) : Lv C C2 i j k k2 :=
  ⟨Nat.le_trans h1.len h2.len, fun l c h a b d => h2.at_ l c (h1.at_ l c h a b d) a b (h1.nw l (get_lt h) d), fun l hl d => h2.nw l (Nat.lt_of_lt_of_le hl h1.len) (h1.nw l hl d), fun h => h2.sc (h1.sc h)⟩
end
/-- the deeds done, each with the stand ahead -/
def hst : List Int × List Int → List Dd → List (Dd × (List Int × List Int))
  | _, [] => []
  | p, e :: es => (e, p) :: hst (step p e) es
theorem hst_len : ∀ (es : List Dd) (p : List Int × List Int), (hst p es).length = es.length
  | [], _ => rfl
  | e :: es, p => by
    show (hst (step p e) es).length + 1 = es.length + 1
    rw [hst_len es]
theorem hst_fst : ∀ (es : List Dd) (p : List Int × List Int), (hst p es).map (·.1) = es
  | [], _ => rfl
  | e :: es, p => by
    show e :: (hst (step p e) es).map (·.1) = e :: es
    rw [hst_fst es]
theorem hst_app : ∀ (es : List Dd) (e : Dd) (p : List Int × List Int), hst p (es ++ [e]) = hst p es ++ [(e, run p es)]
  | [], e, p => rfl
  | x :: es, e, p => by
    show (x, p) :: hst (step p x) (es ++ [e]) = (x, p) :: (hst (step p x) es ++ [(e, run (step p x) es)])
    rw [hst_app es]
abbrev enP (e : Dd × (List Int × List Int)) : PyData := .tuple [.tuple [.str e.1.1, .int e.1.2], .tuple [.list (e.2.1.map PyData.int), .list (e.2.2.map PyData.int)]]
/-- what is told of a ring's own lists -/
structure RgIn (n : Nat) (p : List Int × List Int) (dn : List (Dd × (List Int × List Int))) (bk : List Dd) : Prop where
  v : Vs p.1 p.2
  l : p.1.length = n + 1
  d : ∀ x ∈ dn, OkD n x.1 ∧ Vs x.2.1 x.2.2 ∧ x.2.1.length = n + 1
  b : OkH n bk
section
variable {n : Nat} {p : List Int × List Int} {dn : List (Dd × (List Int × List Int))} {bk : List Dd} {e : Dd}
theorem RgIn.n200 (h : RgIn n p dn bk) : n ≤ 201 := by
  have t1 := h.v.top
  have t2 := h.l
  omega
theorem RgIn.hn (h : RgIn n p dn bk) : (n : Int) = p.1.length - 1 := by have := h.l; omega
theorem RgIn.put (h : RgIn n p dn bk) (he : OkD n e) : RgIn n (step p e) (dn ++ [(e, p)]) bk := by
  obtain ⟨vs, vl⟩ := step_vs (n := n) h.v h.hn he
  refine ⟨vs, by rw [vl]; exact h.l, fun x hx => ?_, h.b⟩
  rcases List.mem_append.mp hx with hx | hx
  · exact h.d x hx
  · rw [List.mem_singleton.mp hx]
    exact ⟨he, h.v, h.l⟩
theorem RgIn.did (h : RgIn n p dn bk) (he : OkD n e) : RgIn n (step p e) (dn ++ [(e, p)]) [] := ⟨(h.put he).v, (h.put he).l, (h.put he).d, fun _ h => nomatch h⟩
theorem RgIn.back {p0 : List Int × List Int} (h : RgIn n p (dn ++ [(e, p0)]) bk) : RgIn n p0 dn (bk ++ [e]) := by
  obtain ⟨h1, h2, h3⟩ := h.d (e, p0) (List.mem_append.mpr (.inr (List.mem_singleton.mpr rfl)))
  refine ⟨h2, h3, fun x hx => h.d x (List.mem_append.mpr (.inl hx)), fun x hx => ?_⟩
  rcases List.mem_append.mp hx with hx | hx
  · exact h.b x hx
  · rw [List.mem_singleton.mp hx]
    exact h1
theorem RgIn.again (h : RgIn n p dn (bk ++ [e])) : RgIn n (step p e) (dn ++ [(e, p)]) bk := by
  have h0 : RgIn n p dn bk := ⟨h.v, h.l, h.d, fun x hx => h.b x (List.mem_append.mpr (.inl hx))⟩
  exact h0.put (h.b e (List.mem_append.mpr (.inr (List.mem_singleton.mpr rfl))))
theorem toPs0_map {A : Type} {f : A → D} {p : A → PyData} (h : ∀ a, toP0 (f a) = some (p a)) : ∀ l : List A, toPs0 (l.map f) = some (l.map p)
  | [] => rfl
  | x :: l => by
    show (match toP0 (f x), toPs0 (l.map f) with
      | some p, some ps => some (p :: ps)
      | _, _ => none) = _
    rw [h, toPs0_map h l]
    rfl
theorem toP0_stand (a b : List Int) : toP0 (sD a b) = some (.tuple [.list (a.map PyData.int), .list (b.map PyData.int)]) := by
  have h : ∀ l : List Int, toP0 (.lst (l.map D.int)) = some (.list (l.map PyData.int)) := fun l => by
    show (toPs0 (l.map D.int)).map PyData.list = _
    rw [toPs0_map (p := PyData.int) (fun _ => rfl)]
    rfl
  show (match toP0 (.lst (a.map D.int)), (match toP0 (.lst (b.map D.int)), (some [] : Option (List PyData)) with
      | some p, some ps => some (p :: ps)
      | _, _ => none) with
    | some p, some ps => some (p :: ps)
    | _, _ => none).map PyData.tuple = _
  rw [h, h]
  rfl
theorem toP0_en (e : Dd × (List Int × List Int)) : toP0 (enD e) = some (enP e) := by
  show (match toP0 (dD e.1), (match toP0 (sD e.2.1 e.2.2), (some [] : Option (List PyData)) with
      | some p, some ps => some (p :: ps)
      | _, _ => none) with
    | some p, some ps => some (p :: ps)
    | _, _ => none).map PyData.tuple = _
  rw [toP0_stand]
  rfl
theorem toP_en (e : Dd × (List Int × List Int)) (C : Store) : toP C (enD e) = some (enP e) := by
  have h : ∀ l : List Int, toP C (.lst (l.map D.int)) = some (.list (l.map PyData.int)) := fun l => toP_ints _ _
  show (match toP C (dD e.1), (match (match toP C (.lst (e.2.1.map D.int)), (match toP C (.lst (e.2.2.map D.int)), (some [] : Option (List PyData)) with
      | some p, some ps => some (p :: ps)
      | _, _ => none) with
    | some p, some ps => some (p :: ps)
    | _, _ => none).map PyData.tuple, (some [] : Option (List PyData)) with
      | some p, some ps => some (p :: ps)
      | _, _ => none) with
    | some p, some ps => some (p :: ps)
    | _, _ => none).map PyData.tuple = _
  rw [h, h]
  rfl
theorem shaped_dn (h : ∀ x ∈ dn, OkD n x.1 ∧ Vs x.2.1 x.2.2 ∧ x.2.1.length = n + 1) (hn : n ≤ 201) : SeqAt.shaped (.list (dn.map enP)) = true := by
  have h : Shw (.lst (dn.map enD)) ((47 + 17000 + 2 + 1) * dn.length) (max 1 2 + 1 + 1) (.list (dn.map enP)) := Shw.map (f := enD) (p := enP) toP_en fun e he => by
    obtain ⟨h1, h2, h3⟩ := h e he
    exact Shw.tup2 (Shw.deed h1 (by omega)) (Shw.stand h2)
  show (_ && decide (_ ≤ 64)) = true
  rw [Bool.and_eq_true]
  exact ⟨h.la, decide_eq_true (Nat.le_trans h.de (by decide))⟩
end
section
variable {C : Store} {QD : D → Store → Prop} {i j k n : Nat} {p p0 : List Int × List Int} {dn : List (Dd × (List Int × List Int))} {bk : List Dd} {e : Dd}
theorem w_empP {ds : List D} {ps : List PyData} (hk : C[k]? = some (.lst ds)) (hp : toPs0 ds = some ps) (hl : ps.length = ds.length) (hs : SeqAt.shaped (.list ps) = true) (q : QD (.bl (decide (ds = []))) C) : W (gEq (.cell k) (.lst []) C) QD := by
  refine w_eqP (p := .list ps) (q := .list []) ?_ rfl hs rfl (fun a e => by cases e) ?_
  · show (lstAt C k).bind (fun ds => (toPs0 ds).map PyData.list) = _
    rw [lstAt_lst hk]
    show (toPs0 ds).map PyData.list = _
    rw [hp]
    rfl
  · show QD (.bl (PyData.eqvAll ps [])) C
    cases ps with
    | nil => cases ds with
      | nil => exact q
      | cons d ds => cases hl
    | cons x ps => cases ds with
      | nil => cases hl
      | cons d ds => exact q
theorem w_empD (h : RingAt C i j k p dn bk) (hi : RgIn n p dn bk) (q : QD (.bl (decide (dn = []))) C) : W (gEq (.cell j) (.lst []) C) QD := by
  refine w_empP h.d (toPs0_map toP0_en dn) (by simp) (shaped_dn hi.d hi.n200) ?_
  rwa [show decide (dn.map enD = []) = decide (dn = []) from by simp]
theorem w_popL {ds : List D} {x : D} (hk : C[k]? = some (.lst (ds ++ [x]))) (h : QD x (C.set k (.lst ds))) : W (gPop (.cell k) [] C) QD := by
  refine W.of (a := x) (C := C.set k (.lst ds)) ?_ h
  have hc : cellOf C (.cell k) = some (k, ds ++ [x]) := by
    show (mutAt C k).map (fun ds => (k, ds)) = _
    unfold mutAt
    rw [hk]
    rfl
  unfold gPop
  rw [hc]
  simp
theorem closed_ob' {m : Nat} (h2 : j < m) (h3 : k < m) : closedC m (obR p j k) = true := by
  simp [closedC, closedD, closedDs, closedDs_ints]
  omega
theorem closed_en {m : Nat} : closedC m (enL dn) = true := by
  show closedDs m (dn.map enD) = true
  induction dn with
  | nil => rfl
  | cons x dn ih =>
    show (closedD m (enD x) && closedDs m (dn.map enD)) = true
    rw [ih]
    simp [closedD, closedDs, closedDs_ints]
theorem did_lv (h : RingAt C i j k p dn bk) : Lv C (didC C i j k p dn e) i j k C.length := by
  obtain ⟨h1, h2, h3⟩ := h.lt
  have hl : (didC C i j k p dn e).length = C.length + 1 := by simp [didC]
  refine ⟨by omega, fun l c hc a b d => ?_, fun l hl _ => by omega, fun hs => ?_⟩
  · have := get_lt hc
    unfold didC
    rw [List.getElem?_set_ne (Ne.symm a), List.getElem?_append_left (by simp; omega), List.getElem?_set_ne (Ne.symm a), List.getElem?_set_ne (Ne.symm b)]
    exact hc
  · unfold didC
    refine SC.set (SC.one (SC.set (SC.set hs closed_en) ?_) rfl) ?_
    · rw [List.length_set]
      exact closed_ob' h2 h3
    · refine closed_ob' ?_ ?_ <;> simp <;> omega
theorem put_lv (h : RingAt C i j k p dn bk) : Lv C (putC C i j k p dn e) i j k k := by
  obtain ⟨h1, h2, h3⟩ := h.lt
  refine ⟨by simp, fun l c hc a b d => ?_, fun l hl h => h, fun hs => ?_⟩
  · rw [List.getElem?_set_ne (Ne.symm a), List.getElem?_set_ne (Ne.symm b)]
    exact hc
  · refine SC.set (SC.set hs closed_en) ?_
    rw [List.length_set]
    exact closed_ob' h2 h3
theorem goF {d : Int} (h : RingAt C i j k p dn bk) (hi : RgIn n p dn bk) (hd : 1 ≤ d ∧ d ≤ n) (hl : dn.length < 100000) (q : ∀ C' k', RingAt C' i j k' (step p ("go", d)) (dn ++ [((("go", d) : Dd), p)]) [] → RgIn n (step p ("go", d)) (dn ++ [((("go", d) : Dd), p)]) [] → Lv C C' i j k k' → QD .non C') : W (m_Ring__go [.cell i, .int d] C) QD :=
  go_ok h hi.v hi.hn hd hl (q _ _ (h.did _) (hi.did ⟨.inl rfl, hd⟩) (did_lv h))
theorem comeF {d : Int} (h : RingAt C i j k p dn bk) (hi : RgIn n p dn bk) (hd : 1 ≤ d ∧ d ≤ n) (hl : dn.length < 100000) (q : ∀ C' k', RingAt C' i j k' (step p ("come", d)) (dn ++ [((("come", d) : Dd), p)]) [] → RgIn n (step p ("come", d)) (dn ++ [((("come", d) : Dd), p)]) [] → Lv C C' i j k k' → QD .non C') : W (m_Ring__come [.cell i, .int d] C) QD :=
  come_ok h hi.v hi.hn hd hl (q _ _ (h.did _) (hi.did ⟨.inr rfl, hd⟩) (did_lv h))
theorem putF (h : RingAt C i j k p dn bk) (hi : RgIn n p dn bk) (he : OkD n e) (hl : dn.length < 100000) (q : ∀ C', RingAt C' i j k (step p e) (dn ++ [(e, p)]) bk → RgIn n (step p e) (dn ++ [(e, p)]) bk → Lv C C' i j k k → QD .non C') : W (m_Ring__put [.cell i, dD e] C) QD :=
  put_ok h hi.v hi.hn he hl (q _ (h.put e) (hi.put he) (put_lv h))
/-- the last deed done back -/
theorem backF (h : RingAt C i j k p (dn ++ [(e, p0)]) bk) (hi : RgIn n p (dn ++ [(e, p0)]) bk) (hl : bk.length < 100000) (q : ∀ C', RingAt C' i j k p0 dn (bk ++ [e]) → RgIn n p0 dn (bk ++ [e]) → Lv C C' i j k k → QD .non C') : W (m_Ring__back [.cell i] C) QD := by
  obtain ⟨h1, h2, h3⟩ := h.lt
  have lt : (bk.map dD).length < sizeLine := by rw [List.length_map]; exact Nat.lt_of_lt_of_le hl (by decide)
  have hd : C[j]? = some (.lst (dn.map enD ++ [enD (e, p0)])) := by
    have := h.d
    rwa [show enL (dn ++ [(e, p0)]) = .lst (dn.map enD ++ [enD (e, p0)]) from by simp [enL]] at this
  have g1 : (C.set j (.lst (dn.map enD)))[i]? = some (obR p j k) := by rw [List.getElem?_set_ne (Ne.symm h.ij)]; exact h.o
  have g2 : (C.set j (.lst (dn.map enD)))[k]? = some (.lst (bk.map dD)) := by rw [List.getElem?_set_ne h.jk]; exact h.b
  have g3 : ((C.set j (.lst (dn.map enD))).set k (.lst (bk.map dD ++ [dD e])))[i]? = some (obR p j k) := by rw [List.getElem?_set_ne (Ne.symm h.ik)]; exact g1
  have hne : ¬ (dn ++ [(e, p0)] = []) := by simp
  unfold m_Ring__back
  repeat' walk_at "ev"
  refine w_done h ?_
  repeat' walk_at "ev"
  refine w_empD h hi ?_
  refine ⟨_, rfl, ite_f (decide_eq_false hne) ?_⟩
  repeat' walk_at "ev"
  refine w_done h ?_
  repeat' walk_at "ev"
  refine ⟨w_chkC hd, ?_⟩
  refine w_popL hd ?_
  repeat' walk_at "ev"
  refine w_gfld (v := .cell k) g1 rfl ?_
  repeat' walk_at "ev"
  refine ⟨w_chkC g2, ?_⟩
  repeat' walk_at "ev"
  refine w_sFld ?_
  repeat' walk_at "ev"
  refine ⟨i, _, rfl, g3, by show (3 : Nat) < 1000; decide, ?_⟩
  repeat' walk_at "ev"
  refine q _ ⟨?_, ?_, ?_, h.ij, h.ik, h.jk⟩ hi.back ⟨by simp, fun l c hc a b d => ?_, fun _ _ h => h, fun hs => ?_⟩
  · rw [List.getElem?_set_self (by simpa using h1)]
    rfl
  · rw [List.getElem?_set_ne h.ij, List.getElem?_set_ne (Ne.symm h.jk), List.getElem?_set_self h2]
  · rw [List.getElem?_set_ne h.ik, List.getElem?_set_self (by simpa using h3)]
    simp
  · rw [List.getElem?_set_ne (Ne.symm a), List.getElem?_set_ne (Ne.symm d), List.getElem?_set_ne (Ne.symm b)]
    exact hc
  · refine SC.set (SC.set (SC.set hs closed_en) ?_) ?_
    · rw [show bk.map dD ++ [dD e] = (bk ++ [e]).map dD from by simp]
      exact closedC_mono (Nat.zero_le _) _ (dD_closed _)
    · simp only [List.length_set]
      exact closed_ob' h2 h3
end
section
variable {C : Store} {QD : D → Store → Prop} {x : Str} {n np nk pre post : Nat} {sl : Sl} {mas mks : MG (List D)} {mf : MF}
theorem w_IZ (h : W (mas sl C) fun xs C1 => W (mks sl C1) fun ys C2 => xs.length = np ∧ ys.length = nk ∧ 1 + np + pre + nk + post = n ∧ ∃ zs, xs ++ (List.replicate pre .non ++ (ys ++ List.replicate post .non)) = zs ∧ W (mf (.cell C2.length :: zs) (C2 ++ [.obj x []])) fun d C3 => d = .non ∧ QD (.cell C2.length) C3) : W (mI x n np nk pre post mf mas mks sl C) QD :=
  w_I (h.imp fun xs C1 h => h.imp fun ys C2 h => by
    obtain ⟨h1, h2, h3, zs, rfl, h4⟩ := h
    exact ⟨h1, h2, h3, h4⟩)
end


/-! a ring mended; the law's own mending by a dict of hands -/
section
variable {rs ls : List Int} {C : Store} {QD : D → Store → Prop} {x d : D} {P : Exn → Store → Prop} {sl : Sl} {n i j k h : Nat} {p : List Int × List Int} {dn : List (Dd × (List Int × List Int))} {bk : List Dd} {kvs : List (List Key × D)}
theorem RingAt.clear (h : RingAt C i j k p dn bk) : RingAt ((C ++ [Cell.lst []]).set i (obR p j C.length)) i j C.length p dn [] := by
  obtain ⟨h1, h2, h3⟩ := h.lt
  refine ⟨by rw [List.getElem?_set_self (by simp; omega)], by rw [List.getElem?_set_ne h.ij]; exact at_lo h.d, ?_, h.ij, by omega, by omega⟩
  rw [List.getElem?_set_ne (by omega)]
  exact at_app0
theorem clear_lv (h : RingAt C i j k p dn bk) : Lv C ((C ++ [Cell.lst []]).set i (obR p j C.length)) i j k C.length := by
  obtain ⟨h1, h2, h3⟩ := h.lt
  refine ⟨by simp, fun l c hc a b d => ?_, fun l hl _ => by omega, fun hs => ?_⟩
  · rw [List.getElem?_set_ne (Ne.symm a)]
    exact at_lo hc
  · refine SC.set (SC.one hs rfl) (closed_ob' ?_ ?_) <;> simp <;> omega
theorem mendF (h : RingAt C i j k p dn bk) (hi : RgIn n p dn bk) (hl : lostOf p.1 p.2 = []) (n1 : n ≤ 200) (hn : dn.length < 90000)
    (q : ∀ C' k', RingAt C' i j k' (run p (comes (leastT n p))) (dn ++ hst p (comes (leastT n p))) (if leastT n p = [] then bk else []) → RgIn n (run p (comes (leastT n p))) (dn ++ hst p (comes (leastT n p))) (if leastT n p = [] then bk else []) → Lv C C' i j k k' →
      QD (.cell C'.length) (C' ++ [cmL (leastT n p)])) : W (m_Ring__mend [.cell i] C) QD := by
  have hf : Fine n p := ⟨hi.v, hi.hn, hl⟩
  have hT := nth_tidy _ hf rfl hf.pos
  have hok : OkH n (comes (leastT n p)) := hT.ok hf
  have hlen : (comes (leastT n p)).length ≤ 200 := by
    have := comes_len (leastT n p)
    rw [List.length_map] at this
    rw [this, show (leastT n p).length = (unP p).length from nth_len _ _ _]
    exact Nat.le_trans hf.few n1
  have hnil : leastT n p = [] ↔ comes (leastT n p) = [] := by simp [comes]
  unfold m_Ring__mend
  repeat' walk_at "ev"
  refine w_fzL ?_
  repeat' walk_at "ev"
  refine w_stand h ?_
  repeat' walk_at "ev"
  refine mending_ok (.f _ _) hf n1 ⟨_, rfl, rfl, dD_closed _, ?_⟩
  generalize hes : comes (leastT n p) = es at *
  repeat' walk_at "ev"
  refine w_forM (fun t sl Cc => ∃ (k' : Nat) (x2 : Option D), sl = [some (.cell i), some (.lst (es.map dD)), x2] ∧ RingAt Cc i j k' (run p (es.take t)) (dn ++ hst p (es.take t)) (if t = 0 then bk else []) ∧ RgIn n (run p (es.take t)) (dn ++ hst p (es.take t)) (if t = 0 then bk else []) ∧ Lv C Cc i j k k') (fun _ _ _ _ => okG_nil _) ?_ ?_ ⟨k, none, rfl, by simpa [hst, run] using h, by simpa [hst, run] using hi, .refl⟩
  · intro t d sl Cc hd hI
    obtain ⟨k', x2, rfl, hr, hg, hv⟩ := hI
    rw [List.getElem?_map, Option.map_eq_some_iff] at hd
    obtain ⟨e, he, rfl⟩ := hd
    have heo := hok e (List.mem_of_getElem? he)
    have lt : (dn ++ hst p (es.take t)).length < 100000 := by
      rw [List.length_append, hst_len, List.length_take]
      omega
    repeat' walk_at "ev"
    refine w_M ?_
    repeat' walk_at "ev"
    refine ⟨i, _, rfl, hr.o, rfl, ?_⟩
    repeat' walk_at "ev"
    refine ⟨rfl, ?_⟩
    refine putF hr hg heo lt fun C2 r2 g2 v2 => ?_
    repeat' walk_at "ev"
    refine w_sFld ?_
    repeat' walk_at "ev"
    refine ⟨i, _, rfl, at_lo r2.o, by show (3 : Nat) < 1000; decide, ?_⟩
    repeat' walk_at "ev"
    have e1 : run p (es.take (t + 1)) = step (run p (es.take t)) e := run_take he
    have e2 : hst p (es.take (t + 1)) = hst p (es.take t) ++ [(e, run p (es.take t))] := by
      rw [List.take_succ, he]
      exact hst_app _ _ _
    refine ⟨C2.length, _, rfl, ?_, ?_, (hv.trans v2).trans (clear_lv r2)⟩
    · rw [e1, e2, ← List.append_assoc, if_neg (by omega)]
      exact r2.clear
    · rw [e1, e2, ← List.append_assoc, if_neg (by omega)]
      exact ⟨g2.v, g2.l, g2.d, fun _ h => nomatch h⟩
  · intro sl Cc hI
    obtain ⟨k', x2, rfl, hr, hg, hv⟩ := hI
    rw [List.length_map, List.take_length] at hr hg
    have e0 : (if es.length = 0 then bk else []) = (if leastT n p = [] then bk else []) := by
      by_cases c : es = []
      · rw [if_pos (hnil.mpr c), if_pos (by rw [c]; rfl)]
      · rw [if_neg (fun z => c (hnil.mp z)), if_neg (fun z => c (List.length_eq_zero_iff.mp z))]
    rw [e0] at hr hg
    repeat' walk_at "ev"
    have := q Cc k' hr hg hv
    rw [show cmL (leastT n p) = .lst (es.map dD) from by rw [← hes]; rfl] at this
    exact w_listL (W.of rfl this)
end
section
variable {C : Store} {QD : D → Store → Prop} {k n : Nat} {kvs : List (List Key × D)} {rs ls : List Int}
end


section
variable {C : Store} {QD : D → Store → Prop}
theorem shw_shaped {x : D} {w dp : Nat} {p : PyData} (h : Shw x w dp p) (hd : dp ≤ 64) : SeqAt.shaped p = true := by
  show (PyData.canLay0 _ && decide (PyData.depth _ ≤ 64)) = true
  rw [h.la, decide_eq_true (Nat.le_trans h.de hd)]
  rfl
theorem w_neShw {x : D} {w dp : Nat} {p : PyData} (h : Shw x w dp p) (hd : dp ≤ 64) (hn : ∀ a, x ≠ .str a) (q : QD (.bl false) C) : W (gNe x x C) QD := by
  refine w_neP (h.to C) (h.to C) (shw_shaped h hd) (shw_shaped h hd) hn ?_
  rw [SeqAt.eqv_refl p h.la]
  exact q
theorem w_eqShw {x : D} {w dp : Nat} {p : PyData} (h : Shw x w dp p) (hd : dp ≤ 64) (hn : ∀ a, x ≠ .str a) (q : QD (.bl true) C) : W (gEq x x C) QD := by
  refine w_eqP (h.to C) (h.to C) (shw_shaped h hd) (shw_shaped h hd) hn ?_
  rw [SeqAt.eqv_refl p h.la]
  exact q
end

/-! a ring begun, with its hands; what else a ring tells -/
section
variable {C : Store} {QD : D → Store → Prop} {i j k h d n : Nat} {p : List Int × List Int} {dn : List (Dd × (List Int × List Int))} {bk : List Dd} {S : Cell} {x : Int}
theorem w_mfz {sl : Sl} {mo : ME} {m : Nat} (h : RingAt C i j k p dn bk) (ho : W (mo sl C) fun x C1 => x = .cell i ∧ C1 = C) (q : QD (sD p.1 p.2) C) : W (mFz (m + 2) (mM "Ring" "stand" 1 m_Ring__stand mo aNil) sl C) QD := by
  refine w_fzS ?_
  refine w_M (ho.imp fun x C1 hx => ?_)
  obtain ⟨rfl, rfl⟩ := hx
  refine ⟨i, _, rfl, h.o, rfl, ?_⟩
  repeat' walk_at "ev"
  refine ⟨rfl, ?_⟩
  exact rstand_ok h ⟨_, _, rfl, rfl, closedDs_ints _ _, closedDs_ints _ _, q⟩
theorem w_hfz {sl : Sl} {mo : ME} {m : Nat} (h : RingAt C i j k p dn bk) (hl : dn.length ≤ 100000) (ho : W (mo sl C) fun x C1 => x = .cell i ∧ C1 = C) (q : QD (.lst ((dn.map (·.1)).map dD)) C) : W (mFz (m + 1) (mM "Ring" "history" 1 m_Ring__history mo aNil) sl C) QD := by
  refine w_fzL ?_
  refine w_M (ho.imp fun x C1 hx => ?_)
  obtain ⟨rfl, rfl⟩ := hx
  refine ⟨i, _, rfl, h.o, rfl, ?_⟩
  repeat' walk_at "ev"
  refine ⟨rfl, ?_⟩
  exact rhistory_ok h hl ⟨_, rfl, rfl, dD_closed _, q⟩
end


/-! how many went later than at most one neighbour; an order drawn -/
section
variable {C : Store} {QD : D → Store → Prop} {n : Nat} {ws : List Int}
theorem prsW : ∀ l : List Nat, pairsD (l.map fun k => D.tup [.int (ws.getD k 0), .int k]) = some (l.map fun k => (D.int (ws.getD k 0), D.int k))
  | [] => rfl
  | k :: l => by
    show (pairsD (l.map fun k => D.tup [.int (ws.getD k 0), .int k])).map _ = _
    rw [prsW l]
    rfl
theorem fksW : ∀ l : List Nat, fkKeys (l.map fun k => (D.int (ws.getD k 0), D.int k)) = some (l.map fun k => (Sum.inl (ws.getD k 0), D.int k))
  | [] => rfl
  | k :: l => by
    show (keyOf (D.int (ws.getD k 0))).bind (fun q => (fkKeys (l.map fun k => (D.int (ws.getD k 0), D.int k))).map ((q, D.int k) :: ·)) = _
    rw [fksW l]
    rfl
theorem went_some {x : Int} (hd : ws.Nodup) : (valD (wentOf ws) (Sum.inl x)).isSome = decide (x ∈ ws) := by
  by_cases c : x ∈ ws
  · rw [went_get hd c, decide_eq_true c]
    rfl
  · rw [decide_eq_false c]
    have : valD (wentOf ws) (Sum.inl x) = none := by
      unfold wentOf
      rw [val_foldN _ _ fun i hi z => c ?_]
      · rfl
      · have hi := List.mem_range.mp hi
        have z := Sum.inl.inj z
        rw [List.getD_eq_getElem?_getD, List.getElem?_eq_getElem hi] at z
        have z : ws[i] = x := z
        exact z ▸ List.getElem_mem hi
    rw [this]
    rfl
theorem get_lt' {A : Type} {L : List A} {l : Nat} {a : A} (h : L[l]? = some a) : l < L.length := (List.getElem?_eq_some_iff.mp h).1
theorem late_two {x : Int} : decide ((([x - 1, x + 1] : List Int).filter fun y => decide (ws.idxOf y < ws.idxOf x)).length < 2) = !late ws x := by
  unfold late
  by_cases c1 : ws.idxOf (x - 1) < ws.idxOf x <;> by_cases c2 : ws.idxOf (x + 1) < ws.idxOf x <;> simp [c1, c2]
theorem take_late {i : Nat} {x : Int} (hx : ws[i]? = some x) : ((ws.take (i + 1)).filter fun x => !late ws x).length = ((ws.take i).filter fun x => !late ws x).length + (if late ws x = true then 0 else 1) := by
  rw [List.take_succ, hx, List.filter_append, List.length_append]
  by_cases c : late ws x = true
  · rw [if_pos c]
    simp [c]
  · rw [if_neg c]
    simp [c]
theorem tst_ok {sl : Sl} {y x : Int} {k : Nat} {Q : Bool → Store → Prop} (s7 : sl[7]? = some (some (.int y))) (s2 : sl[2]? = some (some (.cell k))) (s4 : sl[4]? = some (some (.int x))) (hk : C[k]? = some (.dk (wentOf ws))) (hxm : x ∈ ws) (hd : ws.Nodup) (q : Q (decide (ws.idxOf y < ws.idxOf x)) C) :
    W (tAndM (mT (mDInK false (mVar 7) (mVar 2))) (mT (m2 gLt (mDGetK (mVar 2) (mVar 7)) (mDGetK (mVar 2) (mVar 4)))) sl C) Q := by
  have g1 := went_get hd hxm
  refine w_tAnd ?_
  refine w_T ?_
  refine w_dinK ?_
  refine w_var s7 ?_
  refine w_var s2 ?_
  refine ⟨_, _, _, rfl, hk, rfl, ?_⟩
  rw [went_some hd]
  by_cases c : y ∈ ws
  · have g2 := went_get hd c
    rw [decide_eq_true c]
    refine ⟨_, rfl, ite_t rfl ?_⟩
    refine w_T ?_
    refine w_2 ?_
    refine w_dgetK ?_
    refine w_var s2 ?_
    refine w_var s7 ?_
    refine ⟨_, _, _, _, rfl, hk, rfl, g2, ?_⟩
    refine w_dgetK ?_
    refine w_var s2 ?_
    refine w_var s4 ?_
    refine ⟨_, _, _, _, rfl, hk, rfl, g1, ?_⟩
    repeat' walk_at "ev"
    have e : decide ((ws.idxOf y : Int) < (ws.idxOf x : Int)) = decide (ws.idxOf y < ws.idxOf x) := by
      rw [Bool.eq_iff_iff]
      simp
    first
      | exact ⟨_, rfl, by rw [e]; exact q⟩
      | (rw [e]; exact q)
  · have h1 := idx_lt hxm
    have h2 := idx_out c
    have hz : decide (ws.idxOf y < ws.idxOf x) = false := decide_eq_false (by omega)
    rw [decide_eq_false c]
    rw [hz] at q
    refine ⟨_, rfl, ite_f rfl ?_⟩
    exact q
theorem due_ok (hd : ws.Nodup) (hl : ws.length ≤ 200) {m : Int} (q : QD (.int (firsts ws).length) C) : W (m__law_due [.lst (ws.map D.int), .int m] C) QD := by
  unfold m__law_due
  repeat' walk_at "ev"
  refine w_lcIx (p := fun _ => true) (f := fun k => .tup [.int (ws.getD k 0), .int k]) (fun i d hd2 => ?_) ?_
  · have hd2 : (rgD 0 ((ws.map D.int).length : Nat))[i]? = some d := hd2
    rw [List.length_map] at hd2
    obtain ⟨hi, rfl⟩ := rgD_get (n := ws.length) hd2
    obtain ⟨x, hx⟩ := get_ex hi
    have az : atI (ws.map D.int) (i : Int) = some (.int x) := Nv.atI_nat (by rw [List.getElem?_map, hx]; rfl)
    repeat' walk_at "ev"
    refine ⟨rfl, rfl, fun _ => ?_⟩
    repeat' walk_at "ev"
    exact ⟨by rw [getD_of hx], rfl⟩
  rw [filter_all, rgD_length, List.length_map, show ((ws.length : Int) - 0).toNat = ws.length from by omega]
  repeat' walk_at "ev"
  refine w_dictK (ds := (List.range ws.length).map fun k => D.tup [.int (ws.getD k 0), .int k]) rfl (prsW _) (fksW _) ?_
  have hp : putDs [] ((List.range ws.length).map fun k : Nat => ((Sum.inl (ws.getD k 0) : Key), D.int k)) = wentOf ws := by
    unfold putDs wentOf
    rw [List.foldl_map]
  rw [hp]
  have hk : (C ++ [Cell.dk (wentOf ws)])[C.length]? = some (.dk (wentOf ws)) := at_app0
  repeat' walk_at "ev"
  refine w_forM (fun i sl Cc => ∃ (x4 x5 : Option D), sl = [some (.lst (ws.map D.int)), some (.int m), some (.cell C.length), some (.int (((ws.take i).filter fun x => !late ws x).length : Nat)), x4, x5, none, none] ∧ Cc = C ++ [.dk (wentOf ws)]) (fun _ _ _ _ => okG_nil _) ?_ ?_ ⟨none, none, rfl, rfl⟩
  · intro i d sl Cc hd2 hI
    obtain ⟨x4, x5, rfl, rfl⟩ := hI
    rw [List.getElem?_map, Option.map_eq_some_iff] at hd2
    obtain ⟨x, hx, rfl⟩ := hd2
    have hxm := List.mem_of_getElem? hx
    have hil := get_lt' hx
    have g1 := went_get hd hxm
    have hln : ((ws.take i).filter fun x => !late ws x).length ≤ 200 := Nat.le_trans (List.length_filter_le _ _) (by rw [List.length_take]; omega)
    have hk2 := late_two (ws := ws) (x := x)
    have htk := take_late hx
    have hlt : late ws x = (decide (ws.idxOf (x - 1) < ws.idxOf x) && decide (ws.idxOf (x + 1) < ws.idxOf x)) := by
      unfold late
      rw [Bool.eq_iff_iff]
      simp
    have hcnt : ∀ l : List D, (decide ((l.length : Int) < 2) = !late ws x) → (((ws.take i).filter fun x => !late ws x).length : Int) + (if decide ((l.length : Int) < 2) = true then 1 else 0) = (((ws.take (i + 1)).filter fun x => !late ws x).length : Nat) := fun l hl => by
      rw [htk, hl]
      cases late ws x <;> simp
    repeat' ((fail_if_success (with_reducible refine w_tAnd ?_)); walk_at "ev")
    refine tst_ok (y := x - 1) (x := x) rfl rfl rfl hk hxm hd ?_
    by_cases c1 : ws.idxOf (x - 1) < ws.idxOf x
    all_goals
      first
        | (rw [decide_eq_true c1])
        | (rw [decide_eq_false c1])
      repeat' ((fail_if_success (with_reducible refine w_tAnd ?_)); walk_at "ev")
      refine tst_ok (y := x + 1) (x := x) rfl rfl rfl hk hxm hd ?_
      by_cases c2 : ws.idxOf (x + 1) < ws.idxOf x
      all_goals
        first
          | (rw [decide_eq_true c2])
          | (rw [decide_eq_false c2])
        repeat' walk_at "ev"
        rw [hcnt _ (by rw [hlt]; simp [c1, c2])]
        exact ⟨_, _, rfl, rfl⟩
  · intro sl Cc hI
    obtain ⟨x4, x5, rfl, rfl⟩ := hI
    rw [List.length_map, List.take_length]
    repeat' walk_at "ev"
    exact fin_closed rfl q
end


section
variable {C G : Store} {n : Nat} {S : Cell} {QD : D → Store → Prop}
theorem order_okR (hS : Jr S) (h1 : 1 ≤ n) (h2 : n ≤ 200) (q : ∀ S' ws, Jr S' → ws.Nodup → In n ws → 1 ≤ ws.length → ws.length ≤ n → QD (.cell (S :: G).length) ((S' :: G) ++ [iL ws])) : W (m__law_order [.cell 0, .int n] (S :: G)) QD := by
  unfold m__law_order
  repeat' walk_at "ev"
  refine w_rg (by simp [lowI]; omega) ?_
  rw [rg_ints]
  generalize hL : (List.range ((n : Int) + 1 - 1).toNat).map (fun i : Nat => (1 : Int) + (i : Int)) = L
  have hl : L.length = n := by rw [← hL]; simp
  have hd : L.Nodup := by
    rw [← hL]
    refine List.pairwise_map.mpr (List.nodup_range.imp fun {i j} e z => e ?_)
    have z : (1 : Int) + (i : Int) = 1 + (j : Int) := z
    omega
  have hI : In n L := fun x hx => by
    rw [← hL] at hx
    obtain ⟨i, hi, rfl⟩ := List.mem_map.mp hx
    have := List.mem_range.mp hi
    omega
  repeat' walk_at "ev"
  refine pull_c hS (by omega) (by omega) fun r1 S1 a1 b1 hS1 => ?_
  repeat' walk_at "ev"
  refine pull_c hS1 (by omega) (by omega) fun r2 S2 a2 b2 hS2 => ?_
  obtain ⟨ct, hct, c0, c1⟩ : ∃ ct : Nat, atI [D.int n, D.int (1 + r1), D.int (min (n : Int) 3)] r2 = some (.int ct) ∧ 1 ≤ ct ∧ ct ≤ n := by
    have : r2 = 0 ∨ r2 = 1 ∨ r2 = 2 := by omega
    rcases this with rfl | rfl | rfl
    · exact ⟨n, rfl, by omega, by omega⟩
    · exact ⟨(1 + r1).toNat, by rw [show (((1 + r1).toNat : Nat) : Int) = 1 + r1 from by omega]; rfl, by omega, by omega⟩
    · exact ⟨(min (n : Int) 3).toNat, by rw [show (((min (n : Int) 3).toNat : Nat) : Int) = min (n : Int) 3 from by omega]; rfl, by omega, by omega⟩
  repeat' walk_at "ev"
  refine w_lcM (fun i acc C' => ∃ xs S' left, acc = xs.map D.int ∧ C' = (S' :: G) ++ [iL left] ∧ Jr S' ∧ (xs ++ left).Perm L ∧ xs.length = i) (fun _ _ _ _ => okG_nil _) (fun i d acc C' hd hi => ?_) (fun zs C' hi => ?_) ⟨[], S2, L, rfl, rfl, hS2, .refl _, rfl⟩
  · obtain ⟨xs, S', left, rfl, rfl, hS', hp, hxl⟩ := hi
    obtain ⟨hi, rfl⟩ := rgD_get (n := ct) hd
    have hlen : left.length = n - i := by
      have := hp.length_eq
      rw [List.length_append] at this
      omega
    have hk : ((S' :: G) ++ [iL left])[(S :: G).length]? = some (iL left) := at_app0 (A := S' :: G)
    repeat' walk_at "ev"
    refine isL_and (w_chkC hk) ?_
    repeat' walk_at "ev"
    rw [List.length_map]
    refine pull_c hS' (by omega) (by omega) fun r S4 r0 r1 hS4 => ?_
    obtain ⟨r, rfl⟩ : ∃ t : Nat, r = t := ⟨r.toNat, by omega⟩
    obtain ⟨x, hx⟩ := get_ex (l := left) (i := r) (by omega)
    have hk4 : ((S4 :: G) ++ [iL left])[(S :: G).length]? = some (iL left) := at_app0 (A := S4 :: G)
    repeat' walk_at "ev"
    refine w_popAt (ds := left.map D.int) (x := .int x) hk4 (by rw [List.getElem?_map, hx]; rfl) (by omega) ?_
    refine ⟨xs ++ [x], S4, left.eraseIdx r, by simp, ?_, hS4, ?_, by simp [hxl]⟩
    · rw [show (S :: G).length = (S4 :: G).length from rfl, set_app0, erase_map]
      rfl
    · rw [List.append_assoc]
      exact ((perm_erase hx).append_left xs).trans hp
  · obtain ⟨xs, S', left, rfl, rfl, hS', hp, hxl⟩ := hi
    rw [rgD_len] at hxl
    have hn2 : (xs ++ left).Nodup := hp.nodup_iff.mpr hd
    refine w_newC ?_
    rw [List.append_assoc, List.length_append]
    repeat' walk_at "ev"
    refine fin_oneS (S := S) (j := 1) (hS'.closed _) rfl (closedDs_ints _ _) (q S' xs hS' (List.nodup_append.mp hn2).1 (fun x hx => hI x (hp.subset (List.mem_append_left _ hx))) (by omega) (by omega))
end


/-! a ring from the whole one: what it did tells all of it -/
abbrev whP (n : Nat) : List Int × List Int := (whR n, whL n)
structure RH (C : Store) (i j k n : Nat) (es bk : List Dd) : Prop where
  r : RingAt C i j k (run (whP n) es) (hst (whP n) es) bk
  g : RgIn n (run (whP n) es) (hst (whP n) es) bk
theorem hst_cat : ∀ (es cs : List Dd) (p : List Int × List Int), hst p (es ++ cs) = hst p es ++ hst (run p es) cs
  | [], cs, p => rfl
  | x :: es, cs, p => by
    show (x, p) :: hst (step p x) (es ++ cs) = (x, p) :: (hst (step p x) es ++ hst (run (step p x) es) cs)
    rw [hst_cat es]
theorem run_cat (p : List Int × List Int) (h k : List Dd) : run p (h ++ k) = run (run p h) k := by unfold run; rw [List.foldl_append]
section
variable {C : Store} {QD : D → Store → Prop} {i j k n : Nat} {es bk : List Dd} {S : Cell}
theorem RH.of {C' : Store} {k' : Nat} {bk' : List Dd} {e : Dd} (r : RingAt C' i j k' (step (run (whP n) es) e) (hst (whP n) es ++ [(e, run (whP n) es)]) bk') (g : RgIn n (step (run (whP n) es) e) (hst (whP n) es ++ [(e, run (whP n) es)]) bk') : RH C' i j k' n (es ++ [e]) bk' :=
  ⟨by rw [run_snoc, hst_app]; exact r, by rw [run_snoc, hst_app]; exact g⟩
theorem goes_ok {w : Str} {ws : List Int} {bound : Nat} (h : RH C i j k n es bk) (hw : w = "go" ∨ w = "come") (hi : In n ws) (hl : es.length + ws.length < 90000) (hb : bk.length ≤ bound) (q : ∀ C' k' bk', RH C' i j k' n (es ++ ws.map fun x => (w, x)) bk' → bk'.length ≤ bound → Lv C C' i j k k' → (ws ≠ [] → bk' = []) → QD .non C') : W (m__law_goes [.cell i, .lst (ws.map D.int), .str w] C) QD := by
  unfold m__law_goes
  repeat' walk_at "ev"
  refine w_forM (fun t sl Cc => ∃ (k' : Nat) (bk' : List Dd) (x3 : Option D), sl = [some (.cell i), some (.lst (ws.map D.int)), some (.str w), x3] ∧ RH Cc i j k' n (es ++ (ws.take t).map fun x => (w, x)) bk' ∧ bk'.length ≤ bound ∧ Lv C Cc i j k k' ∧ (0 < t → bk' = [])) (fun _ _ _ _ => okG_nil _) ?_ ?_ ⟨k, bk, none, rfl, by simpa using h, hb, .refl, fun z => absurd z (by omega)⟩
  · intro t d sl Cc hd hI
    obtain ⟨k', bk', x3, rfl, hr, hbl, hv, _⟩ := hI
    rw [List.getElem?_map, Option.map_eq_some_iff] at hd
    obtain ⟨x, hx, rfl⟩ := hd
    have hxi := hi x (List.mem_of_getElem? hx)
    have htl : t < ws.length := get_lt hx
    have lt : (hst (whP n) (es ++ (ws.take t).map fun x => (w, x))).length < 100000 := by
      rw [hst_len, List.length_append, List.length_map, List.length_take]
      omega
    have e1 : es ++ (ws.take (t + 1)).map (fun x => (w, x)) = (es ++ (ws.take t).map fun x => (w, x)) ++ [(w, x)] := by
      rw [List.take_succ, hx]
      simp
    repeat' walk_at "ev"
    rcases hw with rfl | rfl
    · repeat' walk_at "ev"
      refine w_M ?_
      repeat' walk_at "ev"
      refine ⟨i, _, rfl, hr.r.o, rfl, ?_⟩
      repeat' walk_at "ev"
      refine ⟨rfl, ?_⟩
      refine goF hr.r hr.g hxi lt fun C2 k2 r2 g2 v2 => ?_
      repeat' walk_at "ev"
      exact ⟨k2, [], _, rfl, by rw [e1]; exact .of r2 g2, Nat.zero_le _, hv.trans v2, fun _ => rfl⟩
    · repeat' walk_at "ev"
      refine w_M ?_
      repeat' walk_at "ev"
      refine ⟨i, _, rfl, hr.r.o, rfl, ?_⟩
      repeat' walk_at "ev"
      refine ⟨rfl, ?_⟩
      refine comeF hr.r hr.g hxi lt fun C2 k2 r2 g2 v2 => ?_
      repeat' walk_at "ev"
      exact ⟨k2, [], _, rfl, by rw [e1]; exact .of r2 g2, Nat.zero_le _, hv.trans v2, fun _ => rfl⟩
  · intro sl Cc hI
    obtain ⟨k', bk', x3, rfl, hr, hbl, hv, hz⟩ := hI
    rw [List.length_map, List.take_length] at hr
    repeat' walk_at "ev"
    exact q Cc k' bk' hr hbl hv fun z => hz (by rw [List.length_map]; exact List.length_pos_iff.mpr z)
end


/-! a twin; two rings side by side; alike or not -/
section
variable {C : Store} {QD : D → Store → Prop} {i j k n i2 j2 k2 : Nat} {p p2 : List Int × List Int} {dn dn2 : List (Dd × (List Int × List Int))} {bk bk2 : List Dd}
theorem twin_ok (h : RingAt C i j k p dn bk) (v : Vs p.1 p.2) (hl : dn.length ≤ 100000) (hb : bk.length ≤ 100000) (q : ∀ C', RingAt C' i j k p dn bk → RingAt C' C.length (C.length + 1) (C.length + 2) p dn bk → C'.length = C.length + 3 → (∀ (l : Nat) (c : Cell), C[l]? = some c → C'[l]? = some c) → QD (.cell C.length) C') : W (m_Ring__twin [.cell i] C) QD := by
  obtain ⟨l1, l2, l3⟩ := h.lt
  unfold m_Ring__twin
  repeat' walk_at "ev"
  refine w_IZ ?_
  repeat' walk_at "ev"
  refine w_stand h ?_
  repeat' walk_at "ev"
  refine ⟨rfl, [.non, sD p.1 p.2], rfl, ?_⟩
  refine init_stand (IsSt.f _ _) v ?_
  refine ⟨rfl, ?_⟩
  have m := made_at (C := C) (p := p)
  have h1 := h.app (Y := [obR p (C.length + 1) (C.length + 2), .lst [], .lst []])
  have hlow : ∀ l c, C[l]? = some c → (C ++ [obR p (C.length + 1) (C.length + 2), .lst [], .lst []])[l]? = some c := fun l c hc => at_lo hc
  have hlen : (C ++ [obR p (C.length + 1) (C.length + 2), Cell.lst [], Cell.lst []]).length = C.length + 3 := by simp
  generalize C ++ [obR p (C.length + 1) (C.length + 2), .lst [], .lst []] = C1 at m h1 hlow hlen ⊢
  have m2 : RingAt ((C1.set (C.length + 1) (.lst ([] ++ dn.map enD))).set (C.length + 2) (.lst ([] ++ bk.map dD))) C.length (C.length + 1) (C.length + 2) p dn bk := by
    refine ⟨?_, ?_, ?_, m.ij, m.ik, m.jk⟩
    · rw [List.getElem?_set_ne (by omega), List.getElem?_set_ne (by omega)]
      exact m.o
    · rw [List.getElem?_set_ne (by omega), List.getElem?_set_self (by omega)]
      rfl
    · rw [List.getElem?_set_self (by rw [List.length_set]; omega)]
      rfl
  have hA : (C1.set (C.length + 1) (.lst ([] ++ dn.map enD)))[C.length]? = some (obR p (C.length + 1) (C.length + 2)) := by rw [List.getElem?_set_ne (by omega)]; exact m.o
  have hB : (C1.set (C.length + 1) (.lst ([] ++ dn.map enD)))[C.length + 2]? = some (.lst []) := by rw [List.getElem?_set_ne (by omega)]; exact m.b
  have h2 := h1.set (l := C.length + 1) (c := .lst ([] ++ dn.map enD)) (by omega) (by omega) (by omega)
  have h3 := h2.set (l := C.length + 2) (c := .lst ([] ++ bk.map dD)) (by omega) (by omega) (by omega)
  repeat' walk_at "ev"
  refine w_gfld (v := .cell (C.length + 1)) m.o rfl ?_
  repeat' walk_at "ev"
  refine ⟨w_chkC m.d, ?_⟩
  repeat' walk_at "ev"
  refine w_done h1 ?_
  repeat' walk_at "ev"
  refine w_extend m.d h1.d (by simp only [List.length_nil, List.length_map]; exact Nat.le_trans (by omega : 0 + dn.length ≤ 100000) (by decide)) ?_
  repeat' walk_at "ev"
  refine w_gfld (v := .cell (C.length + 2)) hA rfl ?_
  repeat' walk_at "ev"
  refine ⟨w_chkC hB, ?_⟩
  repeat' walk_at "ev"
  refine w_back h2 ?_
  repeat' walk_at "ev"
  refine w_extend hB h2.b (by simp only [List.length_nil, List.length_map]; exact Nat.le_trans (by omega : 0 + bk.length ≤ 100000) (by decide)) ?_
  repeat' walk_at "ev"
  exact q _ h3 m2 (by simp [hlen]) fun (l : Nat) (c : Cell) (hc : C[l]? = some c) => by
    have := get_lt hc
    rw [List.getElem?_set_ne (by omega), List.getElem?_set_ne (by omega)]
    exact hlow l c hc
/-- no cell of one is one of the other -/
structure Dj (i j k i2 j2 k2 : Nat) : Prop where
  a : i ≠ i2 ∧ i ≠ j2 ∧ i ≠ k2
  b : j ≠ i2 ∧ j ≠ j2 ∧ j ≠ k2
  c : k ≠ i2 ∧ k ≠ j2 ∧ k ≠ k2
theorem Dj.symm (d : Dj i j k i2 j2 k2) : Dj i2 j2 k2 i j k := ⟨⟨Ne.symm d.a.1, Ne.symm d.b.1, Ne.symm d.c.1⟩, ⟨Ne.symm d.a.2.1, Ne.symm d.b.2.1, Ne.symm d.c.2.1⟩, ⟨Ne.symm d.a.2.2, Ne.symm d.b.2.2, Ne.symm d.c.2.2⟩⟩
theorem RingAt.keep {C' : Store} {k' : Nat} (h2 : RingAt C i2 j2 k2 p2 dn2 bk2) (v : Lv C C' i j k k') (d : Dj i j k i2 j2 k2) : RingAt C' i2 j2 k2 p2 dn2 bk2 ∧ Dj i j k' i2 j2 k2 := by
  obtain ⟨⟨a1, a2, a3⟩, ⟨b1, b2, b3⟩, ⟨c1, c2, c3⟩⟩ := d
  obtain ⟨l1, l2, l3⟩ := h2.lt
  exact ⟨⟨v.at_ _ _ h2.o (Ne.symm a1) (Ne.symm b1) (Ne.symm c1), v.at_ _ _ h2.d (Ne.symm a2) (Ne.symm b2) (Ne.symm c2), v.at_ _ _ h2.b (Ne.symm a3) (Ne.symm b3) (Ne.symm c3), h2.ij, h2.ik, h2.jk⟩,
    ⟨⟨a1, a2, a3⟩, ⟨b1, b2, b3⟩, ⟨Ne.symm (v.nw _ l1 (Ne.symm c1)), Ne.symm (v.nw _ l2 (Ne.symm c2)), Ne.symm (v.nw _ l3 (Ne.symm c3))⟩⟩⟩
theorem eq_ok (h : RingAt C i j k p dn bk) (h2 : RingAt C i2 j2 k2 p2 dn2 bk2) (q : QD (.bl (decide (p.1 = p2.1) && decide (p.2 = p2.2))) C) : W (m_Ring____eq__ [.cell i, .cell i2] C) QD := by
  unfold m_Ring____eq__
  repeat' walk_at "ev"
  refine w_isO (tyO_c h2.o) ?_
  repeat' walk_at "ev"
  refine w_stand h ?_
  repeat' walk_at "ev"
  refine w_stand h2 ?_
  repeat' walk_at "ev"
  refine w_eqSt ?_
  repeat' walk_at "ev"
  exact fin_closed0 rfl q
end


theorem held_wh_iff {rs ls : List Int} {n : Nat} (hr : rs.length = n + 1) (hl : ls.length = n + 1) : heldB rs ls = (decide (rs = whR n) && decide (ls = whL n)) := by
  by_cases h : rs = whR n ∧ ls = whL n
  · rw [h.1, h.2, held_wh, decide_eq_true rfl, decide_eq_true rfl]
    rfl
  · rw [show (decide (rs = whR n) && decide (ls = whL n)) = false from by
      rw [Bool.eq_false_iff]
      intro z
      rw [Bool.and_eq_true, decide_eq_true_iff, decide_eq_true_iff] at z
      exact h z]
    rw [Bool.eq_false_iff]
    intro z
    have hz : ∀ i, i < n + 1 → rs.getD i 0 = (i : Int) + 1 ∧ ls.getD i 0 = i := fun i hi => by
      unfold heldB at z
      rw [List.all_map, List.all_eq_true] at z
      have := z i (List.mem_range.mpr (by omega))
      exact word_held.mp (of_decide_eq_true this)
    refine h ⟨List.ext_getElem? fun i => ?_, List.ext_getElem? fun i => ?_⟩
    · by_cases hi : i < n + 1
      · have := (hz i hi).1
        rw [List.getD_eq_getElem?_getD, List.getElem?_eq_getElem (by omega)] at this
        rw [whR_get hi, List.getElem?_eq_getElem (by omega)]
        have this : rs[i] = (i : Int) + 1 := this
        rw [this, Int.add_comm]
      · rw [List.getElem?_eq_none (by omega), List.getElem?_eq_none (by rw [whR_len]; omega)]
    · by_cases hi : i < n + 1
      · have := (hz i hi).2
        rw [List.getD_eq_getElem?_getD, List.getElem?_eq_getElem (by omega)] at this
        rw [whL_get hi, List.getElem?_eq_getElem (by omega)]
        have this : ls[i] = (i : Int) := this
        rw [this]
      · rw [List.getElem?_eq_none (by omega), List.getElem?_eq_none (by rw [whL_len]; omega)]


section
variable {C G : Store} {QD : D → Store → Prop} {i j k n : Nat} {es bk : List Dd} {S : Cell} {rs ls : List Int} {ws : List Int}
theorem held_iffS : heldB rs ls = true ↔ ∀ i, i < rs.length → wAt rs ls i = "held" := by
  unfold heldB
  rw [List.all_map, List.all_eq_true]
  constructor
  · intro h i hi
    exact of_decide_eq_true (h i (List.mem_range.mpr hi))
  · intro h i hi
    exact decide_eq_true (h i (List.mem_range.mp hi))
theorem held_lostS (h : heldB rs ls = true) : lostOf rs ls = [] := by
  refine List.eq_nil_iff_forall_not_mem.mpr fun x hx => ?_
  unfold lostOf at hx
  obtain ⟨i, hi, rfl⟩ := List.mem_map.mp hx
  rw [List.mem_filter, List.mem_range] at hi
  have h1 := held_iffS.mp h i hi.1
  rw [h1] at hi
  exact absurd (of_decide_eq_true hi.2) (by decide +kernel)
theorem held_fewS (h : heldB rs ls = true) : fewN rs ls = 0 := by
  rw [few_dif, List.length_eq_zero_iff]
  refine List.eq_nil_iff_forall_not_mem.mpr fun x hx => ?_
  obtain ⟨i, hi, _⟩ := List.mem_map.mp (dif_mem.mp hx)
  obtain ⟨h1, h2⟩ := List.mem_filter.mp hi
  rw [held_iffS.mp h i (List.mem_range.mp h1)] at h2
  simp at h2
theorem RH.set {l : Nat} {c : Cell} (h : RH C i j k n es bk) (h1 : l ≠ i) (h2 : l ≠ j) (h3 : l ≠ k) : RH (C.set l c) i j k n es bk := ⟨h.r.set h1 h2 h3, h.g⟩
theorem RH.app {Y : Store} (h : RH C i j k n es bk) : RH (C ++ Y) i j k n es bk := ⟨h.r.app, h.g⟩
theorem comes_lenS (l : List Int) : (comes l).length = l.length := by simp [comes]
theorem mendedG_ok {p : List Int × List Int} {dn : List (Dd × (List Int × List Int))} {a b : List Int} {few : Nat} {cs : List Dd} (r : RingAt C i j k p dn []) (g : RgIn n p dn []) (n1 : n ≤ 200) (hl : lostOf p.1 p.2 = []) (he : dn.length < 80000)
    (hfew : fewN p.1 p.2 = few) (hcs : comes (leastT n p) = cs) (hlen : cs.length = few) (hf200 : few ≤ 200) (hok : OkH n cs) (hrun : run p cs = (a, b)) (hh : heldB a b = true)
    (q : ∀ C' k', RingAt C' i j k' (a, b) (dn ++ hst p cs) [] → RgIn n (a, b) (dn ++ hst p cs) [] → Lv C C' i j k k' → QD (.bl true) C') : W (m__law_mended_right [.cell i, sD a b] C) QD := by
  unfold m__law_mended_right
  repeat' walk_at "ev"
  refine w_M ?_
  repeat' walk_at "ev"
  refine ⟨i, _, rfl, r.o, rfl, ?_⟩
  repeat' walk_at "ev"
  refine ⟨rfl, ?_⟩
  refine rfewest_ok r g.v ?_
  rw [if_pos hl, hfew]
  repeat' walk_at "ev"
  refine rlen_ok r (by omega) ?_
  repeat' walk_at "ev"
  refine w_M ?_
  repeat' walk_at "ev"
  refine ⟨i, _, rfl, r.o, rfl, ?_⟩
  repeat' walk_at "ev"
  refine ⟨rfl, ?_⟩
  refine mendF r g hl n1 (by omega) fun C2 k2 r2 g2 v2 => ?_
  rw [ite_self, hcs, hrun] at r2 g2
  rw [show cmL (leastT n p) = .lst (cs.map dD) from by rw [← hcs]; rfl]
  have hm : (C2 ++ [Cell.lst (cs.map dD)])[C2.length]? = some (.lst (cs.map dD)) := at_app0
  have r3 : RingAt (C2 ++ [Cell.lst (cs.map dD)]) i j k2 (a, b) (dn ++ hst p cs) [] := r2.app
  have v3 : Lv C (C2 ++ [Cell.lst (cs.map dD)]) i j k k2 := ⟨Nat.le_trans v2.len (by simp), fun l c a b d e => at_lo (v2.at_ l c a b d e), v2.nw, fun hs => SC.one (v2.sc hs) (closedC_mono (Nat.zero_le _) _ (dD_closed _))⟩
  have qq := q _ k2 r3 g2 v3
  have hdl : (dn ++ hst p cs).length = dn.length + few := by rw [List.length_append, hst_len, hlen]
  have hcl : (cs.map dD).length = few := by rw [List.length_map, hlen]
  generalize C2 ++ [Cell.lst (cs.map dD)] = C3 at hm r3 qq ⊢
  generalize C2.length = m at hm ⊢
  clear r2 v2 v3 q
  have gv := g2.v
  generalize dn ++ hst p cs = dn2 at hdl r3 g2
  clear g2
  repeat' walk_at "ev"
  rw [hcl]
  refine ite_f (by rw [decide_eq_true rfl]; rfl) ?_
  repeat' walk_at "ev"
  refine rlen_ok r3 (by omega) ?_
  rw [hdl]
  repeat' walk_at "ev"
  refine ite_f (by rw [decide_eq_true (by omega)]; rfl) ?_
  repeat' walk_at "ev"
  refine w_M ?_
  repeat' walk_at "ev"
  refine ⟨i, _, rfl, r3.o, rfl, ?_⟩
  repeat' walk_at "ev"
  refine ⟨rfl, ?_⟩
  refine rfewest_ok r3 gv ?_
  rw [held_lostS hh, if_pos rfl, held_fewS hh]
  repeat' walk_at "ev"
  refine w_mfz r3 (w_var rfl ⟨rfl, rfl⟩) ?_
  repeat' walk_at "ev"
  refine w_eqShw (Shw.stand gv) (by decide) (fun a e => by cases e) ?_
  repeat' walk_at "ev"
  refine w_lcAf (φ := dD) (l := cs) (p := fun _ => false) (f := fun e => .str e.1) (fun p' hp' => by cases List.mem_singleton.mp hp'; exact hm) (fun t e he2 => ?_) ?_
  · have hce : e.1 = "come" := by
      have := List.mem_of_getElem? he2
      rw [← hcs] at this
      obtain ⟨w, _, rfl⟩ := List.mem_map.mp this
      rfl
    obtain ⟨e1, e2⟩ := e
    subst hce
    repeat' walk_at "ev"
    exact ⟨rfl, rfl, fun z => by cases z⟩
  rw [show (cs.filter fun _ => false) = [] from by simp]
  repeat' walk_at "ev"
  first
    | exact qq
    | (refine w_eqLI (l := []) (m := []) ?_
       repeat' walk_at "ev"
       exact qq)
theorem mendedR_ok (h : RH C i j k n es []) (n1 : n ≤ 200) (hl : lostOf (run (whP n) es).1 (run (whP n) es).2 = []) (he : es.length < 80000)
    (q : ∀ C' k' cs, run (whP n) (es ++ cs) = whP n → RH C' i j k' n (es ++ cs) [] → cs.length ≤ n → Lv C C' i j k k' → QD (.bl true) C') : W (m__law_mended_right [.cell i, sD (whR n) (whL n)] C) QD := by
  have hf : Fine n (run (whP n) es) := ⟨h.g.v, h.g.hn, hl⟩
  have hT := nth_tidy _ hf rfl hf.pos
  have hLn : (leastT n (run (whP n) es)).length = fewN (run (whP n) es).1 (run (whP n) es).2 := by
    rw [show (leastT n (run (whP n) es)).length = (unP (run (whP n) es)).length from nth_len _ _ _, ← uniq_few]
    rfl
  have hLf : (leastT n (run (whP n) es)).length ≤ n := by
    rw [show (leastT n (run (whP n) es)).length = (unP (run (whP n) es)).length from nth_len _ _ _]
    exact hf.few
  have hheld := hT.held hf
  obtain ⟨cs, hcs⟩ : ∃ cs, comes (leastT n (run (whP n) es)) = cs := ⟨_, rfl⟩
  have hlen : cs.length = fewN (run (whP n) es).1 (run (whP n) es).2 := by rw [← hcs, comes_lenS, hLn]
  have hok : OkH n cs := by rw [← hcs]; exact hT.ok hf
  have hheld : heldB (run (run (whP n) es) cs).1 (run (run (whP n) es) cs).2 = true := by rw [← hcs]; exact hheld
  obtain ⟨v1, l1⟩ := run_vs (n := n) (h := cs) h.g.v h.g.hn hok
  have hl1 : (run (run (whP n) es) cs).1.length = n + 1 := l1.trans h.g.l
  have hv : (run (run (whP n) es) cs).2.length = (run (run (whP n) es) cs).1.length := v1.len
  rw [held_wh_iff hl1 (by omega), Bool.and_eq_true, decide_eq_true_iff, decide_eq_true_iff] at hheld
  have hrun : run (run (whP n) es) cs = whP n := Prod.ext hheld.1 hheld.2
  refine mendedG_ok h.r h.g n1 hl (by rw [hst_len]; exact he) rfl hcs hlen (by rw [← hlen, ← hcs, comes_lenS]; omega) hok hrun (held_wh n) fun C' k' r2 g2 v2 => ?_
  have e1 : run (whP n) (es ++ cs) = whP n := by rw [run_cat, hrun]
  refine q C' k' cs e1 ⟨?_, ?_⟩ (by rw [← hcs, comes_lenS]; exact hLf) v2
  · rw [e1, hst_cat]
    exact r2
  · rw [e1, hst_cat]
    exact g2
end


section
variable {C G : Store} {QD : D → Store → Prop} {i j k n : Nat} {es bk : List Dd} {S : Cell} {ws : List Int}
theorem up_rg : rgD 1 ((n : Int) + 1) = (upto n).map D.int := by
  unfold rgD upto
  rw [show ((n : Int) + 1 - 1).toNat = n from by omega, List.map_map]
  rfl
theorem up_mem {x : Int} : x ∈ upto n ↔ 1 ≤ x ∧ x ≤ n := by
  unfold upto
  rw [List.mem_map]
  constructor
  · rintro ⟨i, hi, rfl⟩
    have := List.mem_range.mp hi
    omega
  · rintro ⟨h1, h2⟩
    exact ⟨(x - 1).toNat, List.mem_range.mpr (by omega), by omega⟩
theorem up_nodup : (upto n).Nodup := by
  unfold upto
  refine List.pairwise_map.mpr (List.nodup_range.imp fun {i j} e z => e ?_)
  have z : (1 : Int) + (i : Int) = 1 + (j : Int) := z
  omega
abbrev restL (n : Nat) (ws : List Int) : List Int := (upto n).filter fun x => !(ws.any fun y => y == x)
theorem rest_mem {x : Int} : x ∈ restL n ws ↔ (1 ≤ x ∧ x ≤ n) ∧ x ∉ ws := by
  rw [List.mem_filter, up_mem, Bool.not_eq_true', Bool.eq_false_iff]
  refine and_congr_right fun _ => not_congr ?_
  rw [List.any_eq_true]
  constructor
  · rintro ⟨y, hy, e⟩
    have : y = x := by simpa using e
    exact this ▸ hy
  · exact fun h => ⟨x, h, by simp⟩
theorem all_rest (hd : ws.Nodup) (hi : In n ws) : All n (ws ++ restL n ws) := by
  have nd : (ws ++ restL n ws).Nodup := List.nodup_append.mpr ⟨hd, up_nodup.filter _, fun a ha b hb e => by
    subst e
    exact (rest_mem.mp hb).2 ha⟩
  have inn : In n (ws ++ restL n ws) := fun x hx => by
    rcases List.mem_append.mp hx with hx | hx
    · exact hi x hx
    · exact (rest_mem.mp hx).1
  refine ⟨nd, inn, Nat.le_antisymm ?_ ?_⟩
  · have := nd_le (ys := upto n) nd fun x hx => up_mem.mpr (inn x hx)
    rwa [upto_len] at this
  · have := nd_le (xs := upto n) (ys := ws ++ restL n ws) up_nodup fun x hx => by
      by_cases c : x ∈ ws
      · exact List.mem_append_left _ c
      · exact List.mem_append_right _ (rest_mem.mpr ⟨up_mem.mp hx, c⟩)
    rwa [upto_len] at this
theorem round_ok (hS : Jr S) (hs : SC (S :: G)) (h : RH (S :: G) i j k n es []) (h0 : run (whP n) es = whP n) (n0 : 1 ≤ n) (n1 : n ≤ 200) (he : es.length < 10000) (z : 0 ≠ i ∧ 0 ≠ j ∧ 0 ≠ k)
    (q : ∀ C' S' k' es', C'[0]? = some S' → Jr S' → SC C' → RH C' i j k' n es' [] → 0 ≠ k' → run (whP n) es' = whP n → es'.length ≤ es.length + 5 * n → QD (.bl true) C') : W (m__law_round_right [.cell 0, .cell i, .int n, sD (whR n) (whL n)] (S :: G)) QD := by
  unfold m__law_round_right
  repeat' walk_at "ev"
  refine w_fz1 ?_
  repeat' walk_at "ev"
  refine order_okR hS n0 n1 fun S1 ws hS1 hd hi l0 l1 => ?_
  have s1 : SC (S1 :: G) := SC.set (C := S :: G) (l := 0) hs (closedC_mono (Nat.zero_le _) _ (hS1.closed 0))
  refine ⟨_, S1 :: G, rfl, rfl, rfl, s1, closedDs_ints _ _, ?_⟩
  have h1 : RH (S1 :: G) i j k n es [] := h.set (l := 0) (c := S1) z.1 z.2.1 z.2.2
  have lw : (ws.map D.int).length = ws.length := List.length_map ..
  repeat' walk_at "ev"
  refine w_listL (w_newC ?_)
  repeat' walk_at "ev"
  rw [lw]
  refine w_lcM (fun t acc C' => ∃ xs S' left, acc = xs.map D.int ∧ C' = (S' :: G) ++ [iL left] ∧ Jr S' ∧ (xs ++ left).Perm ws ∧ xs.length = t) (fun _ _ _ _ => okG_nil _) (fun t d acc C' hd2 hi2 => ?_) (fun zs C' hi2 => ?_) ⟨[], S1, ws, rfl, rfl, hS1, .refl _, rfl⟩
  · obtain ⟨xs, S', left, rfl, rfl, hS', hp, hxl⟩ := hi2
    obtain ⟨ht, rfl⟩ := rgD_get (n := ws.length) hd2
    have hlen : left.length = ws.length - t := by
      have := hp.length_eq
      rw [List.length_append] at this
      omega
    have hk : ((S' :: G) ++ [iL left])[(S1 :: G).length]? = some (iL left) := at_app0 (A := S' :: G)
    repeat' walk_at "ev"
    refine isL_and (w_chkC hk) ?_
    repeat' walk_at "ev"
    rw [List.length_map]
    refine pull_c hS' (by omega) (by omega) fun r S4 r0 r1 hS4 => ?_
    obtain ⟨r, rfl⟩ : ∃ t : Nat, r = t := ⟨r.toNat, by omega⟩
    obtain ⟨x, hx⟩ := get_ex (l := left) (i := r) (by omega)
    have hk4 : ((S4 :: G) ++ [iL left])[(S1 :: G).length]? = some (iL left) := at_app0 (A := S4 :: G)
    repeat' walk_at "ev"
    refine w_popAt (ds := left.map D.int) (x := .int x) hk4 (by rw [List.getElem?_map, hx]; rfl) (by omega) ?_
    refine ⟨xs ++ [x], S4, left.eraseIdx r, by simp, ?_, hS4, ?_, by simp [hxl]⟩
    · rw [show (S1 :: G).length = (S4 :: G).length from rfl, set_app0, erase_map]
      rfl
    · rw [List.append_assoc]
      exact ((perm_erase hx).append_left xs).trans hp
  obtain ⟨xs, S5, left, rfl, rfl, hS5, hp, hxl⟩ := hi2
  rw [rgD_len] at hxl
  have hxw : ∀ u ∈ xs, u ∈ ws := fun u hu => hp.subset (List.mem_append_left _ hu)
  have hxi : In n xs := fun u hu => hi u (hxw u hu)
  have s5 : SC ((S5 :: G) ++ [iL left]) := SC.one (SC.set (C := S :: G) (l := 0) hs (closedC_mono (Nat.zero_le _) _ (hS5.closed 0))) (closedDs_ints _ _)
  have h5 : RH ((S5 :: G) ++ [iL left]) i j k n es [] := RH.app (h.set (l := 0) (c := S5) z.1 z.2.1 z.2.2)
  have c5 : ((S5 :: G) ++ [iL left])[0]? = some S5 := rfl
  generalize (S5 :: G) ++ [iL left] = C5 at s5 h5 c5 ⊢
  generalize (S1 :: G).length = m5
  repeat' walk_at "ev"
  refine goes_ok (w := "go") (ws := ws) (bound := 0) h5 (.inl rfl) hi (by omega) (Nat.le_refl _) fun C6 k6 b6 h6 hb6 v6 _ => ?_
  obtain rfl : b6 = [] := List.length_eq_zero_iff.mp (by omega)
  repeat' walk_at "ev"
  refine goes_ok (w := "come") (ws := xs) (bound := 0) h6 (.inr rfl) hxi (by simp; omega) (Nat.le_refl _) fun C7 k7 b7 h7 hb7 v7 _ => ?_
  obtain rfl : b7 = [] := List.length_eq_zero_iff.mp (by omega)
  have hlost := noforget (n := n) (us := xs) n0 n1 hd hi hxw
  have e7 : es ++ ws.map (fun x => (("go", x) : Dd)) ++ xs.map (fun x => (("come", x) : Dd)) = es ++ gos ws ++ comes xs := rfl
  rw [e7] at h7
  have r7 : run (whP n) (es ++ gos ws ++ comes xs) = run (run (whP n) (gos ws)) (comes xs) := by rw [run_cat, run_cat, h0]
  have l7 : (es ++ gos ws ++ comes xs).length = es.length + ws.length + xs.length := by simp [gos, comes]; omega
  repeat' walk_at "ev"
  refine mendedR_ok h7 n1 (by rw [r7]; exact hlost) (by omega) fun C8 k8 cs hrun h8 hc8 v8 => ?_
  generalize he8 : es ++ gos ws ++ comes xs ++ cs = es8 at hrun h8
  have l8 : es8.length ≤ es.length + 3 * n := by
    rw [← he8, List.length_append, l7]
    omega
  repeat' walk_at "ev"
  refine ⟨_, _, rfl, (Bool.and_eq_true _ _).mpr ⟨low_of (by omega) (by omega), low_of (by omega) (by omega)⟩, ?_⟩
  refine ⟨by show (rgD 1 ((n : Int) + 1)).length ≤ _; rw [up_rg, List.length_map, upto_len]; exact Nat.le_trans (by omega : n ≤ 10000) (by decide), ?_⟩
  show W (lcM _ _ _ _ _ (rgD 1 ((n : Int) + 1)) _) _
  rw [up_rg]
  refine w_lcAf (φ := D.int) (l := upto n) (p := fun x => !(ws.any fun y => y == x)) (f := D.int) (okG_nil _) (fun t x hx => ?_) ?_
  · repeat' walk_at "ev"
    refine w_inI ?_
    repeat' walk_at "ev"
    refine ⟨rfl, rfl, fun _ => ?_⟩
    repeat' walk_at "ev"
    exact ⟨rfl, rfl⟩
  have ha := all_rest (n := n) hd hi
  have hal := ha.len
  rw [List.length_append] at hal
  repeat' walk_at "ev"
  refine w_addL (by simp only [List.length_map]; exact Nat.le_trans (by omega : ws.length + (restL n ws).length ≤ 10000) (by decide)) ?_
  rw [← List.map_append]
  repeat' walk_at "ev"
  have s8 : SC C8 := v8.sc (v7.sc (v6.sc s5))
  have c8 : C8[0]? = some S5 := v8.at_ 0 _ (v7.at_ 0 _ (v6.at_ 0 _ c5 z.1 z.2.1 z.2.2) z.1 z.2.1 (v6.nw 0 (get_lt c5) z.2.2)) z.1 z.2.1 (v7.nw 0 (get_lt (v6.at_ 0 _ c5 z.1 z.2.1 z.2.2)) (v6.nw 0 (get_lt c5) z.2.2))
  have z8 : 0 ≠ k8 := v8.nw 0 (get_lt (v7.at_ 0 _ (v6.at_ 0 _ c5 z.1 z.2.1 z.2.2) z.1 z.2.1 (v6.nw 0 (get_lt c5) z.2.2))) (v7.nw 0 (get_lt (v6.at_ 0 _ c5 z.1 z.2.1 z.2.2)) (v6.nw 0 (get_lt c5) z.2.2))
  refine goes_ok (w := "go") (ws := ws ++ restL n ws) (bound := 0) h8 (.inl rfl) ha.inn (by rw [List.length_append]; omega) (Nat.le_refl _) fun C9 k9 b9 h9 hb9 v9 _ => ?_
  obtain rfl : b9 = [] := List.length_eq_zero_iff.mp (by omega)
  have c9 := v9.at_ 0 _ c8 z.1 z.2.1 z8
  have z9 := v9.nw 0 (get_lt c8) z8
  have s9 := v9.sc s8
  have r9 : run (whP n) (es8 ++ (ws ++ restL n ws).map fun x => (("go", x) : Dd)) = run (whR n, whL n) (gos (ws ++ restL n ws)) := by rw [run_cat, hrun]; rfl
  have few9 := few_gone n0 n1 ha
  have lost9 := lost_gone n0 n1 ha
  have l9 : (es8 ++ (ws ++ restL n ws).map fun x => (("go", x) : Dd)).length ≤ es.length + 4 * n := by
    rw [List.length_append, List.length_map, List.length_append]
    omega
  generalize es8 ++ (ws ++ restL n ws).map (fun x => (("go", x) : Dd)) = es9 at h9 r9 l9
  rw [← r9] at few9 lost9
  repeat' walk_at "ev"
  refine w_M ?_
  repeat' walk_at "ev"
  refine ⟨i, _, rfl, h9.r.o, rfl, ?_⟩
  repeat' walk_at "ev"
  refine ⟨rfl, ?_⟩
  refine rfewest_ok h9.r h9.g.v ?_
  rw [if_pos lost9, few9]
  repeat' walk_at "ev"
  refine due_ok ha.nd (by rw [ha.len]; exact n1) ?_
  repeat' walk_at "ev"
  rw [decide_eq_true rfl]
  repeat' walk_at "ev"
  refine mendedR_ok h9 n1 lost9 (by omega) fun C10 k10 cs2 hrun2 h10 hc10 v10 => ?_
  repeat' walk_at "ev"
  exact q C10 S5 k10 (es9 ++ cs2) (v10.at_ 0 _ c9 z.1 z.2.1 z9) hS5 (v10.sc s9) h10 (v10.nw 0 (get_lt c9) z9) hrun2 (by rw [List.length_append]; omega)
end


section
variable {C : Store} {QD : D → Store → Prop} {i j k n : Nat} {es bk : List Dd}
abbrev g1P (n : Nat) : List Int × List Int := step (whP n) ("go", 1)
theorem wh_heldS : heldB (whR n) (whL n) = true := held_wh n
theorem g1_back (n0 : 1 ≤ n) (n1 : n ≤ 200) : step (g1P n) ("come", 1) = whP n :=
  undo (n := n) (w := 1) (wh_vs n0 (by omega)) (by rw [whR_len]; omega) ⟨by omega, by omega⟩ (lk_wh (by omega) (by omega))
theorem hands_go1 (n0 : 1 ≤ n) (n1 : n ≤ 200) : (g1P n).1.getD 0 0 = 2 := by
  have hr : (whR n).getD 1 0 = 2 := by
    have : (whR n)[1]? = some 2 := whR_get (i := 1) (by omega)
    rw [List.getD_eq_getElem?_getD, this]
    rfl
  have hl : (whL n).getD 0 0 = 0 := by
    have : (whL n)[0]? = some 0 := whL_get (i := 0) (by omega)
    rw [List.getD_eq_getElem?_getD, this]
    rfl
  show (step (whR n, whL n) ("go", 1)).1.getD 0 0 = 2
  rw [step_go]
  have e1 : doR (whR n, whL n) ("go", 1) = 2 := hr
  have e2 : doL (whR n, whL n) ("go", 1) = 0 := hl
  rw [e1, e2]
  show ((whR n).set 0 2).getD 0 0 = 2
  rw [List.getD_eq_getElem?_getD, List.getElem?_set_self (by rw [whR_len]; omega)]
  rfl
theorem g1_ne (n0 : 1 ≤ n) (n1 : n ≤ 200) : (g1P n).1 ≠ (whP n).1 := by
  intro e
  have h := hands_go1 n0 n1
  rw [e] at h
  have h2 : (whR n).getD 0 0 = 1 := by
    have : (whR n)[0]? = some 1 := whR_get (i := 0) (by omega)
    rw [List.getD_eq_getElem?_getD, this]
    rfl
  have h : (whR n).getD 0 0 = 2 := h
  omega
theorem least_one (n0 : 1 ≤ n) (n1 : n ≤ 200) : lostOf (g1P n).1 (g1P n).2 = [] ∧ leastT n (g1P n) = [1] := by
  have vw := wh_vs (n := n) n0 (by omega)
  have hnw : (n : Int) = (whR n).length - 1 := by rw [whR_len]; omega
  obtain ⟨v1, l1⟩ := step_vs (n := n) (e := ("go", 1)) vw hnw ⟨.inl rfl, by omega, by omega⟩
  have v1 : Vs (g1P n).1 (g1P n).2 := v1
  have l1 : (g1P n).1.length = (whR n).length := l1
  have hn1 : (n : Int) = (g1P n).1.length - 1 := by rw [l1]; exact hnw
  have hl : lostOf (g1P n).1 (g1P n).2 = [] := noforget (n := n) (ws := [1]) (us := []) n0 n1 (by simp) (fun x hx => by rw [List.mem_singleton.mp hx]; omega) fun _ h => nomatch h
  refine ⟨hl, ?_⟩
  have hf : Fine n (g1P n) := ⟨v1, hn1, hl⟩
  have hb := g1_back n0 n1
  have hone : ∀ x ∈ owns (g1P n).1 (g1P n).2, x = 1 := fun x hx => by
    have hb2 : step ((g1P n).1, (g1P n).2) ("come", 1) = whP n := hb
    rcases own_come (n := n) (w := 1) v1 hn1 ⟨by omega, by omega⟩ (by rw [hb2]; exact held_lostS wh_heldS) x hx with h | h
    · exact h
    · rw [hb2] at h
      exact absurd h (own_none.mpr wh_heldS x)
  have hne : owns (g1P n).1 (g1P n).2 ≠ [] := fun e => by
    have hh : heldB (g1P n).1 (g1P n).2 = true := own_none.mp fun x hx => by rw [e] at hx; cases hx
    rw [held_wh_iff (n := n) (by rw [l1, whR_len]) (by rw [v1.len, l1, whR_len]), Bool.and_eq_true, decide_eq_true_iff] at hh
    exact g1_ne n0 n1 hh.1
  obtain ⟨m1, m2, m3⟩ := (nth_tidy _ hf rfl hf.pos).mem hf
  have hm : ∀ x ∈ leastT n (g1P n), x = 1 := fun x hx => hone x (uniqI_mem.mp ((m1 x).mp hx))
  obtain ⟨y, hy⟩ := List.exists_mem_of_ne_nil _ hne
  have hy1 : (1 : Int) ∈ leastT n (g1P n) := (m1 1).mpr (uniqI_mem.mpr (hone y hy ▸ hy))
  have m2 : (leastT n (g1P n)).Nodup := m2
  generalize leastT n (g1P n) = L at hm hy1 m2
  match L, hm, hy1, m2 with
  | [], _, hy1, _ => cases hy1
  | [a], hm, _, _ => rw [hm a (List.mem_singleton.mpr rfl)]
  | a :: b :: L, hm, _, m2 =>
    rw [List.nodup_cons] at m2
    exact absurd (by rw [hm a (by simp), hm b (by simp)]; simp) m2.1
theorem w_neDds {l : List Dd} {m : Nat} (hm : C[m]? = some (.lst (l.map dD))) (hh : OkH n l) (hn : n ≤ 1000) (q : QD (.bl false) C) : W (gNe (.cell m) (.lst (l.map dD)) C) QD := by
  have hs := Shw.deeds hh (by omega)
  refine w_neP (p := .list (l.map fun e => .tuple [.str e.1, .int e.2])) ?_ (hs.to C) (shw_shaped hs (by decide)) (shw_shaped hs (by decide)) (fun a e => by cases e) ?_
  · show (lstAt C m).bind (fun ds => (toPs0 ds).map PyData.list) = _
    rw [lstAt_lst hm]
    show (toPs0 (l.map dD)).map PyData.list = _
    rw [toPs0_map (p := fun e : Dd => .tuple [.str e.1, .int e.2]) (fun _ => rfl)]
    rfl
  · rw [SeqAt.eqv_refl _ hs.la]
    exact q
theorem one_ok {QS : Fl → Sl → Store → Prop} {a0 a1 a2 a3 a4 a6 x7 a9 : Option D} {acts : List Dd} (h : RH C i j k n es bk) (n0 : 1 ≤ n) (n1 : n ≤ 200) (hes : es.length = acts.length) (hl : es.length ≤ 5000) (hb : bk.length ≤ 5000)
    (q : ∀ C' k' bk' x7', RH C' i j k' n [] bk' → bk'.length ≤ 5000 → Lv C C' i j k k' → QS .nx [a0, a1, a2, a3, a4, some (sD (whR n) (whL n)), a6, x7', some (.lst (acts.map dD)), a9, some (.cell i)] C') :
    WS (sSeq (sFor (iRg1 (aCons (mCB (on1 gLen) (aCons (mVar 8) aNil)) aNil)) (gmN 7)
  (sDrop (mM "Ring" "back" 1 m_Ring__back (mVar 10) aNil)))
  (sSeq (sIf (tOrM (mT (m2 gNe (mFz 2 (mM "Ring" "stand" 1 m_Ring__stand (mVar 10) aNil)) (mVar 5))) (tOrM (mT (m2 gNe (mCB (on1 (gLenO "Ring" 1 m_Ring____len__)) (aCons (mVar 10) aNil)) (mC (.int 0)))) (mT (m2 gNe (mFz 2 (mM "Ring" "history" 1 m_Ring__history (mVar 10) aNil)) (mLst false aNil)))))
  (sRet (mC (.bl false)))
  sNil)
  (sSeq (sDrop (mF 3 m__law_goes (aCons (mVar 10) (aCons (mLst false (aCons (mC (.int 1)) aNil)) (aCons (mC (.str "go")) aNil)))))
  (sDrop (mM "Ring" "back" 1 m_Ring__back (mVar 10) aNil))))
      [a0, a1, a2, a3, a4, some (sD (whR n) (whL n)), a6, x7, some (.lst (acts.map dD)), a9, some (.cell i)] C) QS := by
  have lm : (acts.map dD).length = es.length := by rw [List.length_map, hes]
  repeat' walk_at "ev"
  rw [lm]
  refine w_forM (fun t sl Cc => ∃ (bk2 : List Dd) (x7 : Option D), sl = [a0, a1, a2, a3, a4, some (sD (whR n) (whL n)), a6, x7, some (.lst (acts.map dD)), a9, some (.cell i)] ∧ RH Cc i j k n (es.take (es.length - t)) bk2 ∧ bk2.length = bk.length + t ∧ Lv C Cc i j k k) (fun _ _ _ _ => okG_nil _) ?_ ?_ ⟨bk, x7, rfl, by rw [Nat.sub_zero, List.take_length]; exact h, rfl, .refl⟩
  · intro t e' sl Cc hd2 hI
    obtain ⟨bk2, x7, rfl, r5, hb2, v5⟩ := hI
    obtain ⟨ht, rfl⟩ := rgD_get (n := es.length) hd2
    obtain ⟨m, hm⟩ : ∃ m, es.length - t = m + 1 := ⟨es.length - t - 1, by omega⟩
    obtain ⟨e, he⟩ := get_ex (l := es) (i := m) (by omega)
    have e2 : es.take (m + 1) = es.take m ++ [e] := by
      rw [List.take_succ, he]
      rfl
    rw [hm, e2] at r5
    have r6 := r5.r
    have g6 := r5.g
    rw [run_snoc, hst_app] at r6 g6
    repeat' walk_at "ev"
    refine w_M ?_
    repeat' walk_at "ev"
    refine ⟨i, _, rfl, r6.o, rfl, ?_⟩
    repeat' walk_at "ev"
    refine ⟨rfl, ?_⟩
    refine backF r6 g6 (by omega) fun C6 r7 g7 v7 => ?_
    repeat' walk_at "ev"
    refine ⟨bk2 ++ [e], _, rfl, ?_, by rw [List.length_append, hb2]; rfl, v5.trans v7⟩
    rw [show es.length - (t + 1) = m from by omega]
    exact ⟨r7, g7⟩
  · intro sl Cc hI
    obtain ⟨bk2, x7, rfl, r5, hb2, v5⟩ := hI
    rw [rgD_len] at r5 hb2
    rw [Nat.sub_self] at r5
    have r6 : RingAt Cc i j k (whP n) [] bk2 := r5.r
    have g6 : RgIn n (whP n) [] bk2 := r5.g
    have r5 : RH Cc i j k n [] bk2 := r5
    repeat' walk_at "ev"
    refine w_mfz r6 (w_var rfl ⟨rfl, rfl⟩) ?_
    repeat' walk_at "ev"
    refine w_neShw (Shw.stand g6.v) (by decide) (fun a e => by cases e) ?_
    repeat' walk_at "ev"
    refine rlen_ok r6 (by decide) ?_
    repeat' walk_at "ev"
    refine w_hfz r6 (by decide) (w_var rfl ⟨rfl, rfl⟩) ?_
    repeat' walk_at "ev"
    refine w_neLI (l := []) (m := []) ?_
    repeat' walk_at "ev"
    refine goes_ok (w := "go") (ws := [1]) (bound := 10000) r5 (.inl rfl) (fun x hx => by rw [List.mem_singleton.mp hx]; omega) (by decide) (by omega) fun C6 k6 b6 h6 hb6 v6 hz => ?_
    obtain rfl : b6 = [] := hz (by simp)
    have r7 : RingAt C6 i j k6 (g1P n) ([] ++ [((("go", 1) : Dd), whP n)]) [] := h6.r
    have g7 : RgIn n (g1P n) ([] ++ [((("go", 1) : Dd), whP n)]) [] := h6.g
    repeat' walk_at "ev"
    refine w_M ?_
    repeat' walk_at "ev"
    refine ⟨i, _, rfl, r7.o, rfl, ?_⟩
    repeat' walk_at "ev"
    refine ⟨rfl, ?_⟩
    refine backF r7 g7 (by show 0 < 100000; decide) fun C8 r8 g8 v8 => ?_
    repeat' walk_at "ev"
    exact q C8 k6 ([] ++ [(("go", 1) : Dd)]) _ ⟨r8, g8⟩ (by show 1 ≤ 5000; decide) ((v5.trans v6).trans v8)
end


section
variable {C : Store} {QD : D → Store → Prop} {i j k i2 j2 k2 n : Nat} {es bk : List Dd}
theorem pair_ok {QS : Fl → Sl → Store → Prop} {a0 a1 a2 a3 a4 x7 x10 : Option D} {acts : List Dd} (hA : RH C i j k n acts []) (hB : RH C i2 j2 k2 n acts []) (dj : Dj i j k i2 j2 k2) (n0 : 1 ≤ n) (n1 : n ≤ 200) (hel : acts.length ≤ 2000)
    (q : ∀ C' ka kb ba bb x7 x10, RH C' i j ka n [] ba → RH C' i2 j2 kb n [] bb → Dj i j ka i2 j2 kb → ba.length ≤ 5000 → bb.length ≤ 5000 → QS .nx [a0, a1, a2, a3, a4, some (sD (whR n) (whL n)), some (.cell i), x7, some (.lst (acts.map dD)), some (.cell i2), x10] C') :
    WS ((sFor (iLst (mLst false (aCons (mVar 6) (aCons (mVar 9) aNil)))) (gmN 10)
  (sSeq (sFor (iRg1 (aCons (mCB (on1 gLen) (aCons (mVar 8) aNil)) aNil)) (gmN 7)
  (sDrop (mM "Ring" "back" 1 m_Ring__back (mVar 10) aNil)))
  (sSeq (sIf (tOrM (mT (m2 gNe (mFz 2 (mM "Ring" "stand" 1 m_Ring__stand (mVar 10) aNil)) (mVar 5))) (tOrM (mT (m2 gNe (mCB (on1 (gLenO "Ring" 1 m_Ring____len__)) (aCons (mVar 10) aNil)) (mC (.int 0)))) (mT (m2 gNe (mFz 2 (mM "Ring" "history" 1 m_Ring__history (mVar 10) aNil)) (mLst false aNil)))))
  (sRet (mC (.bl false)))
  sNil)
  (sSeq (sDrop (mF 3 m__law_goes (aCons (mVar 10) (aCons (mLst false (aCons (mC (.int 1)) aNil)) (aCons (mC (.str "go")) aNil)))))
  (sDrop (mM "Ring" "back" 1 m_Ring__back (mVar 10) aNil))))))
      [a0, a1, a2, a3, a4, some (sD (whR n) (whL n)), some (.cell i), x7, some (.lst (acts.map dD)), some (.cell i2), x10] C) QS := by
  have hnil : (0 : Nat) ≤ 5000 := by decide
  refine w_sFor ?_
  repeat' walk_at "ev"
  refine w_forM (fun t sl Cc => ∃ (ka kb : Nat) (ea eb ba bb : List Dd) (x7 x10 : Option D), sl = [a0, a1, a2, a3, a4, some (sD (whR n) (whL n)), some (.cell i), x7, some (.lst (acts.map dD)), some (.cell i2), x10] ∧ RH Cc i j ka n ea ba ∧ RH Cc i2 j2 kb n eb bb ∧ Dj i j ka i2 j2 kb ∧ ba.length ≤ 5000 ∧ bb.length ≤ 5000 ∧ (t = 0 → ea = acts) ∧ (t ≤ 1 → eb = acts) ∧ (1 ≤ t → ea = []) ∧ (2 ≤ t → eb = [])) (fun _ _ _ _ => okG_nil _) ?_ ?_ ⟨k, k2, acts, acts, [], [], x7, x10, rfl, hA, hB, dj, hnil, hnil, fun _ => rfl, fun _ => rfl, fun h => absurd h (by decide), fun h => absurd h (by decide)⟩
  · intro t e' sl Cc hd2 hI
    obtain ⟨ka, kb, ea, eb, ba, bb, x7, x10, rfl, rA, rB, dj, lA, lB, t0, t1, t2, t3⟩ := hI
    match t, hd2, t0, t1, t2, t3 with
    | 0, hd2, t0, t1, _, _ =>
      cases hd2
      obtain rfl := t0 rfl
      obtain rfl := t1 (by decide)
      refine w_gmN ?_
      refine one_ok (acts := eb) rA n0 n1 rfl (by omega) lA fun C6 k6 b6 x6 r6 l6 v6 => ?_
      obtain ⟨kB, dj6⟩ := RingAt.keep rB.r v6 dj
      exact ⟨k6, kb, [], eb, b6, bb, x6, _, rfl, r6, ⟨kB, rB.g⟩, dj6, l6, lB, fun h => absurd h (by decide), fun _ => rfl, fun _ => rfl, fun h => absurd h (by decide)⟩
    | 1, hd2, _, t1, t2, _ =>
      cases hd2
      obtain rfl := t1 (by decide)
      obtain rfl := t2 (by decide)
      refine w_gmN ?_
      refine one_ok (acts := eb) rB n0 n1 rfl (by omega) lB fun C6 k6 b6 x6 r6 l6 v6 => ?_
      obtain ⟨kA, dj6⟩ := RingAt.keep rA.r v6 dj.symm
      exact ⟨ka, k6, [], [], ba, b6, x6, _, rfl, ⟨kA, rA.g⟩, r6, dj6.symm, lA, l6, fun h => absurd h (by decide), fun h => absurd h (by decide), fun _ => rfl, fun _ => rfl⟩
    | t + 2, hd2, _, _, _, _ => cases hd2
  · intro sl Cc hI
    obtain ⟨ka, kb, ea, eb, ba, bb, x7, x10, rfl, rA, rB, dj, lA, lB, t0, t1, t2, t3⟩ := hI
    obtain rfl := t2 (by show (1 : Nat) ≤ 2; decide)
    obtain rfl := t3 (by show (2 : Nat) ≤ 2; decide)
    exact q Cc ka kb ba bb x7 x10 rA rB dj lA lB
structure TF (n : Nat) (G : List Int × List Int) : Prop where
  lost : lostOf G.1 G.2 = []
  least : leastT n G = [1]
  back : run G (comes [1]) = whP n
  ne : (decide (G.1 = (whP n).1) && decide (G.2 = (whP n).2)) = false
theorem tf_one (n0 : 1 ≤ n) (n1 : n ≤ 200) : TF n (g1P n) := ⟨(least_one n0 n1).1, (least_one n0 n1).2, g1_back n0 n1, by rw [decide_eq_false (g1_ne n0 n1), Bool.false_and]⟩
theorem tailB_ok {QS : Fl → Sl → Store → Prop} {a0 a1 a2 a3 a5 a7 a8 a10 : Option D} {ba : List Dd} {G : List Int × List Int} {dn2 : List (Dd × (List Int × List Int))} (rA : RingAt C i j k (whP n) [] ba) (rB : RingAt C i2 j2 k2 G dn2 []) (gB : RgIn n G dn2 []) (hd2 : dn2.length < 90000) (dj : Dj i2 j2 k2 i j k) (n0 : 1 ≤ n) (n1 : n ≤ 200) (tf : TF n G)
    (q : ∀ C', QS .nx [a0, a1, a2, a3, some (.int n), a5, some (.cell i), a7, a8, some (.cell i2), a10] C') :
    WS ((sIf (tOrM (mT (m2 (gOwn true "Ring" m_Ring____eq__) (mVar 6) (mI "Ring" 3 1 0 0 1 m_Ring____init__ (aCons (mVar 4) aNil) aNil))) (tOrM (mT (m2 (gOwn false "Ring" m_Ring____eq__) (mVar 9) (mVar 6))) (tOrM (mT (m2 gNe (mM "Ring" "mend" 1 m_Ring__mend (mVar 9) aNil) (mLst false (aCons (mTup (aCons (mC (.str "come")) (aCons (mC (.int 1)) aNil))) aNil)))) (mT (m2 (gOwn true "Ring" m_Ring____eq__) (mVar 9) (mVar 6))))))
  (sRet (mC (.bl false)))
  sNil)
      [a0, a1, a2, a3, some (.int n), a5, some (.cell i), a7, a8, some (.cell i2), a10] C) QS := by
  repeat' walk_at "ev"
  refine w_IZ ?_
  repeat' walk_at "ev"
  refine ⟨rfl, [.int (n : Nat), .non], rfl, ?_⟩
  refine init_size n0 n1 ?_
  refine ⟨rfl, ?_⟩
  have hM := made_at (C := C) (p := (whR n, whL n))
  have rA7 := rA.app (Y := [obR (whR n, whL n) (C.length + 1) (C.length + 2), .lst [], .lst []])
  have rB7 := rB.app (Y := [obR (whR n, whL n) (C.length + 1) (C.length + 2), .lst [], .lst []])
  generalize C ++ [obR (whR n, whL n) (C.length + 1) (C.length + 2), .lst [], .lst []] = C7 at hM rA7 rB7 ⊢
  clear rA rB
  refine w_own rA7.o (tyO_c hM.o) ?_
  refine eq_ok rA7 hM ?_
  refine ⟨_, rfl, ?_⟩
  rw [show (decide ((whP n).1 = (whR n, whL n).1) && decide ((whP n).2 = (whR n, whL n).2)) = true from by simp]
  repeat' walk_at "ev"
  refine w_own rB7.o (tyO_c rA7.o) ?_
  refine eq_ok rB7 rA7 ?_
  refine ⟨_, rfl, ?_⟩
  rw [tf.ne]
  repeat' walk_at "ev"
  refine w_M ?_
  repeat' walk_at "ev"
  refine ⟨i2, _, rfl, rB7.o, rfl, ?_⟩
  repeat' walk_at "ev"
  refine ⟨rfl, ?_⟩
  refine mendF rB7 gB tf.lost n1 hd2 fun C8 k8 r8 g8 v8 => ?_
  rw [tf.least] at r8 g8 ⊢
  rw [tf.back] at r8
  obtain ⟨kA8, _⟩ := RingAt.keep rA7 v8 dj
  have hm8 : (C8 ++ [cmL [1]])[C8.length]? = some (.lst (([("come", 1)] : List Dd).map dD)) := at_app0
  have rA9 := kA8.app (Y := [cmL [1]])
  have rB9 := r8.app (Y := [cmL [1]])
  generalize C8 ++ [cmL [1]] = C9 at hm8 rA9 rB9 ⊢
  generalize C8.length = m8 at hm8 ⊢
  clear kA8 r8 g8 v8
  repeat' walk_at "ev"
  refine w_neDds (l := [("come", 1)]) (n := n) hm8 (fun e h => by rw [List.mem_singleton.mp h]; exact ⟨.inr rfl, by omega, by omega⟩) (by omega) ?_
  repeat' walk_at "ev"
  refine w_own rB9.o (tyO_c rA9.o) ?_
  refine eq_ok rB9 rA9 ?_
  refine ⟨_, rfl, ?_⟩
  rw [show (decide ((whP n).1 = (whP n).1) && decide ((whP n).2 = (whP n).2)) = true from by simp]
  repeat' walk_at "ev"
  exact q _
theorem tail_ok {QS : Fl → Sl → Store → Prop} {a0 a1 a2 a3 a5 a7 a8 a10 : Option D} {ba bb : List Dd} (rA : RH C i j k n [] ba) (rB : RH C i2 j2 k2 n [] bb) (dj : Dj i j k i2 j2 k2) (n0 : 1 ≤ n) (n1 : n ≤ 200) (lA : ba.length ≤ 5000) (lB : bb.length ≤ 5000)
    (q : ∀ C', QS .nx [a0, a1, a2, a3, some (.int n), a5, some (.cell i), a7, a8, some (.cell i2), a10] C') :
    WS (sSeq (sDrop (mF 3 m__law_goes (aCons (mVar 9) (aCons (mLst false (aCons (mC (.int 1)) aNil)) (aCons (mC (.str "go")) aNil)))))
  (sIf (tOrM (mT (m2 (gOwn true "Ring" m_Ring____eq__) (mVar 6) (mI "Ring" 3 1 0 0 1 m_Ring____init__ (aCons (mVar 4) aNil) aNil))) (tOrM (mT (m2 (gOwn false "Ring" m_Ring____eq__) (mVar 9) (mVar 6))) (tOrM (mT (m2 gNe (mM "Ring" "mend" 1 m_Ring__mend (mVar 9) aNil) (mLst false (aCons (mTup (aCons (mC (.str "come")) (aCons (mC (.int 1)) aNil))) aNil)))) (mT (m2 (gOwn true "Ring" m_Ring____eq__) (mVar 9) (mVar 6))))))
  (sRet (mC (.bl false)))
  sNil)
      [a0, a1, a2, a3, some (.int n), a5, some (.cell i), a7, a8, some (.cell i2), a10] C) QS := by
  have hi1 : In n [1] := fun x hx => by rw [List.mem_singleton.mp hx]; omega
  refine w_seq ?_
  refine w_drop ?_
  repeat' ((fail_if_success (with_reducible refine w_sif ?_)); walk_at "ev")
  refine goes_ok (w := "go") (ws := [1]) (bound := 10000) rB (.inl rfl) hi1 (by decide) (by omega) fun C6 k6 b6 h6 hb6 v6 hz2 => ?_
  obtain rfl : b6 = [] := hz2 (by simp)
  obtain ⟨kA, dj6⟩ := RingAt.keep rA.r v6 dj.symm
  have rA6 : RingAt C6 i j k (whP n) [] ba := kA
  have rB6 : RingAt C6 i2 j2 k6 (g1P n) ([] ++ [((("go", 1) : Dd), whP n)]) [] := h6.r
  have gB6 : RgIn n (g1P n) ([] ++ [((("go", 1) : Dd), whP n)]) [] := h6.g
  exact tailB_ok rA6 rB6 gB6 (by show 1 < 90000; decide) dj6 n0 n1 (tf_one n0 n1) q
end


theorem law_ok {ns : List Int} (hl : ns.length ≤ 63) : W (m_law [.lst (ns.map D.int)] []) fun d _ => d = .bl true := by
  unfold m_law
  repeat' walk_at "ev"
  refine w_fzL ?_
  repeat' walk_at "ev"
  refine cells_ok hl (by decide) fun ms hm hm2 => ?_
  refine ⟨_, rfl, rfl, closedDs_ints _ _, ?_⟩
  repeat' walk_at "ev"
  refine w_forM (fun i sl C => sl = [some (.lst (ns.map D.int)), some (.lst (ms.map D.int)), none, none, none, none, none, none, none, none, none] ∧ C = []) (fun _ _ _ _ => okG_nil _) ?_ ?_ ⟨rfl, rfl⟩
  · intro i d sl C hd hi
    obtain ⟨rfl, rfl⟩ := hi
    rw [List.length_map] at hd
    obtain ⟨hi, rfl⟩ := rgD_get hd
    obtain ⟨z, hz⟩ := get_ex hi
    have az : atI (ms.map D.int) (i : Int) = some (.int z) := Nv.atI_nat (by rw [List.getElem?_map, hz]; rfl)
    repeat' walk_at "ev"
    refine jar_ok (by omega) (by omega) fun S hS => ?_
    repeat' walk_at "ev"
    obtain ⟨up, hup, u0, u1⟩ : ∃ up : Nat, atI [D.int 40, D.int 20] (if decide ((i : Int) > 0) = true then 1 else 0) = some (.int (up : Nat)) ∧ 1 ≤ up ∧ up ≤ 200 := by
      by_cases c : (i : Int) > 0
      · exact ⟨20, by rw [decide_eq_true c]; rfl, by decide, by decide⟩
      · exact ⟨40, by rw [decide_eq_false c]; rfl, by decide, by decide⟩
    repeat' walk_at "ev"
    refine w_fzV ?_
    repeat' walk_at "ev"
    refine size_ok (G := []) hS ClS.nil fun r S2 r0 r1 _ hS2 => ?_
    refine ⟨[S2], [], rfl, rfl, ClS.one (hS2.closed 0), rfl, ?_⟩
    repeat' walk_at "ev"
    obtain ⟨n, hn, n0, n1⟩ : ∃ n : Nat, min (up : Int) r = (n : Int) ∧ 1 ≤ n ∧ n ≤ 200 := ⟨(min (up : Int) r).toNat, by omega, by omega, by omega⟩
    rw [hn]
    refine wholeF_ok n0 n1 (w_var rfl ⟨rfl, rfl⟩) ?_
    repeat' walk_at "ev"
    refine w_IZ ?_
    repeat' walk_at "ev"
    refine ⟨rfl, [.int (n : Nat), .non], rfl, ?_⟩
    refine init_size n0 n1 ?_
    refine ⟨rfl, ?_⟩
    have sc2 : SC [S2] := fun c hc => by
      rw [List.mem_singleton.mp hc]
      exact hS2.closed _
    have hR : RH ([S2] ++ [obR (whR n, whL n) (([S2] : Store).length + 1) (([S2] : Store).length + 2), .lst [], .lst []]) 1 2 3 n [] [] := ⟨made_at (C := [S2]) (p := (whR n, whL n)), ⟨wh_vs n0 (by omega), whR_len n, (fun _ h => nomatch h), (fun _ h => nomatch h)⟩⟩
    have g0 : ([S2] ++ [obR (whR n, whL n) (([S2] : Store).length + 1) (([S2] : Store).length + 2), .lst [], .lst []])[0]? = some S2 := rfl
    have gs : SC ([S2] ++ [obR (whR n, whL n) (([S2] : Store).length + 1) (([S2] : Store).length + 2), .lst [], .lst []]) := SC.app sc2 (by
      intro c hc
      simp only [List.mem_cons, List.not_mem_nil, or_false] at hc
      rcases hc with rfl | rfl | rfl
      · simp [closedC, closedD, closedDs, closedDs_ints]
      · rfl
      · rfl)
    rw [show ([S2] : Store).length = 1 from rfl] at hR g0 gs ⊢
    generalize [S2] ++ [obR (whR n, whL n) (1 + 1) (1 + 2), .lst [], .lst []] = C2 at hR g0 gs ⊢
    obtain ⟨tn, htn, t2⟩ : ∃ tn : Nat, 1 + (if decide ((i : Int) > 0) = true then (1 : Int) else 0) = (tn : Int) ∧ tn ≤ 2 := by
      by_cases c : (i : Int) > 0
      · exact ⟨2, by rw [decide_eq_true c]; rfl, by decide⟩
      · exact ⟨1, by rw [decide_eq_false c]; rfl, by decide⟩
    repeat' walk_at "ev"
    rw [htn]
    refine w_forM (fun t sl Cc => ∃ (k' : Nat) (es : List Dd) (S' : Cell) (x7 : Option D), sl = [some (.lst (ns.map D.int)), some (.lst (ms.map D.int)), some (.int (i : Nat)), some (.cell 0), some (.int (n : Nat)), some (sD (whR n) (whL n)), some (.cell 1), x7, none, none, none] ∧ Cc[0]? = some S' ∧ Jr S' ∧ SC Cc ∧ RH Cc 1 2 k' n es [] ∧ 0 ≠ k' ∧ run (whP n) es = whP n ∧ es.length ≤ 1000 * t) (fun _ _ _ _ => okG_nil _) ?_ ?_ ⟨3, [], S2, none, rfl, g0, hS2, gs, hR, by decide, rfl, Nat.zero_le _⟩
    · intro t e' sl Cc hd2 hI
      obtain ⟨k', es, S', x7, rfl, c0, jS, sC, hr, zk, hrun, hle⟩ := hI
      obtain ⟨ht, rfl⟩ := rgD_get (n := tn) hd2
      obtain ⟨G, rfl⟩ : ∃ G, Cc = S' :: G := by
        cases Cc with
        | nil => cases c0
        | cons c G => cases c0; exact ⟨G, rfl⟩
      repeat' walk_at "ev"
      refine round_ok jS sC hr hrun n0 n1 (by omega) ⟨by decide, by decide, zk⟩ fun C' S3 k3 es3 c3 jS3 sC3 hr3 zk3 hrun3 hle3 => ?_
      repeat' walk_at "ev"
      exact ⟨k3, es3, S3, _, rfl, c3, jS3, sC3, hr3, zk3, hrun3, by omega⟩
    · intro sl Cc hI
      obtain ⟨k', es, S', x7, rfl, c0, jS, sC, hr, zk, hrun, hle⟩ := hI
      rw [rgD_len] at hle
      have hel : es.length ≤ 2000 := by omega
      have hok : OkH n es := fun x hx => by
        rw [← hst_fst es (whP n)] at hx
        obtain ⟨y, hy, rfl⟩ := List.mem_map.mp hx
        exact (hr.g.d y hy).1
      have hhl : (hst (whP n) es).length ≤ 2000 := by rw [hst_len]; exact hel
      have hnw : (n : Int) = (whR n).length - 1 := by rw [whR_len]; omega
      have lm : (es.map dD).length = es.length := List.length_map ..
      repeat' walk_at "ev"
      refine w_hfz hr.r (by omega) (w_var rfl ⟨rfl, rfl⟩) ?_
      rw [hst_fst]
      repeat' walk_at "ev"
      refine behindF_ok (h := es) (wh_vs n0 (by omega)) hnw hok ?_ ?_ ?_
      · repeat' walk_at "ev"
        exact ⟨rfl, IsSt.f _ _⟩
      · repeat' walk_at "ev"
        exact ⟨rfl, .f _⟩
      repeat' walk_at "ev"
      refine w_mfz hr.r (w_var rfl ⟨rfl, rfl⟩) ?_
      repeat' walk_at "ev"
      refine w_neShw (Shw.stand hr.g.v) (by decide) (fun a e => by cases e) ?_
      repeat' walk_at "ev"
      refine rlen_ok hr.r (by omega) ?_
      rw [hst_len, lm]
      repeat' walk_at "ev"
      refine ite_f (by rw [decide_eq_true rfl]; rfl) ?_
      repeat' walk_at "ev"
      refine w_M ?_
      repeat' walk_at "ev"
      refine ⟨1, _, rfl, hr.r.o, rfl, ?_⟩
      repeat' walk_at "ev"
      refine ⟨rfl, ?_⟩
      refine twin_ok hr.r hr.g.v (by omega) (by decide) fun C5 rA rB lC hlow => ?_
      obtain ⟨m1, m2, m3⟩ := hr.r.lt
      have hA : RH C5 1 2 k' n es [] := ⟨rA, hr.g⟩
      have hB : RH C5 Cc.length (Cc.length + 1) (Cc.length + 2) n es [] := ⟨rB, hr.g⟩
      have dj : Dj 1 2 k' Cc.length (Cc.length + 1) (Cc.length + 2) := ⟨⟨by omega, by omega, by omega⟩, ⟨by omega, by omega, by omega⟩, ⟨by omega, by omega, by omega⟩⟩
      clear rA rB
      generalize Cc.length + 2 = kb at hB dj
      generalize Cc.length + 1 = jb at hB dj
      generalize Cc.length = ib at hB dj ⊢
      clear lC hlow hr c0 sC m1 m2 m3
      repeat' ((fail_if_success (with_reducible refine w_sFor ?_)); walk_at "ev")
      refine pair_ok (acts := es) hA hB dj n0 n1 hel fun C6 ka kb ba bb x7 x10 rA rB dj lA lB => ?_
      repeat' ((fail_if_success (with_reducible refine w_seq ?_)); walk_at "ev")
      refine tail_ok rA rB dj n0 n1 lA lB fun C7 => ?_
      refine gc_niln (by walk_at "sw") ?_ ⟨rfl, rfl⟩
      show (closedDs 0 (ns.map D.int) && (closedDs 0 (ms.map D.int) && true)) = true
      rw [closedDs_ints, closedDs_ints]
      rfl
  · intro sl C hi
    obtain ⟨rfl, rfl⟩ := hi
    repeat' walk_at "ev"
    exact fin_same rfl rfl rfl


end Tk
open PySem PySem.W PyProof.Rows
set_option maxHeartbeats 0 in
theorem PySem.Challenge.cw_takeback_k28_whole_a_ring_kept_mended_holds : PySem.Challenge.rw_takeback_k28_whole_a_ring_kept_mended.Holds := by
  w_on; o_law; k_head; (case hw => w_witness2)
  k_fill
  refine Nv.walkG (l := PySem.Challenge.rw_takeback_k28_whole_a_ring_kept_mended) (n := 63) (k := 14) (x := "_law_script") (mf := Tk.m_law) rfl (by decide) rfl ⟨rfl, by decide, by decide⟩ (fun w h Y => PySem.W.kIn_of Y) ?hfun (fun ns hl => ?hlaw)
  case hlaw =>
    obtain ⟨d, C, e, hd⟩ := Tk.law_ok hl
    exact ⟨C, hd ▸ e⟩
  case hfun =>
    intro w mg fa h KX G hmg
    refine' Tk.all_mk KX G hmg (Tk.blts_of KX G ?qz0 ?qz1 ?qz2 ?qz3 ?qz4 ?qz5 ?qz6 ?qz7 ?qz8 ?qz9 ?qz10 ?qz11 ?qz12 ?qz13) ⟨(Tk.gc_COME_deeds KX G ?qg0), (Tk.gc_COME_mending KX G ?qg1), (Tk.gc_FORGOTTEN_mending KX G ?qg2), (Tk.gc_FORGOTTEN_stands KX G ?qg3), (Tk.gc_GO KX G ?qg4), (Tk.gc_HELD_mending KX G ?qg5), (Tk.gc_HELD_stands KX G ?qg6), (Tk.gc_LEAST_DANCER KX G ?qg7), (Tk.gc_LEFT_deeds KX G ?qg8), (Tk.gc_LEFT_mending KX G ?qg9), (Tk.gc_LEFT_stands KX G ?qg10), (Tk.gc_MOST_DANCERS KX G ?qg11), (Tk.gc_RIGHT_deeds KX G ?qg12), (Tk.gc_RIGHT_stands KX G ?qg13), (Tk.gc_WORDS KX G ?qg14 ?qh14 ?qw14 ?qv14)⟩ (Tk.at__law_cells KX G ?qa0 ?ql0 ?qc0 ?qk0) (Tk.at__law_jar KX G ?qa1 ?ql1 ?qc1 ?qk1) (Tk.at_is_between KX G ?qa2 ?ql2 ?qc2 ?qk2) (Tk.at_need_dancers KX G ?qa3 ?ql3 ?qc3 ?qk3) (Tk.at_whole KX G ?qa4 ?ql4 ?qc4 ?qk4) (Tk.at_is_stand KX G ?qa5 ?ql5 ?qc5 ?qk5) (Tk.at_need_stand KX G ?qa6 ?ql6 ?qc6 ?qk6) (Tk.at_copied KX G ?qa7 ?ql7 ?qc7 ?qk7) (Tk.at_first_stand KX G ?qa8 ?ql8 ?qc8 ?qk8) (Tk.at_hands_by KX G ?qa9 ?ql9 ?qc9 ?qk9) (Tk.at_with_deed KX G ?qa10 ?ql10 ?qc10 ?qk10) (Tk.at_is_deed KX G ?qa11 ?ql11 ?qc11 ?qk11) (Tk.at_dancers_of KX G ?qa12 ?ql12 ?qc12 ?qk12) (Tk.at__law_goes KX G ?qa13 ?ql13 ?qc13 ?qk13) (Tk.at__law_pull KX G ?qa14 ?ql14 ?qc14 ?qk14) (Tk.at__law_size KX G ?qa15 ?ql15 ?qc15 ?qk15) (Tk.at__law_order KX G ?qa16 ?ql16 ?qc16 ?qk16) (Tk.at_word_of KX G ?qa17 ?ql17 ?qc17 ?qk17) (Tk.at_words KX G ?qa18 ?ql18 ?qc18 ?qk18) (Tk.at_owners_in KX G ?qa19 ?ql19 ?qc19 ?qk19) (Tk.at_fewest KX G ?qa20 ?ql20 ?qc20 ?qk20) (Tk.at_need_known KX G ?qa21 ?ql21 ?qc21 ?qk21) (Tk.at_owners KX G ?qa22 ?ql22 ?qc22 ?qk22) (Tk.at_is_sure KX G ?qa23 ?ql23 ?qc23 ?qk23) (Tk.at_waits KX G ?qa24 ?ql24 ?qc24 ?qk24) (Tk.at_unlike_owners KX G ?qa25 ?ql25 ?qc25 ?qk25) (Tk.at_burdens KX G ?qa26 ?ql26 ?qc26 ?qk26) (Tk.at_counted_by KX G ?qa27 ?ql27 ?qc27 ?qk27) (Tk.at_next_at KX G ?qa28 ?ql28 ?qc28 ?qk28) (Tk.at_tidy_at KX G ?qa29 ?ql29 ?qc29 ?qk29) (Tk.at_mending KX G ?qa30 ?ql30 ?qc30 ?qk30) (Tk.at__law_mended_right KX G ?qa31 ?ql31 ?qc31 ?qk31) (Tk.at__law_due KX G ?qa32 ?ql32 ?qc32 ?qk32) (Tk.at__law_round_right KX G ?qa33 ?ql33 ?qc33 ?qk33) (Tk.at_need_deeds KX G ?qa34 ?ql34 ?qc34 ?qk34) (Tk.at_behind KX G ?qa35 ?ql35 ?qc35 ?qk35) (Tk.atI_Ring_0 KX G ?nRing0aC ?nRing0mk ?nRing0mi ?nRing0mf ?nRing0kC ?nRing0k ?nRing0l ?nRing0c ?nRing0lT ?nRing0lk0) (Tk.atI_Ring_1 KX G ?nRing1aC ?nRing1mk ?nRing1mi ?nRing1mf ?nRing1kC ?nRing1k ?nRing1l ?nRing1c ?nRing1lT ?nRing1lk0) (Tk.at_Ring__history KX G ?mRinguuhistoryaC ?mRinguuhistorypg ?mRinguuhistoryhd ?mRinguuhistorypo ?mRinguuhistorysa ?mRinguuhistoryma ?mRinguuhistorymf ?mRinguuhistoryk ?mRinguuhistoryl ?mRinguuhistoryc) (Tk.at_Ring__twin KX G ?mRinguutwinaC ?mRinguutwinpg ?mRinguutwinhd ?mRinguutwinpo ?mRinguutwinsa ?mRinguutwinma ?mRinguutwinmf ?mRinguutwink ?mRinguutwinl ?mRinguutwinc) (Tk.at_Ring__put KX G ?mRinguuputaC ?mRinguuputpg ?mRinguuputhd ?mRinguuputpo ?mRinguuputsa ?mRinguuputma ?mRinguuputmf ?mRinguuputk ?mRinguuputl ?mRinguuputc) (Tk.at_Ring__did KX G ?mRinguudidaC ?mRinguudidpg ?mRinguudidhd ?mRinguudidpo ?mRinguudidsa ?mRinguudidma ?mRinguudidmf ?mRinguudidk ?mRinguudidl ?mRinguudidc) (Tk.at_Ring__go KX G ?mRinguugoaC ?mRinguugopg ?mRinguugohd ?mRinguugopo ?mRinguugosa ?mRinguugoma ?mRinguugomf ?mRinguugok ?mRinguugol ?mRinguugoc) (Tk.at_Ring__come KX G ?mRinguucomeaC ?mRinguucomepg ?mRinguucomehd ?mRinguucomepo ?mRinguucomesa ?mRinguucomema ?mRinguucomemf ?mRinguucomek ?mRinguucomel ?mRinguucomec) (Tk.at_Ring__back KX G ?mRinguubackaC ?mRinguubackpg ?mRinguubackhd ?mRinguubackpo ?mRinguubacksa ?mRinguubackma ?mRinguubackmf ?mRinguubackk ?mRinguubackl ?mRinguubackc) (Tk.at_Ring____eq__ KX G ?mRinguuuuequuaC ?mRinguuuuequupg ?mRinguuuuequuhd ?mRinguuuuequupo ?mRinguuuuequusa ?mRinguuuuequuma ?mRinguuuuequumf ?mRinguuuuequuk ?mRinguuuuequul ?mRinguuuuequuc) (Tk.at_Ring__fewest KX G ?mRinguufewestaC ?mRinguufewestpg ?mRinguufewesthd ?mRinguufewestpo ?mRinguufewestsa ?mRinguufewestma ?mRinguufewestmf ?mRinguufewestk ?mRinguufewestl ?mRinguufewestc) (Tk.at_Ring____len__ KX G ?mRinguuuulenuuaC ?mRinguuuulenuupg ?mRinguuuulenuuhd ?mRinguuuulenuupo ?mRinguuuulenuusa ?mRinguuuulenuuma ?mRinguuuulenuumf ?mRinguuuulenuuk ?mRinguuuulenuul ?mRinguuuulenuuc) (Tk.at_Ring__mend KX G ?mRinguumendaC ?mRinguumendpg ?mRinguumendhd ?mRinguumendpo ?mRinguumendsa ?mRinguumendma ?mRinguumendmf ?mRinguumendk ?mRinguumendl ?mRinguumendc) (Tk.at_Ring__stand KX G ?mRinguustandaC ?mRinguustandpg ?mRinguustandhd ?mRinguustandpo ?mRinguustandsa ?mRinguustandma ?mRinguustandmf ?mRinguustandk ?mRinguustandl ?mRinguustandc) (Tk.fa_cl_Ring KX G ?fcl_RingaC ?fcl_Ringpg ?fcl_Ringhd ?fcl_Ringpo ?fcl_Ringsa) (Tk.fa_nf_Ring_stand_held KX G ?fnf_Ring_stand_heldaC ?fnf_Ring_stand_heldnf) (Tk.fa_nf_Ring_done_held KX G ?fnf_Ring_done_heldaC ?fnf_Ring_done_heldnf) (Tk.fa_nf_Ring_back_held KX G ?fnf_Ring_back_heldaC ?fnf_Ring_back_heldnf) (Tk.fa_r_Nothing KX G ?fr_NothingaC ?fr_Nothingex ?fr_Nothingkp ?fr_Nothingsb ?fr_Nothingty) (Tk.fa_ow_Ring KX G ?fow_RingaC ?fow_Ringpg ?fow_Ringhd ?fow_Ringpo ?fow_Ringsa ?fow_Ringxa ?fow_Ringxn ?fow_Ringxt ?fow_Ringxm ?fow_Ringxe ?fow_Ringty) (Tk.fa_al_words_stands KX G ?fal_words_standsa1 ?fal_words_standsa2) (Tk.fa_al_fewest_mending KX G ?fal_fewest_mendinga1 ?fal_fewest_mendinga2) ?qa ?ql ?qc ?qk
    (case qz0 => k_is)
    (case qz1 => k_is)
    (case qz2 => k_is)
    (case qz3 => k_is)
    (case qz4 => k_is)
    (case qz5 => k_is)
    (case qz6 => k_is)
    (case qz7 => k_is)
    (case qz8 => k_is)
    (case qz9 => k_is)
    (case qz10 => k_is)
    (case qz11 => k_is)
    (case qz12 => k_is)
    (case qz13 => k_is)
    (case qg0 => k_is)
    (case qg1 => k_is)
    (case qg2 => k_is)
    (case qg3 => k_is)
    (case qg4 => k_is)
    (case qg5 => k_is)
    (case qg6 => k_is)
    (case qg7 => k_is)
    (case qg8 => k_is)
    (case qg9 => k_is)
    (case qg10 => k_is)
    (case qg11 => k_is)
    (case qg12 => k_is)
    (case qg13 => k_is)
    (case qg14 => k_is)
    (case qh14 => k_is)
    (case qw14 => decide)
    (case qv14 => exact .cons ⟨_, rfl⟩ (.cons ⟨_, rfl⟩ (.nil)))
    (case qa0 => k_is)
    (case ql0 => k_is)
    (case qc0 => k_is)
    (case qk0 => k_is)
    (case qa1 => k_is)
    (case ql1 => k_is)
    (case qc1 => k_is)
    (case qk1 => k_is)
    (case qa2 => k_is)
    (case ql2 => k_is)
    (case qc2 => k_is)
    (case qk2 => k_is)
    (case qa3 => k_is)
    (case ql3 => k_is)
    (case qc3 => k_is)
    (case qk3 => k_is)
    (case qa4 => k_is)
    (case ql4 => k_is)
    (case qc4 => k_is)
    (case qk4 => k_is)
    (case qa5 => k_is)
    (case ql5 => k_is)
    (case qc5 => k_is)
    (case qk5 => k_is)
    (case qa6 => k_is)
    (case ql6 => k_is)
    (case qc6 => k_is)
    (case qk6 => k_is)
    (case qa7 => k_is)
    (case ql7 => k_is)
    (case qc7 => k_is)
    (case qk7 => k_is)
    (case qa8 => k_is)
    (case ql8 => k_is)
    (case qc8 => k_is)
    (case qk8 => k_is)
    (case qa9 => k_is)
    (case ql9 => k_is)
    (case qc9 => k_is)
    (case qk9 => k_is)
    (case qa10 => k_is)
    (case ql10 => k_is)
    (case qc10 => k_is)
    (case qk10 => k_is)
    (case qa11 => k_is)
    (case ql11 => k_is)
    (case qc11 => k_is)
    (case qk11 => k_is)
    (case qa12 => k_is)
    (case ql12 => k_is)
    (case qc12 => k_is)
    (case qk12 => k_is)
    (case qa13 => k_is)
    (case ql13 => k_is)
    (case qc13 => k_is)
    (case qk13 => k_is)
    (case qa14 => k_is)
    (case ql14 => k_is)
    (case qc14 => k_is)
    (case qk14 => k_is)
    (case qa15 => k_is)
    (case ql15 => k_is)
    (case qc15 => k_is)
    (case qk15 => k_is)
    (case qa16 => k_is)
    (case ql16 => k_is)
    (case qc16 => k_is)
    (case qk16 => k_is)
    (case qa17 => k_is)
    (case ql17 => k_is)
    (case qc17 => k_is)
    (case qk17 => k_is)
    (case qa18 => k_is)
    (case ql18 => k_is)
    (case qc18 => k_is)
    (case qk18 => k_is)
    (case qa19 => k_is)
    (case ql19 => k_is)
    (case qc19 => k_is)
    (case qk19 => k_is)
    (case qa20 => k_is)
    (case ql20 => k_is)
    (case qc20 => k_is)
    (case qk20 => k_is)
    (case qa21 => k_is)
    (case ql21 => k_is)
    (case qc21 => k_is)
    (case qk21 => k_is)
    (case qa22 => k_is)
    (case ql22 => k_is)
    (case qc22 => k_is)
    (case qk22 => k_is)
    (case qa23 => k_is)
    (case ql23 => k_is)
    (case qc23 => k_is)
    (case qk23 => k_is)
    (case qa24 => k_is)
    (case ql24 => k_is)
    (case qc24 => k_is)
    (case qk24 => k_is)
    (case qa25 => k_is)
    (case ql25 => k_is)
    (case qc25 => k_is)
    (case qk25 => k_is)
    (case qa26 => k_is)
    (case ql26 => k_is)
    (case qc26 => k_is)
    (case qk26 => k_is)
    (case qa27 => k_is)
    (case ql27 => k_is)
    (case qc27 => k_is)
    (case qk27 => k_is)
    (case qa28 => k_is)
    (case ql28 => k_is)
    (case qc28 => k_is)
    (case qk28 => k_is)
    (case qa29 => k_is)
    (case ql29 => k_is)
    (case qc29 => k_is)
    (case qk29 => k_is)
    (case qa30 => k_is)
    (case ql30 => k_is)
    (case qc30 => k_is)
    (case qk30 => k_is)
    (case qa31 => k_is)
    (case ql31 => k_is)
    (case qc31 => k_is)
    (case qk31 => k_is)
    (case qa32 => k_is)
    (case ql32 => k_is)
    (case qc32 => k_is)
    (case qk32 => k_is)
    (case qa33 => k_is)
    (case ql33 => k_is)
    (case qc33 => k_is)
    (case qk33 => k_is)
    (case qa34 => k_is)
    (case ql34 => k_is)
    (case qc34 => k_is)
    (case qk34 => k_is)
    (case qa35 => k_is)
    (case ql35 => k_is)
    (case qc35 => k_is)
    (case qk35 => k_is)
    (case nRing0aC => k_is)
    (case nRing0mk => k_is)
    (case nRing0mi => k_is)
    (case nRing0mf => k_is)
    (case nRing0kC => k_is)
    (case nRing0k => k_is)
    (case nRing0l => k_is)
    (case nRing0c => k_is)
    (case nRing0lT => k_is)
    (case nRing0lk0 => k_is)
    (case nRing1aC => k_is)
    (case nRing1mk => k_is)
    (case nRing1mi => k_is)
    (case nRing1mf => k_is)
    (case nRing1kC => k_is)
    (case nRing1k => k_is)
    (case nRing1l => k_is)
    (case nRing1c => k_is)
    (case nRing1lT => k_is)
    (case nRing1lk0 => k_is)
    (case mRinguuhistoryaC => k_is)
    (case mRinguuhistorypg => k_is)
    (case mRinguuhistoryhd => k_is)
    (case mRinguuhistorypo => k_is)
    (case mRinguuhistorysa => k_is)
    (case mRinguuhistoryma => k_is)
    (case mRinguuhistorymf => k_is)
    (case mRinguuhistoryk => k_is)
    (case mRinguuhistoryl => k_is)
    (case mRinguuhistoryc => k_is)
    (case mRinguutwinaC => k_is)
    (case mRinguutwinpg => k_is)
    (case mRinguutwinhd => k_is)
    (case mRinguutwinpo => k_is)
    (case mRinguutwinsa => k_is)
    (case mRinguutwinma => k_is)
    (case mRinguutwinmf => k_is)
    (case mRinguutwink => k_is)
    (case mRinguutwinl => k_is)
    (case mRinguutwinc => k_is)
    (case mRinguuputaC => k_is)
    (case mRinguuputpg => k_is)
    (case mRinguuputhd => k_is)
    (case mRinguuputpo => k_is)
    (case mRinguuputsa => k_is)
    (case mRinguuputma => k_is)
    (case mRinguuputmf => k_is)
    (case mRinguuputk => k_is)
    (case mRinguuputl => k_is)
    (case mRinguuputc => k_is)
    (case mRinguudidaC => k_is)
    (case mRinguudidpg => k_is)
    (case mRinguudidhd => k_is)
    (case mRinguudidpo => k_is)
    (case mRinguudidsa => k_is)
    (case mRinguudidma => k_is)
    (case mRinguudidmf => k_is)
    (case mRinguudidk => k_is)
    (case mRinguudidl => k_is)
    (case mRinguudidc => k_is)
    (case mRinguugoaC => k_is)
    (case mRinguugopg => k_is)
    (case mRinguugohd => k_is)
    (case mRinguugopo => k_is)
    (case mRinguugosa => k_is)
    (case mRinguugoma => k_is)
    (case mRinguugomf => k_is)
    (case mRinguugok => k_is)
    (case mRinguugol => k_is)
    (case mRinguugoc => k_is)
    (case mRinguucomeaC => k_is)
    (case mRinguucomepg => k_is)
    (case mRinguucomehd => k_is)
    (case mRinguucomepo => k_is)
    (case mRinguucomesa => k_is)
    (case mRinguucomema => k_is)
    (case mRinguucomemf => k_is)
    (case mRinguucomek => k_is)
    (case mRinguucomel => k_is)
    (case mRinguucomec => k_is)
    (case mRinguubackaC => k_is)
    (case mRinguubackpg => k_is)
    (case mRinguubackhd => k_is)
    (case mRinguubackpo => k_is)
    (case mRinguubacksa => k_is)
    (case mRinguubackma => k_is)
    (case mRinguubackmf => k_is)
    (case mRinguubackk => k_is)
    (case mRinguubackl => k_is)
    (case mRinguubackc => k_is)
    (case mRinguuuuequuaC => k_is)
    (case mRinguuuuequupg => k_is)
    (case mRinguuuuequuhd => k_is)
    (case mRinguuuuequupo => k_is)
    (case mRinguuuuequusa => k_is)
    (case mRinguuuuequuma => k_is)
    (case mRinguuuuequumf => k_is)
    (case mRinguuuuequuk => k_is)
    (case mRinguuuuequul => k_is)
    (case mRinguuuuequuc => k_is)
    (case mRinguufewestaC => k_is)
    (case mRinguufewestpg => k_is)
    (case mRinguufewesthd => k_is)
    (case mRinguufewestpo => k_is)
    (case mRinguufewestsa => k_is)
    (case mRinguufewestma => k_is)
    (case mRinguufewestmf => k_is)
    (case mRinguufewestk => k_is)
    (case mRinguufewestl => k_is)
    (case mRinguufewestc => k_is)
    (case mRinguuuulenuuaC => k_is)
    (case mRinguuuulenuupg => k_is)
    (case mRinguuuulenuuhd => k_is)
    (case mRinguuuulenuupo => k_is)
    (case mRinguuuulenuusa => k_is)
    (case mRinguuuulenuuma => k_is)
    (case mRinguuuulenuumf => k_is)
    (case mRinguuuulenuuk => k_is)
    (case mRinguuuulenuul => k_is)
    (case mRinguuuulenuuc => k_is)
    (case mRinguumendaC => k_is)
    (case mRinguumendpg => k_is)
    (case mRinguumendhd => k_is)
    (case mRinguumendpo => k_is)
    (case mRinguumendsa => k_is)
    (case mRinguumendma => k_is)
    (case mRinguumendmf => k_is)
    (case mRinguumendk => k_is)
    (case mRinguumendl => k_is)
    (case mRinguumendc => k_is)
    (case mRinguustandaC => k_is)
    (case mRinguustandpg => k_is)
    (case mRinguustandhd => k_is)
    (case mRinguustandpo => k_is)
    (case mRinguustandsa => k_is)
    (case mRinguustandma => k_is)
    (case mRinguustandmf => k_is)
    (case mRinguustandk => k_is)
    (case mRinguustandl => k_is)
    (case mRinguustandc => k_is)
    (case fcl_RingaC => k_is)
    (case fcl_Ringpg => k_is)
    (case fcl_Ringhd => k_is)
    (case fcl_Ringpo => k_is)
    (case fcl_Ringsa => k_is)
    (case fnf_Ring_stand_heldaC => k_is)
    (case fnf_Ring_stand_heldnf => k_is)
    (case fnf_Ring_done_heldaC => k_is)
    (case fnf_Ring_done_heldnf => k_is)
    (case fnf_Ring_back_heldaC => k_is)
    (case fnf_Ring_back_heldnf => k_is)
    (case fr_NothingaC => k_is)
    (case fr_Nothingex => k_exc)
    (case fr_Nothingkp => k_is)
    (case fr_Nothingsb => k_is)
    (case fr_Nothingty => k_is)
    (case fow_RingaC => k_is)
    (case fow_Ringpg => k_is)
    (case fow_Ringhd => k_is)
    (case fow_Ringpo => k_is)
    (case fow_Ringsa => k_is)
    (case fow_Ringxa => k_is)
    (case fow_Ringxn => k_is)
    (case fow_Ringxt => k_is)
    (case fow_Ringxm => k_is)
    (case fow_Ringxe => k_is)
    (case fow_Ringty => k_is)
    (case fal_words_standsa1 => k_is)
    (case fal_words_standsa2 => k_is)
    (case fal_fewest_mendinga1 => k_is)
    (case fal_fewest_mendinga2 => k_is)
    (case qa => k_is)
    (case ql => k_is)
    (case qc => k_is)
    (case qk => k_is)
