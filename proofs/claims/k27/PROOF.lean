import PyProof.Rows.All
import PySem.Challenge.RW_takeback_k27_equal_rings_and_twins
import Wide.All
import OpenK.AllK
import Wide.FinOn
import HandS.ForMost
import HandS.Walk
import KE.KDictKeyed
import KE.KDictDisplayH
import KE.KeyNested
import HandS.Dict
import HandS.Wide
import HandS.Style
import HandS.IsInst
import HandS.Exc
import HandS.WordsExc
import HandS.Conv
import HandS.SortInts
import HandS.SetFor
import HandS.Deep
import HandS.Small
import HandS.TupAny
import HandS.Zip
import KE.KUnpack
import KE.DataFind
import HandS.TupLen
import HandS.DictComp
import HandS.WordsDict
import HandS.SetBool
import HandS.More
import KE.SortData
import HandS.ExcInit
import HandS.ExcField
import HandS.ExcOwn
import HandS.ExcIs
import KE.KExcIs
import KE.KIsAll
import HandS.ClsMeth
import HandS.Words
import HandS.TryOnly
import HandS.TryMany
import HandS.OwnEq
import HandS.MakeKwOnly
import PyProof.InstNe
set_option Elab.async false
set_option linter.all false
set_option maxRecDepth 100000
set_option maxHeartbeats 4000000
set_option autoImplicit false
set_option exponentiation.threshold 20000
namespace Nv
open PySem PySem.Spec PyProof.Rows L2

/-! data, cells, results -/
inductive D where
  | non
  | bl (b : Bool)
  | int (i : Int)
  | str (x : Str)
  | lst (xs : List D)
  | tup (xs : List D)
  | cell (i : Nat)
  | edct
  | fn (a : Addr)
  | exc (c : Str) (f : Str) (vs : List D)
inductive Cell where
  | lst (xs : List D)
  | dk (kvs : List (Key × D))
  | dt (kvs : List (List Key × D))
  | fz (xs : List D)
  | dn (kvs : List (NestedKey × D))
  | obj (c : Str) (fs : List (Str × D))
  | lk (kvs : List (Key × D))
def Cell.isFz : Cell → Bool
  | .fz _ => true
  | .lk _ => true
  | _ => false
structure Exn where
  cls : Str
  fld : Option (Str × D)
abbrev Sl := List (Option D)
abbrev Store := List Cell
inductive R (α : Type) where
  | ok (a : α)
  | ex (x : Exn) (C : Store)
  | no
def R.bind {α β : Type} : R α → (α → R β) → R β
  | .ok a, f => f a
  | .ex x C, _ => .ex x C
  | .no, _ => .no
theorem R.bind_ok {α β : Type} (a : α) (f : α → R β) : (R.ok a).bind f = f a := rfl
abbrev RE := R (D × Store)
abbrev ME := Sl → Store → RE

/-! keys that nest, without texts -/
mutual
def keyN : D → Option NestedKey
  | .non => some .none
  | .bl b => some (.num (if b then 1 else 0))
  | .int i => some (.num i)
  | .tup ds => (keysN ds).map .tup
  | .str _ => none
  | .lst _ => none
  | .cell _ => none
  | .edct => none
  | .fn _ => none
  | .exc _ _ _ => none
def keysN : List D → Option (List NestedKey)
  | [] => some []
  | d :: ds => (keyN d).bind fun k => (keysN ds).map (k :: ·)
end
mutual
def hash0 : NestedKey → Int
  | .none => reduceHash 0xFCA86420
  | .num i => hashInt i
  | .text _ => 0
  | .tup ks => reduceHash (Builtin.Tuple.tupleHashOf (hashes0 ks))
def hashes0 : List NestedKey → List Int
  | [] => []
  | k :: ks => hash0 k :: hashes0 ks
end
mutual
def noTx : NestedKey → Bool
  | .none => true
  | .num _ => true
  | .text _ => false
  | .tup ks => noTxs ks
def noTxs : List NestedKey → Bool
  | [] => true
  | k :: ks => noTx k && noTxs ks
end
mutual
theorem hash0_eq (w : World) : ∀ k : NestedKey, noTx k = true → k.hash w = hash0 k
  | .none, _ => rfl
  | .num _, _ => rfl
  | .text _, h => nomatch h
  | .tup ks, h => by
    show reduceHash (Builtin.Tuple.tupleHashOf (NestedKey.hashes w ks)) = reduceHash (Builtin.Tuple.tupleHashOf (hashes0 ks))
    rw [hashes0_eq w ks h]
theorem hashes0_eq (w : World) : ∀ ks : List NestedKey, noTxs ks = true → NestedKey.hashes w ks = hashes0 ks
  | [], _ => rfl
  | k :: ks, h => by
    have h : (noTx k && noTxs ks) = true := h
    rw [Bool.and_eq_true] at h
    show NestedKey.hash w k :: NestedKey.hashes w ks = hash0 k :: hashes0 ks
    rw [hash0_eq w k h.1, hashes0_eq w ks h.2]
end
mutual
theorem keyN_tx : ∀ (d : D) {k : NestedKey}, keyN d = some k → noTx k = true
  | .non, _, e => by cases e; rfl
  | .bl _, _, e => by cases e; rfl
  | .int _, _, e => by cases e; rfl
  | .tup ds, k, e => by
    have e : (keysN ds).map NestedKey.tup = some k := e
    cases h : keysN ds with
    | none => rw [h] at e; cases e
    | some ks =>
      rw [h] at e
      cases e
      exact keysN_tx ds h
  | .str _, _, e => nomatch e
  | .lst _, _, e => nomatch e
  | .cell _, _, e => nomatch e
  | .edct, _, e => nomatch e
  | .fn _, _, e => nomatch e
  | .exc _ _ _, _, e => nomatch e
theorem keysN_tx : ∀ (ds : List D) {ks : List NestedKey}, keysN ds = some ks → noTxs ks = true
  | [], _, e => by cases e; rfl
  | d :: ds, ks, e => by
    have e : (keyN d).bind (fun k => (keysN ds).map (k :: ·)) = some ks := e
    cases h : keyN d with
    | none => rw [h] at e; cases e
    | some k =>
      rw [h, Option.bind_some] at e
      cases g : keysN ds with
      | none => rw [g] at e; cases e
      | some ks' =>
        rw [g] at e
        cases e
        show (noTx k && noTxs ks') = true
        rw [keyN_tx d h, keysN_tx ds g]
        rfl
end
def entN (y : NestedKey × Addr × Value) : DictEntry := ⟨hash0 y.1, .ref y.2.1, y.2.2⟩
def NDφ (a : Addr) (xs : List (NestedKey × Addr × V)) (h : Heap) : Prop :=
  (a == sysModules) = false ∧ (∀ x ∈ xs, noTx x.1 = true) ∧ xs.length ≤ sizeLine ∧ ∃ ys : List (NestedKey × Addr × Value), Paired (fun x y => x.1 = y.1 ∧ x.2.1 = y.2.1 ∧ RelV x.2.2 y.2.2) xs ys ∧
    ∃ o es ep, h.get? a = some o ∧ o.ExactDict ∧ o.data = .dict es ep ∧ es.toList = ys.map entN ∧ (ys.map (·.1)).Nodup
abbrev ND (a : Addr) (xs : List (NestedKey × Addr × V)) : HO := .ext (NDφ a xs)
/-- an exception's object, its class, its dict -/
def excφ (a C : Addr) (d : Option Addr) (h : Heap) : Prop := ∃ oe : Obj, h.get? a = some oe ∧ oe.cls = .ref C ∧ oe.dict = d ∧ ∃ vs, oe.data = .fields vs
def ExAt (F : Hp) (a C : Addr) (f : Str) (us : List V) : Prop := ∃ d : Option Addr, F a = some (.ext (excφ a C d)) ∧ ((us = [] ∧ d = none) ∨ ∃ (u : V) (dd : Addr), us = [u] ∧ d = some dd ∧ F dd = some (.xd [(f, u)]))
theorem ExAt.mono {F F' : Hp} {a C : Addr} {f : Str} {us : List V} (e : Same F F') (h : ExAt F a C f us) : ExAt F' a C f us := by
  obtain ⟨d, h1, h2⟩ := h
  refine ⟨d, e _ _ h1, ?_⟩
  rcases h2 with h2 | ⟨u, dd, h3, h4, h5⟩
  · exact .inl h2
  · exact .inr ⟨u, dd, h3, h4, e _ _ h5⟩
/-! what represents what -/
mutual
def Rep (K : PySem.W.Frag) (F : Hp) (r : List Addr) : D → V → Prop
  | .non, v => v = .non
  | .bl b, v => v = .bl b
  | .int i, v => v = .int i
  | .str x, v => v = .str x
  | .lst ds, v => ∃ a vs, v = .ref a ∧ SqL K F a vs ∧ Reps K F r ds vs
  | .tup ds, v => ∃ a vs, v = .ref a ∧ SqT K F a vs ∧ Reps K F r ds vs
  | .cell i, v => ∃ a, v = .ref a ∧ r[i]? = some a
  | .edct, v => ∃ a, v = .ref a ∧ F a = some (.dK [])
  | .fn a, v => v = .ref a
  | .exc c f ds, v => ∃ (a C : Addr) (us : List V), v = .ref a ∧ PySem.W.nsIn K mainGlobals c = some (some (.ref C)) ∧ ExAt F a C f us ∧ Reps K F r ds us
def Reps (K : PySem.W.Frag) (F : Hp) (r : List Addr) : List D → List V → Prop
  | [], vs => vs = []
  | d :: ds, vs => ∃ v w, vs = v :: w ∧ Rep K F r d v ∧ Reps K F r ds w
end
def Ex (r r' : List Addr) : Prop := ∀ (i : Nat) (a : Addr), r[i]? = some a → r'[i]? = some a
theorem Ex.refl (r : List Addr) : Ex r r := fun _ _ h => h
theorem Ex.trans {r r1 r2 : List Addr} (h : Ex r r1) (k : Ex r1 r2) : Ex r r2 := fun i a e => k i a (h i a e)
theorem Ex.app (r t : List Addr) : Ex r (r ++ t) := fun i a e => by
  rw [List.getElem?_append_left (List.getElem?_eq_some_iff.mp e).1]
  exact e
theorem Same.tup {K : PySem.W.Frag} {H H' : Hp} {a : Addr} {xs : List V} (e : Same H H') (h : SqT K H a xs) : SqT K H' a xs := by
  rcases h with (h | ⟨o, h⟩) | h
  · exact .inl (.inl (e _ _ h))
  · exact .inl (.inr ⟨o, e _ _ h⟩)
  · exact .inr h
section
variable {K : PySem.W.Frag} {B F F' H H' : Hp} {r r' : List Addr} {C : Store}
mutual
theorem Rep.mono (hF : Same F F') (hr : Ex r r') : ∀ {d : D} {v : V}, Rep K F r d v → Rep K F' r' d v
  | .non, _, h => h
  | .bl _, _, h => h
  | .int _, _, h => h
  | .str _, _, h => h
  | .lst ds, _, h => by
    obtain ⟨a, vs, e, s, q⟩ := h
    exact ⟨a, vs, e, hF.seq s, Reps.mono hF hr q⟩
  | .tup ds, _, h => by
    obtain ⟨a, vs, e, s, q⟩ := h
    exact ⟨a, vs, e, Same.tup hF s, Reps.mono hF hr q⟩
  | .cell i, _, h => by
    obtain ⟨a, e, q⟩ := h
    exact ⟨a, e, hr _ _ q⟩
  | .edct, _, h => by
    obtain ⟨a, e, q⟩ := h
    exact ⟨a, e, hF _ _ q⟩
  | .fn _, _, h => h
  | .exc c f ds, _, h => by
    obtain ⟨a, C, us, e, h1, h2, q⟩ := h
    exact ⟨a, C, us, e, h1, h2.mono hF, Reps.mono hF hr q⟩
theorem Reps.mono (hF : Same F F') (hr : Ex r r') : ∀ {ds : List D} {vs : List V}, Reps K F r ds vs → Reps K F' r' ds vs
  | [], _, h => h
  | d :: ds, _, h => by
    obtain ⟨v, w, e, h1, h2⟩ := h
    exact ⟨v, w, e, Rep.mono hF hr h1, Reps.mono hF hr h2⟩
end
theorem Reps.length : ∀ {ds : List D} {vs : List V}, Reps K F r ds vs → ds.length = vs.length
  | [], _, h => by cases (show _ = [] from h); rfl
  | d :: ds, _, h => by
    obtain ⟨v, w, rfl, _, h2⟩ := h
    simp [Reps.length h2]
theorem Reps.get : ∀ {ds : List D} {vs : List V} {i : Nat} {d : D}, Reps K F r ds vs → ds[i]? = some d → ∃ v, vs[i]? = some v ∧ Rep K F r d v
  | [], _, _, _, _, e => by simp at e
  | d :: ds, _, 0, _, h, e => by
    obtain ⟨v, w, rfl, h1, _⟩ := h
    simp at e
    subst e
    exact ⟨v, rfl, h1⟩
  | d :: ds, _, i + 1, _, h, e => by
    obtain ⟨v, w, rfl, _, h2⟩ := h
    simp at e
    obtain ⟨v', q1, q2⟩ := Reps.get h2 e
    exact ⟨v', by simpa using q1, q2⟩
theorem Reps.nil : Reps K F r [] [] := rfl
theorem Reps.cons {d : D} {v : V} {ds : List D} {vs : List V} (h : Rep K F r d v) (t : Reps K F r ds vs) : Reps K F r (d :: ds) (v :: vs) := ⟨v, vs, rfl, h, t⟩
theorem Reps.append : ∀ {ds es : List D} {vs ws : List V}, Reps K F r ds vs → Reps K F r es ws → Reps K F r (ds ++ es) (vs ++ ws)
  | [], _, _, _, h, k => by cases (show _ = [] from h); exact k
  | d :: ds, _, _, _, h, k => by
    obtain ⟨v, w, rfl, h1, h2⟩ := h
    exact .cons h1 (Reps.append h2 k)
theorem Reps.one {d : D} {v : V} (h : Rep K F r d v) : Reps K F r [d] [v] := .cons h .nil
theorem Reps.set {d : D} {v : V} (h : Rep K F r d v) : ∀ {ds : List D} {vs : List V} (i : Nat), Reps K F r ds vs → Reps K F r (ds.set i d) (vs.set i v)
  | [], _, _, k => by cases (show _ = [] from k); exact .nil
  | _ :: _, _, 0, k => by
    obtain ⟨v, w, rfl, h1, h2⟩ := k
    exact .cons h h2
  | _ :: _, _, i + 1, k => by
    obtain ⟨v, w, rfl, h1, h2⟩ := k
    exact .cons h1 (Reps.set h i h2)
theorem Reps.take : ∀ {ds : List D} {vs : List V} (n : Nat), Reps K F r ds vs → Reps K F r (ds.take n) (vs.take n)
  | _, _, 0, _ => .nil
  | [], _, n + 1, h => by cases (show _ = [] from h); exact .nil
  | _ :: _, _, n + 1, h => by
    obtain ⟨v, w, rfl, h1, h2⟩ := h
    exact .cons h1 (Reps.take n h2)
theorem Reps.drop : ∀ {ds : List D} {vs : List V} (n : Nat), Reps K F r ds vs → Reps K F r (ds.drop n) (vs.drop n)
  | _, _, 0, h => h
  | [], _, n + 1, h => by cases (show _ = [] from h); exact .nil
  | _ :: _, _, n + 1, h => by
    obtain ⟨v, w, rfl, h1, h2⟩ := h
    exact Reps.drop n h2
theorem Reps.dropLast {ds : List D} {vs : List V} (h : Reps K F r ds vs) : Reps K F r ds.dropLast vs.dropLast := by
  rw [List.dropLast_eq_take, List.dropLast_eq_take, h.length]
  exact h.take _
theorem Reps.eraseIdx : ∀ {ds : List D} {vs : List V} (i : Nat), Reps K F r ds vs → Reps K F r (ds.eraseIdx i) (vs.eraseIdx i)
  | [], _, i, h => by cases (show _ = [] from h); exact .nil
  | _ :: _, _, 0, h => by
    obtain ⟨v, w, rfl, h1, h2⟩ := h
    exact h2
  | _ :: _, _, i + 1, h => by
    obtain ⟨v, w, rfl, h1, h2⟩ := h
    exact .cons h1 (Reps.eraseIdx i h2)
theorem Reps.reverse : ∀ {ds : List D} {vs : List V}, Reps K F r ds vs → Reps K F r ds.reverse vs.reverse
  | [], _, h => by cases (show _ = [] from h); exact .nil
  | _ :: _, _, h => by
    obtain ⟨v, w, rfl, h1, h2⟩ := h
    simp only [List.reverse_cons]
    exact (Reps.reverse h2).append (.one h1)
theorem Reps.rep {ds : List D} {vs : List V} (h : Reps K F r ds vs) : ∀ k : Nat, Reps K F r (List.replicate k ds).flatten (List.replicate k vs).flatten
  | 0 => .nil
  | k + 1 => by
    simp only [List.replicate_succ, List.flatten_cons]
    exact h.append (h.rep k)
theorem Reps.ints : ∀ {ns : List Int} {vs : List V}, Reps K F r (ns.map D.int) vs → vs = ns.map V.int
  | [], _, h => h
  | n :: ns, _, h => by
    obtain ⟨v, w, rfl, h1, h2⟩ := h
    rw [Reps.ints h2, show v = V.int n from h1]
    rfl
theorem Reps.ofInts : ∀ (ns : List Int), Reps K F r (ns.map D.int) (ns.map V.int)
  | [] => rfl
  | n :: ns => .cons rfl (Reps.ofInts ns)

/-! the state -/
def CellOk (K : PySem.W.Frag) (F : Hp) (r : List Addr) (H : Hp) (a : Addr) : Cell → Prop
  | .lst ds => F a = none ∧ ∃ vs, H a = some (.lst vs) ∧ Reps K F r ds vs
  | .dk kvs => F a = none ∧ ∃ vs, H a = some (.dK vs) ∧ kvs.map (·.1) = vs.map (·.1) ∧ Reps K F r (kvs.map (·.2)) (vs.map (·.2))
  | .dt kvs => F a = none ∧ ∃ vs, H a = some (.dT vs) ∧ kvs.map (·.1) = vs.map (·.1) ∧ Reps K F r (kvs.map (·.2)) (vs.map (·.2))
  | .fz ds => ∃ vs, F a = some (.lst vs) ∧ Reps K F r ds vs
  | .dn kvs => F a = none ∧ ∃ xs, H a = some (ND a xs) ∧ kvs.map (·.1) = xs.map (·.1) ∧ Reps K F r (kvs.map (·.2)) (xs.map (·.2.2)) ∧ ∀ x ∈ xs, ∃ d, keyN d = some x.1 ∧ x.1.depth ≤ 8 ∧ Rep K F r d (.ref x.2.1)
  | .obj c fs => F a = none ∧ ∃ (C dx : Addr) (gs : List (Str × V)), PySem.W.nsIn K mainGlobals c = some (some (.ref C)) ∧ H a = some (.ins C dx gs) ∧ fs.map (·.1) = gs.map (·.1) ∧ Reps K F r (fs.map (·.2)) (gs.map (·.2))
  | .lk kvs => ∃ o vs, F a = some (.frz o (.dK vs)) ∧ kvs.map (·.1) = vs.map (·.1) ∧ Reps K F r (kvs.map (·.2)) (vs.map (·.2))
structure Rel (K : PySem.W.Frag) (B F : Hp) (r : List Addr) (H : Hp) (C : Store) : Prop where
  froz : Same F H
  base : Same B H
  apart : ∀ (a : Addr) (o : HO), B a = some o → F a = none
  offB : ∀ (i : Nat) (a : Addr), r[i]? = some a → B a = none
  len : r.length = C.length
  cells : ∀ (i : Nat) (c : Cell) (a : Addr), C[i]? = some c → r[i]? = some a → CellOk K F r H a c
  inj : ∀ (i j : Nat) (a : Addr), r[i]? = some a → r[j]? = some a → i = j
def Sls (K : PySem.W.Frag) (F : Hp) (r : List Addr) (sl : Sl) (s : L2.St) : Prop :=
  s.length = sl.length ∧ ∀ (i : Nat) (d : D), sl[i]? = some (some d) → ∃ v, s[i]? = some (some v) ∧ Rep K F r d v
theorem Sls.mono {sl : Sl} {s : L2.St} (h : Sls K F r sl s) (hF : Same F F') (hr : Ex r r') : Sls K F' r' sl s :=
  ⟨h.1, fun i d e => let ⟨v, q1, q2⟩ := h.2 i d e; ⟨v, q1, q2.mono hF hr⟩⟩
theorem CellOk.mono {a : Addr} {c : Cell} (hr : Ex r r') (hF : Same F F') (hn : F' a = none ∨ c.isFz = true) (hH : ∀ o, H a = some o → H' a = some o) (h : CellOk K F r H a c) : CellOk K F' r' H' a c := by
  cases c with
  | lst ds =>
    obtain ⟨h1, vs, h2, h3⟩ := h
    exact ⟨hn.resolve_right (by intro z; cases z), vs, hH _ h2, h3.mono hF hr⟩
  | dk kvs =>
    obtain ⟨h1, vs, h2, h3, h4⟩ := h
    exact ⟨hn.resolve_right (by intro z; cases z), vs, hH _ h2, h3, h4.mono hF hr⟩
  | dt kvs =>
    obtain ⟨h1, vs, h2, h3, h4⟩ := h
    exact ⟨hn.resolve_right (by intro z; cases z), vs, hH _ h2, h3, h4.mono hF hr⟩
  | fz ds =>
    obtain ⟨vs, h1, h2⟩ := h
    exact ⟨vs, hF _ _ h1, h2.mono hF hr⟩
  | dn kvs =>
    obtain ⟨h1, xs, h2, h3, h4, h5⟩ := h
    exact ⟨hn.resolve_right (by intro z; cases z), xs, hH _ h2, h3, h4.mono hF hr, fun x hx => let ⟨d, k1, k2, k3⟩ := h5 x hx; ⟨d, k1, k2, k3.mono hF hr⟩⟩
  | obj c fs =>
    obtain ⟨h1, C, dx, gs, h2, h3, h4, h5⟩ := h
    exact ⟨hn.resolve_right (by intro z; cases z), C, dx, gs, h2, hH _ h3, h4, h5.mono hF hr⟩
  | lk kvs =>
    obtain ⟨o, vs, h1, h2, h3⟩ := h
    exact ⟨o, vs, hF _ _ h1, h2, h3.mono hF hr⟩
theorem CellOk.there {a : Addr} {c : Cell} (hF : Same F H) (h : CellOk K F r H a c) : ∃ o, H a = some o := by
  cases c with
  | lst ds => obtain ⟨h1, vs, h2, h3⟩ := h; exact ⟨_, h2⟩
  | dk kvs => obtain ⟨h1, vs, h2, h3⟩ := h; exact ⟨_, h2⟩
  | dt kvs => obtain ⟨h1, vs, h2, h3⟩ := h; exact ⟨_, h2⟩
  | fz ds => obtain ⟨vs, h1, h2⟩ := h; exact ⟨_, hF _ _ h1⟩
  | dn kvs => obtain ⟨h1, xs, h2, h3⟩ := h; exact ⟨_, h2⟩
  | obj c fs => obtain ⟨h1, C, dx, gs, h2, h3, h4⟩ := h; exact ⟨_, h3⟩
  | lk kvs => obtain ⟨o, vs, h1, h2, h3⟩ := h; exact ⟨_, hF _ _ h1⟩
theorem CellOk.notF {a : Addr} {c : Cell} (h : CellOk K F r H a c) : F a = none ∨ c.isFz = true := by
  cases c with
  | lst ds => exact .inl h.1
  | dk kvs => exact .inl h.1
  | dt kvs => exact .inl h.1
  | fz ds => exact .inr rfl
  | dn kvs => exact .inl h.1
  | obj c fs => exact .inl h.1
  | lk kvs => exact .inr rfl
theorem Rel.cellAt (h : Rel K B F r H C) {i : Nat} {a : Addr} (e : r[i]? = some a) : ∃ c, C[i]? = some c ∧ CellOk K F r H a c := by
  have hi : i < C.length := by
    rw [← h.len]
    exact (List.getElem?_eq_some_iff.mp e).1
  exact ⟨C[i], List.getElem?_eq_getElem hi, h.cells i _ a (List.getElem?_eq_getElem hi) e⟩
theorem Rel.addrAt (h : Rel K B F r H C) {i : Nat} {c : Cell} (e : C[i]? = some c) : ∃ a, r[i]? = some a ∧ CellOk K F r H a c := by
  have hi : i < r.length := by
    rw [h.len]
    exact (List.getElem?_eq_some_iff.mp e).1
  exact ⟨r[i], List.getElem?_eq_getElem hi, h.cells i c _ e (List.getElem?_eq_getElem hi)⟩
theorem Rel.notin (h : Rel K B F r H C) {p : Addr} (hp : H p = none) {i : Nat} {a : Addr} (e : r[i]? = some a) : a ≠ p := by
  obtain ⟨c, _, q⟩ := h.cellAt e
  obtain ⟨o, ho⟩ := q.there h.froz
  exact ne_of_none ho hp
theorem Rel.freeF (h : Rel K B F r H C) {p : Addr} (hp : H p = none) : F p = none := Same.free h.froz hp
theorem same_new {H : Hp} {p : Addr} {o : HO} (h : H p = none) : Same H (upd H p o) := fun b x e => by
  rw [upd_ne (ne_of_none e h)]
  exact e
/-- a new frozen object -/
theorem Rel.freeze (h : Rel K B F r H C) {p : Addr} {o : HO} (hp : H p = none) : Rel K B (upd F p o) r (upd H p o) C where
  froz := fun b x e => by
    by_cases hb : b = p
    · subst hb
      rw [upd_same] at e ⊢
      exact e
    · rw [upd_ne hb] at e ⊢
      exact h.froz b x e
  base := h.base.trans (same_new hp)
  apart := fun a x e => by
    rw [upd_ne (ne_of_none (h.base a x e) hp)]
    exact h.apart a x e
  offB := h.offB
  len := h.len
  cells := fun i c a e1 e2 => by
    have hne := h.notin hp e2
    have q := h.cells i c a e1 e2
    refine q.mono (.refl r) (same_new (h.freeF hp)) ?_ fun o ho => by rw [upd_ne hne]; exact ho
    rw [upd_ne hne]
    exact q.notF
  inj := h.inj
/-- an object of nobody's is new, not tracked by us -/
theorem Rel.junk (h : Rel K B F r H C) {p : Addr} {o : HO} (hp : H p = none) : Rel K B F r (upd H p o) C where
  froz := fun b x e => by
    rw [upd_ne (ne_of_none (h.froz b x e) hp)]
    exact h.froz b x e
  base := h.base.trans (same_new hp)
  apart := h.apart
  offB := h.offB
  len := h.len
  cells := fun i c a e1 e2 => by
    have hne := h.notin hp e2
    have q := h.cells i c a e1 e2
    exact q.mono (.refl r) (.refl F) q.notF fun o ho => by rw [upd_ne hne]; exact ho
  inj := h.inj
/-- a new cell -/
theorem Rel.alloc (h : Rel K B F r H C) {p : Addr} {o : HO} {c : Cell} (hp : H p = none) (hc : CellOk K F (r ++ [p]) (upd H p o) p c) : Rel K B F (r ++ [p]) (upd H p o) (C ++ [c]) where
  froz := (h.junk hp).froz
  base := (h.junk hp).base
  apart := h.apart
  offB := fun i a e => by
    by_cases hi : i < r.length
    · rw [List.getElem?_append_left hi] at e
      exact h.offB i a e
    · rw [List.getElem?_append_right (by omega)] at e
      have e : p = a := by
        cases hj : i - r.length with
        | zero => rw [hj] at e; simpa using e
        | succ n => rw [hj] at e; simp at e
      subst e
      exact Same.free h.base hp
  len := by simp [h.len]
  cells := fun i c' a e1 e2 => by
    by_cases hi : i < r.length
    · rw [List.getElem?_append_left hi] at e2
      rw [List.getElem?_append_left (by rw [← h.len]; exact hi)] at e1
      exact ((h.junk (o := o) hp).cells i c' a e1 e2).mono (Ex.app r [p]) (.refl F) ((h.junk (o := o) hp).cells i c' a e1 e2).notF fun _ q => q
    · have hl : i < (r ++ [p]).length := (List.getElem?_eq_some_iff.mp e2).1
      have hi2 : i = r.length := by simp at hl; omega
      subst hi2
      rw [List.getElem?_append_right (Nat.le_refl _)] at e2
      rw [h.len, List.getElem?_append_right (Nat.le_refl _)] at e1
      simp at e1 e2
      subst e1 e2
      exact hc
  inj := fun i j a e1 e2 => by
    have hl1 : i < (r ++ [p]).length := (List.getElem?_eq_some_iff.mp e1).1
    have hl2 : j < (r ++ [p]).length := (List.getElem?_eq_some_iff.mp e2).1
    simp at hl1 hl2
    by_cases hi : i < r.length
    · rw [List.getElem?_append_left hi] at e1
      by_cases hj : j < r.length
      · rw [List.getElem?_append_left hj] at e2
        exact h.inj i j a e1 e2
      · have : j = r.length := by omega
        subst this
        rw [List.getElem?_append_right (Nat.le_refl _)] at e2
        simp at e2
        exact absurd e2.symm (h.notin hp e1)
    · have : i = r.length := by omega
      subst this
      rw [List.getElem?_append_right (Nat.le_refl _)] at e1
      simp at e1
      by_cases hj : j < r.length
      · rw [List.getElem?_append_left hj] at e2
        exact absurd e1.symm (h.notin hp e2)
      · omega
/-- a cell written -/
theorem Rel.write (h : Rel K B F r H C) {i : Nat} {a : Addr} {o : HO} {c : Cell} (e : r[i]? = some a) (hn : F a = none) (hc : CellOk K F r (upd H a o) a c) : Rel K B F r (upd H a o) (C.set i c) where
  froz := fun b x q => by
    rw [upd_ne (ne_of_none q hn)]
    exact h.froz b x q
  base := fun b x q => by
    rw [upd_ne (ne_of_none q (h.offB i a e))]
    exact h.base b x q
  apart := h.apart
  offB := h.offB
  len := by simp [h.len]
  cells := fun j c' b e1 e2 => by
    by_cases hj : j = i
    · subst hj
      rw [e] at e2
      cases e2
      rw [List.getElem?_set_self (by rw [← h.len]; exact (List.getElem?_eq_some_iff.mp e).1)] at e1
      cases e1
      exact hc
    · rw [List.getElem?_set_ne (Ne.symm hj)] at e1
      have hba : b ≠ a := fun z => hj (h.inj j i b e2 (z ▸ e))
      have q := h.cells j c' b e1 e2
      exact q.mono (.refl r) (.refl F) q.notF fun o ho => by rw [upd_ne hba]; exact ho
  inj := h.inj
/-- a cell frozen for good -/
theorem Rel.kill (h : Rel K B F r H C) {i : Nat} {a : Addr} {vs : List V} {ds : List D} (e : r[i]? = some a) (hn : F a = none) (ho : H a = some (.lst vs)) (hd : Reps K F r ds vs) : Rel K B (upd F a (.lst vs)) r H (C.set i (.fz ds)) ∧ Same F (upd F a (.lst vs)) := by
  refine ⟨⟨fun b x q => ?_, h.base, fun b x q => ?_, h.offB, by simp [h.len], fun j c' b e1 e2 => ?_, h.inj⟩, same_new hn⟩
  · by_cases hb : b = a
    · subst hb
      rw [upd_same] at q
      rw [← q]
      exact ho
    · rw [upd_ne hb] at q
      exact h.froz b x q
  · rw [upd_ne (ne_of_none q (h.offB i a e))]
    exact h.apart b x q
  · by_cases hj : j = i
    · subst hj
      rw [e] at e2
      cases e2
      rw [List.getElem?_set_self (by rw [← h.len]; exact (List.getElem?_eq_some_iff.mp e).1)] at e1
      cases e1
      exact ⟨vs, upd_same, hd.mono (same_new hn) (.refl r)⟩
    · rw [List.getElem?_set_ne (Ne.symm hj)] at e1
      have hba : b ≠ a := fun z => hj (h.inj j i b e2 (z ▸ e))
      have q := h.cells j c' b e1 e2
      refine q.mono (.refl r) (same_new hn) ?_ fun _ z => z
      rw [upd_ne hba]
      exact q.notF
/-- the first cells alone -/
theorem Rel.cut (h : Rel K B F r H C) (n : Nat) (hn : n ≤ C.length) (hc : ∀ (i : Nat) (c : Cell) (a : Addr), i < n → C[i]? = some c → r[i]? = some a → CellOk K F (r.take n) H a c) : Rel K B F (r.take n) H (C.take n) where
  froz := h.froz
  base := h.base
  apart := h.apart
  offB := fun i a e => by
    have hi : i < (r.take n).length := (List.getElem?_eq_some_iff.mp e).1
    have hi : i < n := by simp at hi; omega
    rw [List.getElem?_take_of_lt hi] at e
    exact h.offB i a e
  len := by simp [h.len]
  cells := fun i c a e1 e2 => by
    have hi : i < (C.take n).length := (List.getElem?_eq_some_iff.mp e1).1
    have hi : i < n := by simp at hi; omega
    rw [List.getElem?_take_of_lt hi] at e1 e2
    exact hc i c a hi e1 e2
  inj := fun i j a e1 e2 => by
    have hi : i < (r.take n).length := (List.getElem?_eq_some_iff.mp e1).1
    have hj : j < (r.take n).length := (List.getElem?_eq_some_iff.mp e2).1
    have hi : i < n := by simp at hi; omega
    have hj : j < n := by simp at hj; omega
    rw [List.getElem?_take_of_lt hi] at e1
    rw [List.getElem?_take_of_lt hj] at e2
    exact h.inj i j a e1 e2
/-- one thing more that stands by itself -/
theorem Rel.aside (h : Rel K B F r H C) {p : Addr} {o : HO} (hp : H p = none) : Rel K (upd B p o) F r (upd H p o) C where
  froz := (h.junk hp).froz
  base := fun b x q => by
    by_cases hb : b = p
    · subst hb
      rw [upd_same] at q ⊢
      exact q
    · rw [upd_ne hb] at q ⊢
      exact h.base b x q
  apart := fun b x q => by
    by_cases hb : b = p
    · subst hb
      exact h.freeF hp
    · rw [upd_ne hb] at q
      exact h.apart b x q
  offB := fun i a e => by
    rw [upd_ne (h.notin hp e)]
    exact h.offB i a e
  len := h.len
  cells := (h.junk hp).cells
  inj := h.inj
/-- it changes -/
theorem Rel.asideSet {p : Addr} {o u : HO} (h : Rel K (upd B p o) F r H C) : Rel K (upd B p u) F r (upd H p u) C where
  froz := fun b x q => by
    rw [upd_ne fun z => by subst z; rw [h.apart b o upd_same] at q; cases q]
    exact h.froz b x q
  base := fun b x q => by
    by_cases hb : b = p
    · subst hb
      rw [upd_same] at q ⊢
      exact q
    · rw [upd_ne hb] at q ⊢
      exact h.base b x (by rw [upd_ne hb]; exact q)
  apart := fun b x q => by
    by_cases hb : b = p
    · subst hb
      exact h.apart b o upd_same
    · rw [upd_ne hb] at q
      exact h.apart b x (by rw [upd_ne hb]; exact q)
  offB := fun i a e => by
    have q := h.offB i a e
    by_cases hb : a = p
    · subst hb
      rw [upd_same] at q
      cases q
    · rw [upd_ne hb] at q ⊢
      exact q
  len := h.len
  cells := fun i c a e1 e2 => by
    have q := h.cells i c a e1 e2
    have hne : a ≠ p := fun z => by
      subst z
      have q := h.offB i a e2
      rw [upd_same] at q
      cases q
    exact q.mono (.refl r) (.refl F) q.notF fun o ho => by rw [upd_ne hne]; exact ho
  inj := h.inj
/-- it is let go: frozen -/
theorem Rel.asideFreeze {p : Addr} {o : HO} (h : Rel K (upd B p o) F r H C) (hB : B p = none) : Rel K B (upd F p o) r H C ∧ Same F (upd F p o) := by
  have hp : H p = some o := h.base p o upd_same
  have hF : F p = none := h.apart p o upd_same
  refine ⟨⟨fun b x q => ?_, fun b x q => ?_, fun b x q => ?_, fun i a e => ?_, h.len, fun i c a e1 e2 => ?_, h.inj⟩, same_new hF⟩
  · by_cases hb : b = p
    · subst hb
      rw [upd_same] at q
      rw [← q]
      exact hp
    · rw [upd_ne hb] at q
      exact h.froz b x q
  · exact h.base b x (by rw [upd_ne (ne_of_none q hB)]; exact q)
  · rw [upd_ne (ne_of_none q hB)]
    exact h.apart b x (by rw [upd_ne (ne_of_none q hB)]; exact q)
  · have q := h.offB i a e
    by_cases hb : a = p
    · subst hb
      exact hB
    · rw [upd_ne hb] at q
      exact q
  · have q := h.cells i c a e1 e2
    have hne : a ≠ p := fun z => by
      subst z
      have q := h.offB i a e2
      rw [upd_same] at q
      cases q
    refine q.mono (.refl r) (same_new hF) ?_ fun _ z => z
    rw [upd_ne hne]
    exact q.notF
/-- .. as a cell -/
theorem Rel.asideCell {p : Addr} {o : HO} {c : Cell} (h : Rel K (upd B p o) F r H C) (hB : B p = none) (hc : CellOk K F (r ++ [p]) H p c) : Rel K B F (r ++ [p]) H (C ++ [c]) := by
  have hp : H p = some o := h.base p o upd_same
  have hF : F p = none := h.apart p o upd_same
  have nin : ∀ (i : Nat) (a : Addr), r[i]? = some a → a ≠ p := fun i a e z => by
    subst z
    have q := h.offB i a e
    rw [upd_same] at q
    cases q
  have last : ∀ (i : Nat) (a : Addr), (r ++ [p])[i]? = some a → r[i]? = some a ∨ (i = r.length ∧ a = p) := fun i a e => by
    by_cases hi : i < r.length
    · rw [List.getElem?_append_left hi] at e
      exact .inl e
    · rw [List.getElem?_append_right (by omega)] at e
      cases hj : i - r.length with
      | zero => rw [hj] at e; exact .inr ⟨by omega, by simpa using e.symm⟩
      | succ n => rw [hj] at e; simp at e
  refine ⟨h.froz, fun b x q => ?_, fun b x q => ?_, fun i a e => ?_, by simp [h.len], fun i c' a e1 e2 => ?_, fun i j a e1 e2 => ?_⟩
  · exact h.base b x (by rw [upd_ne (ne_of_none q hB)]; exact q)
  · exact h.apart b x (by rw [upd_ne (ne_of_none q hB)]; exact q)
  · rcases last i a e with e | ⟨_, e⟩
    · have q := h.offB i a e
      rw [upd_ne (nin i a e)] at q
      exact q
    · rw [e]
      exact hB
  · rcases last i a e2 with e | ⟨e, e'⟩
    · have hi : i < C.length := by
        rw [← h.len]
        exact (List.getElem?_eq_some_iff.mp e).1
      rw [List.getElem?_append_left hi] at e1
      have q := h.cells i c' a e1 e
      exact q.mono (Ex.app r [p]) (.refl F) q.notF fun _ z => z
    · subst e e'
      rw [h.len, List.getElem?_append_right (Nat.le_refl _)] at e1
      simp at e1
      subst e1
      exact hc
  · rcases last i a e1 with e | ⟨e, e'⟩
    · rcases last j a e2 with k | ⟨k, k'⟩
      · exact h.inj i j a e k
      · exact absurd k' (nin i a e)
    · rcases last j a e2 with k | ⟨k, k'⟩
      · exact absurd e' (nin j a k)
      · rw [e, k]
end
end Nv

namespace Nv
open PySem PySem.Spec PyProof.Rows L2

/-! what is wanted of a result -/
def XOk (K : PySem.W.Frag) (mg : Str → Option Value) (E : XK) (B F : Hp) (r : List Addr) (x : Exn) (C : Store) : Prop :=
  ∀ (F' : Hp) (r' : List Addr) (H' : Hp) (a : Addr), Same F F' → Ex r r' → Rel K B F' r' H' C → mg x.cls = some (.ref a) →
    match x.fld with
    | none => E (.ref a) none H'
    | some (f, d) => ∀ (dx : Addr) (v : V), F' dx = some (.xd [(f, v)]) → Rep K F' r' d v → E (.ref a) (some dx) H'
abbrev PR (S T : Type) := Hp → List Addr → S → T → Prop
def Out {S T : Type} (P : PR S T) (K : PySem.W.Frag) (mg : Str → Option Value) (E : XK) (B F : Hp) (r : List Addr) (o : R (S × Store)) (Q : T → Hp → Prop) : Prop :=
  match o with
  | .ok (a, C) => ∀ (F' : Hp) (r' : List Addr) (H' : Hp) (b : T), Same F F' → Ex r r' → Rel K B F' r' H' C → P F' r' a b → Q b H'
  | .ex x C => XOk K mg E B F r x C
  | .no => False
abbrev PB : PR Bool Bool := fun _ _ a b => a = b
section
variable {K : PySem.W.Frag} {mg : Str → Option Value} {E : XK} {B F F1 : Hp} {r r1 : List Addr} {S T S2 T2 : Type} {P : PR S T} {P2 : PR S2 T2}
theorem XOk.mono {x : Exn} {C : Store} (h : XOk K mg E B F r x C) (hF : Same F F1) (hr : Ex r r1) : XOk K mg E B F1 r1 x C :=
  fun F' r' H' a h1 h2 h3 h4 => h F' r' H' a (hF.trans h1) (hr.trans h2) h3 h4
theorem Out.mono {o : R (S × Store)} {Q : T → Hp → Prop} (h : Out P K mg E B F r o Q) (hF : Same F F1) (hr : Ex r r1) : Out P K mg E B F1 r1 o Q := by
  cases o with
  | ok p => exact fun F' r' H' b h1 h2 h3 h4 => h F' r' H' b (hF.trans h1) (hr.trans h2) h3 h4
  | ex x C => exact XOk.mono h hF hr
  | no => exact h
theorem Out.bind {o : R (S × Store)} {k : S × Store → R (S2 × Store)} {Q : T2 → Hp → Prop} {Q' : T → Hp → Prop} (h : Out P2 K mg E B F r (o.bind k) Q)
    (hk : ∀ (a : S) (C1 : Store) (F1 : Hp) (r1 : List Addr) (H1 : Hp) (b : T), Same F F1 → Ex r r1 → Rel K B F1 r1 H1 C1 → P F1 r1 a b → Out P2 K mg E B F1 r1 (k (a, C1)) Q → Q' b H1) : Out P K mg E B F r o Q' := by
  cases o with
  | ok p =>
    obtain ⟨a, C1⟩ := p
    exact fun F' r' H' b h1 h2 h3 h4 => hk a C1 F' r' H' b h1 h2 h3 h4 (Out.mono h h1 h2)
  | ex x C => exact h
  | no => exact h
theorem Out.imp {o : R (S × Store)} {Q Q' : T → Hp → Prop} (h : Out P K mg E B F r o Q) (hq : ∀ b H, Q b H → Q' b H) : Out P K mg E B F r o Q' := by
  cases o with
  | ok p => exact fun F' r' H' b h1 h2 h3 h4 => hq _ _ (h F' r' H' b h1 h2 h3 h4)
  | ex x C => exact h
  | no => exact h
end
abbrev MG (S : Type) := Sl → Store → R (S × Store)
def LG {S T : Type} (P : PR S T) (K : PySem.W.Frag) (mg : Str → Option Value) (E : XK) (m : MG S) : L2.St → Hp → (T → Hp → Prop) → Prop := fun s H Q =>
  ∃ B F r sl C, Rel K B F r H C ∧ Sls K F r sl s ∧ Out P K mg E B F r (m sl C) Q
/-- expressions, tests, argument lists -/
structure NE (X : Cx) (E : XK) (e : Expr) (m : ME) : Prop where
  pe : PE X e (LG (Rep X.K) X.K X.mg E m)
structure NT (X : Cx) (E : XK) (e : Expr) (m : MG Bool) : Prop where
  pt : PT X e (LG PB X.K X.mg E m)
structure NW (X : Cx) (E : XK) (e : Expr) (m : MG Bool) : Prop where
  pw : PW X e (LG PB X.K X.mg E m)
structure NA (X : Cx) (E : XK) (es : List Expr) (m : MG (List D)) : Prop where
  pa : PA X es (LG (Reps X.K) X.K X.mg E m)
theorem pe_imp {X : Cx} {e : Expr} {t t' : TE} (h : PE X e t) (hi : ∀ s H Q, t' s H Q → t s H Q) : PE X e t' := ⟨fun pins s σ H Q I q => h.run pins s σ H Q I (hi _ _ _ q)⟩
theorem pt_imp {X : Cx} {e : Expr} {t t' : TT} (h : PT X e t) (hi : ∀ s H Q, t' s H Q → t s H Q) : PT X e t' := ⟨fun pins s σ H Q I q => h.run pins s σ H Q I (hi _ _ _ q)⟩
theorem pw_imp {X : Cx} {e : Expr} {t t' : TT} (h : PW X e t) (hi : ∀ s H Q, t' s H Q → t s H Q) : PW X e t' := ⟨fun wh pins s σ H Q I q => h.run wh pins s σ H Q I (hi _ _ _ q)⟩
theorem pa_imp {X : Cx} {e : List Expr} {t t' : TA} (h : PA X e t) (hi : ∀ s H Q, t' s H Q → t s H Q) : PA X e t' := ⟨fun pos pins s σ H Q I q => h.run pos pins s σ H Q I (hi _ _ _ q)⟩

section
variable {X : Cx} {E : XK} {a b c : Expr} {es : List Expr} {ma mb mc : ME} {ta tb : MG Bool} {mas : MG (List D)} {pos p1 : Pos}

/-! names and constants -/
def mVar (i : Nat) : ME := fun sl C => match sl[i]? with
  | some (some d) => .ok (d, C)
  | _ => .no
def mC (d : D) : ME := fun _ C => .ok (d, C)
theorem ne_of_var {i : Nat} (h : PE X a (tVar i)) : NE X E a (mVar i) := ⟨pe_imp h fun s H Q q => by
  obtain ⟨B, F, r, sl, C, hr, hs, o⟩ := q
  unfold mVar at o
  split at o
  · rename_i d e
    obtain ⟨v, e1, e2⟩ := hs.2 i d e
    exact ⟨v, e1, o F r H v (.refl F) (.refl r) hr e2⟩
  · exact False.elim o⟩
theorem ne_var (i : Nat) {x : Str} {pos : Pos} (hN : X.N[i]? = some x := by rfl) (hv : Vis X.env.scope x := by first | exact Or.inl rfl | exact Or.inr (Or.inl rfl) | exact Or.inr (Or.inr rfl)) (hd : (x == ("__debug__" : Str)) = false := by decide)
    (hcd : (x == ("__classdict__" : Str)) = false := by decide) : NE X E (.Name x pos) (mVar i) := ne_of_var (pe_var hN hv hd hcd)
theorem ne_c {d : D} {v : V} (h : PE X a (tC v)) (hd : ∀ F r, Rep X.K F r d v) : NE X E a (mC d) := ⟨pe_imp h fun s H Q q => by
  obtain ⟨B, F, r, sl, C, hr, hs, o⟩ := q
  exact o F r H v (.refl F) (.refl r) hr (hd F r)⟩
theorem ne_int {i : Int} {j : Nat} : NE X E (.Constant (.int i) j pos) (mC (.int i)) := ne_c pe_int fun _ _ => rfl
theorem ne_bl {i : Bool} {j : Nat} : NE X E (.Constant (.bool i) j pos) (mC (.bl i)) := ne_c pe_bl fun _ _ => rfl
theorem ne_non {j : Nat} : NE X E (.Constant .none j pos) (mC .non) := ne_c pe_non fun _ _ => rfl
theorem ne_str {x : Str} {j : Nat} : NE X E (.Constant (.str x) j pos) (mC (.str x)) := ne_c pe_str fun _ _ => rfl

/-! two-place operations -/
def m2 (g : D → D → Store → RE) (ma mb : ME) : ME := fun sl C => (ma sl C).bind fun p => (mb sl p.2).bind fun q => g p.1 q.1 q.2
def OpN (K : PySem.W.Frag) (mg : Str → Option Value) (E : XK) (r2 : R2) (g : D → D → Store → RE) : Prop :=
  ∀ (B F : Hp) (r : List Addr) (H : Hp) (C : Store) (x y : D) (v u : V) (Q : VK), Rel K B F r H C → Rep K F r x v → Rep K F r y u → Out (Rep K) K mg E B F r (g x y C) Q → r2 v u H Q
theorem two {r2 : R2} {g : D → D → Store → RE} (hg : OpN X.K X.mg E r2 g) : ∀ s H Q, LG (Rep X.K) X.K X.mg E (m2 g ma mb) s H Q → tOp r2 (LG (Rep X.K) X.K X.mg E ma) (LG (Rep X.K) X.K X.mg E mb) s H Q := by
  intro s H Q q
  obtain ⟨B, F, r, sl, C, hr, hs, o⟩ := q
  refine ⟨B, F, r, sl, C, hr, hs, Out.bind (P := Rep X.K) o fun x C1 F1 r1 H1 v e1 e2 hr1 hx o1 => ?_⟩
  refine ⟨B, F1, r1, sl, C1, hr1, hs.mono e1 e2, Out.bind (P := Rep X.K) o1 fun y C2 F2 r2' H2 u e3 e4 hr2 hy o2 => ?_⟩
  exact hg B F2 r2' H2 C2 x y v u Q hr2 (hx.mono e3 e4) hy o2
theorem ne_op {op : Operator} {r2 : R2} {g : D → D → Store → RE} (ho : OpR X (binaryOp op) r2) (hg : OpN X.K X.mg E r2 g) (ha : NE X E a ma) (hb : NE X E b mb) : NE X E (.BinOp a op b pos) (m2 g ma mb) :=
  ⟨pe_imp (pe_op ho ha.pe hb.pe) (two hg)⟩
theorem ne_cmp {op : CmpOp} {r2 : R2} {g : D → D → Store → RE} (ho : OpR X (compareOp op) r2) (hg : OpN X.K X.mg E r2 g) (ha : NE X E a ma) (hb : NE X E b mb) (hm : behindInMarks op b = false) : NE X E (.Compare a [op] [b] pos) (m2 g ma mb) :=
  ⟨pe_imp (pe_cmpR ho ha.pe hb.pe hm) (two hg)⟩
/-- a value that is a truth, as a test -/
def mT (m : ME) : MG Bool := fun sl C => (m sl C).bind fun p => match p.1 with
  | .bl b => .ok (b, p.2)
  | _ => .no
theorem test {t : TE} (ht : ∀ s H Q, LG (Rep X.K) X.K X.mg E ma s H Q → t s H Q) : ∀ s H Q, LG PB X.K X.mg E (mT ma) s H Q → t s H fun x H' => ∃ k, x = .bl k ∧ Q k H' := by
  intro s H Q q
  obtain ⟨B, F, r, sl, C, hr, hs, o⟩ := q
  refine ht s H _ ⟨B, F, r, sl, C, hr, hs, Out.bind (P := Rep X.K) o fun x C1 F1 r1 H1 v e1 e2 hr1 hx o1 => ?_⟩
  cases x with
  | bl k => exact ⟨k, hx, o1 F1 r1 H1 k (.refl _) (.refl _) hr1 rfl⟩
  | _ => exact False.elim o1
theorem nt_cmp {op : CmpOp} {r2 : R2} {g : D → D → Store → RE} (ho : OpR X (compareOp op) r2) (hg : OpN X.K X.mg E r2 g) (ha : NE X E a ma) (hb : NE X E b mb) (hm : behindInMarks op b = false) : NT X E (.Compare a [op] [b] pos) (mT (m2 g ma mb)) :=
  ⟨pt_imp (pt_cmpR ho ha.pe hb.pe hm) (test (two hg))⟩
theorem nt_val {e : Expr} {m : ME} (h : NE X E e m) (he : ∀ whole, isTrue e X.env whole = (do let v ← whole; standAt e.pos; holding [v] (truthy v)) := by intro _; rfl) : NT X E e (mT m) :=
  ⟨pt_imp (pt_val h.pe he) (test fun _ _ _ q => q)⟩

/-! one-place operations -/
def m1 (g : D → Store → RE) (ma : ME) : ME := fun sl C => (ma sl C).bind fun p => g p.1 p.2
def UnN (K : PySem.W.Frag) (mg : Str → Option Value) (E : XK) (r1 : V → Hp → VK → Prop) (g : D → Store → RE) : Prop :=
  ∀ (B F : Hp) (r : List Addr) (H : Hp) (C : Store) (x : D) (v : V) (Q : VK), Rel K B F r H C → Rep K F r x v → Out (Rep K) K mg E B F r (g x C) Q → r1 v H Q
theorem one {ru : V → Hp → VK → Prop} {g : D → Store → RE} (hg : UnN X.K X.mg E ru g) : ∀ s H Q, LG (Rep X.K) X.K X.mg E (m1 g ma) s H Q → LG (Rep X.K) X.K X.mg E ma s H fun v H1 => ru v H1 Q := by
  intro s H Q q
  obtain ⟨B, F, r, sl, C, hr, hs, o⟩ := q
  exact ⟨B, F, r, sl, C, hr, hs, Out.bind (P := Rep X.K) o fun x C1 F1 r1 H1 v e1 e2 hr1 hx o1 => hg B F1 r1 H1 C1 x v Q hr1 hx o1⟩
theorem ne_un {op : UnaryOp} {ru : V → Hp → VK → Prop} {g : D → Store → RE} (ho : UnR X (unaryOp op) ru) (hg : UnN X.K X.mg E ru g) (ha : NE X E a ma) : NE X E (.UnaryOp op a pos) (m1 g ma) :=
  ⟨pe_imp (pe_un ho ha.pe) (one hg)⟩
def gNeg : D → Store → RE := fun x C => match x with
  | .int i => .ok (.int (-i), C)
  | _ => .no
theorem un_negN {K : PySem.W.Frag} {mg : Str → Option Value} : UnN K mg E (rU fun i => .int (-i)) gNeg := by
  intro B F r H C x v Q hr hx o
  cases x with
  | int i => exact ⟨i, hx, o F r H _ (.refl _) (.refl _) hr rfl⟩
  | _ => exact False.elim o

/-! and, or, not, if else -/
def tAndM (ta tb : MG Bool) : MG Bool := fun sl C => (ta sl C).bind fun p => if p.1 = true then tb sl p.2 else .ok (false, p.2)
def tOrM (ta tb : MG Bool) : MG Bool := fun sl C => (ta sl C).bind fun p => if p.1 = true then .ok (true, p.2) else tb sl p.2
def tNotM (ta : MG Bool) : MG Bool := fun sl C => (ta sl C).bind fun p => .ok (!p.1, p.2)
theorem nw_and1 (ha : NT X E a ta) : NW X E (.BoolOp .And [a] pos) ta := ⟨pw_and1' ha⟩
where pw_and1' (ha : NT X E a ta) : PW X (.BoolOp .And [a] pos) (LG PB X.K X.mg E ta) := by
        refine ⟨fun wh pins s σ H Q I h => ?_⟩
        refine isTrue_and (thn (ha.pt.run pins s σ H Q I h) fun c s1 e => ?_)
        cases c with
        | true => exact isTrue_and_nil e
        | false => exact e
theorem nw_or1 (ha : NT X E a ta) : NW X E (.BoolOp .Or [a] pos) ta := ⟨pw_or1 ha.pt⟩
theorem nw_and {e : Expr} {es : List Expr} (ha : NT X E a ta) (hb : NW X E (.BoolOp .And (e :: es) pos) tb) : NW X E (.BoolOp .And (a :: e :: es) pos) (tAndM ta tb) :=
  ⟨pw_imp (pw_and ha.pt hb.pw) fun s H Q q => by
    obtain ⟨B, F, r, sl, C, hr, hs, o⟩ := q
    refine ⟨B, F, r, sl, C, hr, hs, Out.bind (P := PB) o fun x C1 F1 r1 H1 v e1 e2 hr1 hx o1 => ?_⟩
    subst hx
    cases x with
    | true =>
      rw [if_pos rfl] at o1 ⊢
      exact ⟨B, F1, r1, sl, C1, hr1, hs.mono e1 e2, o1⟩
    | false =>
      rw [if_neg Bool.false_ne_true] at o1 ⊢
      exact o1 F1 r1 H1 false (.refl _) (.refl _) hr1 rfl⟩
theorem nw_or {e : Expr} {es : List Expr} (ha : NT X E a ta) (hb : NW X E (.BoolOp .Or (e :: es) pos) tb) : NW X E (.BoolOp .Or (a :: e :: es) pos) (tOrM ta tb) :=
  ⟨pw_imp (pw_or ha.pt hb.pw) fun s H Q q => by
    obtain ⟨B, F, r, sl, C, hr, hs, o⟩ := q
    refine ⟨B, F, r, sl, C, hr, hs, Out.bind (P := PB) o fun x C1 F1 r1 H1 v e1 e2 hr1 hx o1 => ?_⟩
    subst hx
    cases x with
    | false =>
      rw [if_neg Bool.false_ne_true] at o1 ⊢
      exact ⟨B, F1, r1, sl, C1, hr1, hs.mono e1 e2, o1⟩
    | true =>
      rw [if_pos rfl] at o1 ⊢
      exact o1 F1 r1 H1 true (.refl _) (.refl _) hr1 rfl⟩
theorem nt_w (h : NW X E a ta) : NT X E a ta := ⟨h.pw.pt⟩
theorem nt_not (ha : NT X E a ta) : NT X E (.UnaryOp .Not a pos) (tNotM ta) := ⟨pt_imp (pt_not ha.pt) fun s H Q q => by
    obtain ⟨B, F, r, sl, C, hr, hs, o⟩ := q
    refine ⟨B, F, r, sl, C, hr, hs, Out.bind (P := PB) o fun x C1 F1 r1 H1 v e1 e2 hr1 hx o1 => ?_⟩
    subst hx
    exact o1 F1 r1 H1 (!x) (.refl _) (.refl _) hr1 rfl⟩
/-- .. as values: all but the last truths -/
def mAnd (ma mb : ME) : ME := fun sl C => (ma sl C).bind fun p => match p.1 with
  | .bl true => mb sl p.2
  | .bl false => .ok (.bl false, p.2)
  | _ => .no
def mOr (ma mb : ME) : ME := fun sl C => (ma sl C).bind fun p => match p.1 with
  | .bl false => mb sl p.2
  | .bl true => .ok (.bl true, p.2)
  | _ => .no
theorem ne_one {op : BoolOp} (h : NE X E a ma) : NE X E (.BoolOp op [a] pos) ma := ⟨pe_one h.pe⟩
theorem ne_and {e : Expr} {es : List Expr} (ha : NE X E a ma) (hb : NE X E (.BoolOp .And (e :: es) pos) mb) : NE X E (.BoolOp .And (a :: e :: es) pos) (mAnd ma mb) :=
  ⟨pe_imp (pe_and ha.pe hb.pe) fun s H Q q => by
    obtain ⟨B, F, r, sl, C, hr, hs, o⟩ := q
    refine ⟨B, F, r, sl, C, hr, hs, Out.bind (P := Rep X.K) o fun x C1 F1 r1 H1 v e1 e2 hr1 hx o1 => ?_⟩
    cases x with
    | bl k =>
      cases k with
      | true => exact ⟨true, hx, by rw [if_pos rfl]; exact ⟨B, F1, r1, sl, C1, hr1, hs.mono e1 e2, o1⟩⟩
      | false => exact ⟨false, hx, by rw [if_neg Bool.false_ne_true]; exact o1 F1 r1 H1 _ (.refl _) (.refl _) hr1 rfl⟩
    | _ => exact False.elim o1⟩
def mNot (ma : ME) : ME := fun sl C => (ma sl C).bind fun p => match p.1 with
  | .bl k => .ok (.bl (!k), p.2)
  | _ => .no
theorem ne_not (ha : NE X E a ma) : NE X E (.UnaryOp .Not a pos) (mNot ma) := ⟨pe_imp (pe_not ha.pe) fun s H Q q => by
    obtain ⟨B, F, r, sl, C, hr, hs, o⟩ := q
    refine ⟨B, F, r, sl, C, hr, hs, Out.bind (P := Rep X.K) o fun x C1 F1 r1 H1 v e1 e2 hr1 hx o1 => ?_⟩
    cases x with
    | bl k => exact ⟨k, hx, o1 F1 r1 H1 _ (.refl _) (.refl _) hr1 rfl⟩
    | _ => exact False.elim o1⟩
def mIf (t : MG Bool) (ma mb : ME) : ME := fun sl C => (t sl C).bind fun p => if p.1 = true then ma sl p.2 else mb sl p.2
theorem ne_if (hc : NT X E c ta) (ha : NE X E a ma) (hb : NE X E b mb) : NE X E (.IfExp c a b pos) (mIf ta ma mb) := ⟨pe_imp (pe_ifExp hc.pt ha.pe hb.pe) fun s H Q q => by
    obtain ⟨B, F, r, sl, C, hr, hs, o⟩ := q
    refine ⟨B, F, r, sl, C, hr, hs, Out.bind (P := PB) o fun x C1 F1 r1 H1 v e1 e2 hr1 hx o1 => ?_⟩
    subst hx
    cases x with
    | true => rw [if_pos rfl] at o1 ⊢; exact ⟨B, F1, r1, sl, C1, hr1, hs.mono e1 e2, o1⟩
    | false => rw [if_neg Bool.false_ne_true] at o1 ⊢; exact ⟨B, F1, r1, sl, C1, hr1, hs.mono e1 e2, o1⟩⟩

/-! argument lists, displays -/
def aNil : MG (List D) := fun _ C => .ok ([], C)
def aCons (ma : ME) (mr : MG (List D)) : MG (List D) := fun sl C => (ma sl C).bind fun p => (mr sl p.2).bind fun q => .ok (p.1 :: q.1, q.2)
theorem na_nil : NA X E [] aNil := ⟨pa_imp pa_nil fun s H Q q => by
    obtain ⟨B, F, r, sl, C, hr, hs, o⟩ := q
    exact o F r H [] (.refl _) (.refl _) hr .nil⟩
theorem na_cons (ha : NE X E a ma) (hr : NA X E es mas) (hs : starEach (a :: es) X.env = (false, eval a X.env) :: starEach es X.env := by rfl) : NA X E (a :: es) (aCons ma mas) :=
  ⟨pa_imp (pa_cons ha.pe hr.pa hs) fun s H Q q => by
    obtain ⟨B, F, r, sl, C, hr, hs, o⟩ := q
    refine ⟨B, F, r, sl, C, hr, hs, Out.bind (P := Rep X.K) o fun x C1 F1 r1 H1 v e1 e2 hr1 hx o1 => ?_⟩
    refine ⟨B, F1, r1, sl, C1, hr1, hs.mono e1 e2, Out.bind (P := Reps X.K) o1 fun y C2 F2 r2 H2 w e3 e4 hr2 hy o2 => ?_⟩
    exact o2 F2 r2 H2 (v :: w) (.refl _) (.refl _) hr2 (.cons (hx.mono e3 e4) hy)⟩
/-- a new list: a cell, or frozen -/
def newL (c : Bool) (ds : List D) (C : Store) : RE := if c = true then .ok (.cell C.length, C ++ [.lst ds]) else .ok (.lst ds, C)
theorem newL_ok {K : PySem.W.Frag} {mg : Str → Option Value} {B F : Hp} {r : List Addr} {H : Hp} {C : Store} {c : Bool} {ds : List D} {vs : List V} {Q : VK} (hr : Rel K B F r H C) (hd : Reps K F r ds vs)
    (o : Out (Rep K) K mg E B F r (newL c ds C) Q) {p : Addr} (hp : H p = none) : Q (.ref p) (upd H p (.lst vs)) := by
  unfold newL at o
  cases c with
  | true =>
    rw [if_pos rfl] at o
    refine o F (r ++ [p]) _ _ (.refl _) (Ex.app r _) (hr.alloc hp ⟨hr.freeF hp, vs, upd_same, hd.mono (.refl _) (Ex.app r _)⟩) ⟨p, rfl, ?_⟩
    rw [← hr.len, List.getElem?_append_right (Nat.le_refl _)]
    simp
  | false =>
    rw [if_neg Bool.false_ne_true] at o
    exact o (upd F p (.lst vs)) r _ _ (same_new (hr.freeF hp)) (.refl r) (hr.freeze hp) ⟨p, vs, rfl, .inl (.inl upd_same), hd.mono (same_new (hr.freeF hp)) (.refl r)⟩
theorem newT_ok {K : PySem.W.Frag} {mg : Str → Option Value} {B F : Hp} {r : List Addr} {H : Hp} {C : Store} {ds : List D} {vs : List V} {Q : VK} (hr : Rel K B F r H C) (hd : Reps K F r ds vs)
    (o : Out (Rep K) K mg E B F r (.ok (.tup ds, C)) Q) {p : Addr} (hp : H p = none) : Q (.ref p) (upd H p (.tup vs)) :=
  o (upd F p (.tup vs)) r _ _ (same_new (hr.freeF hp)) (.refl r) (hr.freeze hp) ⟨p, vs, rfl, .inl (.inl upd_same), hd.mono (same_new (hr.freeF hp)) (.refl r)⟩
def mLst (c : Bool) (mas : MG (List D)) : ME := fun sl C => (mas sl C).bind fun p => if p.1.length ≤ sizeLine then newL c p.1 p.2 else .no
def mTup (mas : MG (List D)) : ME := fun sl C => (mas sl C).bind fun p => if p.1.length ≤ sizeLine then .ok (.tup p.1, p.2) else .no
theorem ne_lst {k : Bool} (h : NA X E es mas) : NE X E (.List es pos) (mLst k mas) := ⟨pe_imp (pe_lst h.pa) fun s H Q q => by
    obtain ⟨B, F, r, sl, C, hr, hs, o⟩ := q
    refine ⟨B, F, r, sl, C, hr, hs, Out.bind (P := Reps X.K) o fun x C1 F1 r1 H1 v e1 e2 hr1 hx o1 => ?_⟩
    split at o1
    · rename_i hl
      exact ⟨by rw [← hx.length]; exact hl, fun p hp => newL_ok hr1 hx o1 hp⟩
    · exact False.elim o1⟩
theorem ne_tup {x1} (h : NA X E es mas) : NE X E (.Tuple es x1 pos) (mTup mas) := ⟨pe_imp (pe_tup h.pa) fun s H Q q => by
    obtain ⟨B, F, r, sl, C, hr, hs, o⟩ := q
    refine ⟨B, F, r, sl, C, hr, hs, Out.bind (P := Reps X.K) o fun x C1 F1 r1 H1 v e1 e2 hr1 hx o1 => ?_⟩
    split at o1
    · rename_i hl
      exact ⟨by rw [← hx.length]; exact hl, fun p hp => newT_ok hr1 hx o1 hp⟩
    · exact False.elim o1⟩

/-! calls of built-ins -/
def mCB (g : List D → Store → RE) (mas : MG (List D)) : ME := fun sl C => (mas sl C).bind fun p => g p.1 p.2
def CallN (K : PySem.W.Frag) (mg : Str → Option Value) (E : XK) (rc : List V → Hp → VK → Prop) (g : List D → Store → RE) : Prop :=
  ∀ (B F : Hp) (r : List Addr) (H : Hp) (C : Store) (ds : List D) (vs : List V) (Q : VK), Rel K B F r H C → Reps K F r ds vs → Out (Rep K) K mg E B F r (g ds C) Q → rc vs H Q
theorem args {rc : List V → Hp → VK → Prop} {g : List D → Store → RE} (hg : CallN X.K X.mg E rc g) : ∀ s H Q, LG (Rep X.K) X.K X.mg E (mCB g mas) s H Q → LG (Reps X.K) X.K X.mg E mas s H fun vs H1 => rc vs H1 Q := by
  intro s H Q q
  obtain ⟨B, F, r, sl, C, hr, hs, o⟩ := q
  exact ⟨B, F, r, sl, C, hr, hs, Out.bind (P := Reps X.K) o fun x C1 F1 r1 H1 v e1 e2 hr1 hx o1 => hg B F1 r1 H1 C1 x v Q hr1 hx o1⟩
theorem ne_callB {e : Expr} {x : Str} {id : String} {rc : List V → Hp → VK → Prop} {g : List D → Store → RE} (hc : CallR X (.builtin id) rc) (hg : CallN X.K X.mg E rc g) (hm : X.mg x = none) (ha : NA X E (e :: es) mas) (hl : Gl X x := by rfl)
    (hv : bootBuiltins x = some (.builtin id) := by decide +kernel) (hn : x ≠ "__name__" := by decide) (hdb : (x == ("__debug__" : Str)) = false := by decide) (he : starEach (e :: es) X.env = (false, eval e X.env) :: starEach es X.env := by rfl) (hpl : (backTo pos (starEach es X.env)).any (·.1) = false := by rfl) : NE X E (.Call (.Name x p1) (e :: es) [] pos) (mCB g mas) :=
  ⟨pe_imp (pe_callB hc hl hm hv ha.pa hn hdb he hpl) (args hg)⟩
theorem ne_callTy {e : Expr} {x : Str} {T : String} {rc : List V → Hp → VK → Prop} {g : List D → Store → RE} (hc : CallR X (.type T) rc) (hg : CallN X.K X.mg E rc g) (hm : X.mg x = none) (ha : NA X E (e :: es) mas) (hl : Gl X x := by rfl)
    (hv : bootBuiltins x = some (.type T) := by decide +kernel) (hn : x ≠ "__name__" := by decide) (hdb : (x == ("__debug__" : Str)) = false := by decide) (he : starEach (e :: es) X.env = (false, eval e X.env) :: starEach es X.env := by rfl) (hpl : (backTo pos (starEach es X.env)).any (·.1) = false := by rfl) : NE X E (.Call (.Name x p1) (e :: es) [] pos) (mCB g mas) :=
  ⟨pe_imp (pe_callTy hc hl hm hv ha.pa hn hdb he hpl) (args hg)⟩

end
end Nv

namespace Nv
open PySem PySem.Spec PyProof.Rows L2

/-! reading lists and tuples -/
def lstAt (C : Store) (i : Nat) : Option (List D) := match C[i]? with
  | some (.lst ds) => some ds
  | some (.fz ds) => some ds
  | _ => none
def mutAt (C : Store) (i : Nat) : Option (List D) := match C[i]? with
  | some (.lst ds) => some ds
  | _ => none
theorem lstAt_some {C : Store} {i : Nat} {ds : List D} (h : lstAt C i = some ds) : C[i]? = some (.lst ds) ∨ C[i]? = some (.fz ds) := by
  unfold lstAt at h
  split at h
  · rename_i ds' hc
    rw [hc, Option.some.inj h]
    exact .inl rfl
  · rename_i ds' hc
    rw [hc, Option.some.inj h]
    exact .inr rfl
  · cases h
theorem mutAt_some {C : Store} {i : Nat} {ds : List D} (h : mutAt C i = some ds) : C[i]? = some (.lst ds) := by
  unfold mutAt at h
  split at h
  · rename_i ds' hc
    rw [hc, Option.some.inj h]
  · cases h
def lstOf (C : Store) : D → Option (List D)
  | .lst ds => some ds
  | .cell i => lstAt C i
  | _ => none
def tupOf : D → Option (List D)
  | .tup ds => some ds
  | _ => none
def cellOf (C : Store) : D → Option (Nat × List D)
  | .cell i => (mutAt C i).map fun ds => (i, ds)
  | _ => none
section
variable {K : PySem.W.Frag} {mg : Str → Option Value} {E : XK} {B F H : Hp} {r : List Addr} {C : Store} {Q : VK}
theorem Rel.seq {a : Addr} {xs : List V} (hr : Rel K B F r H C) (h : SqL K F a xs) : SqL K H a xs := Same.seq hr.froz h
theorem mutAt_ok {i : Nat} {v : V} {ds : List D} (hr : Rel K B F r H C) (hx : Rep K F r (.cell i) v) (e : mutAt C i = some ds) :
    ∃ a vs, v = .ref a ∧ r[i]? = some a ∧ F a = none ∧ H a = some (.lst vs) ∧ Reps K F r ds vs := by
  obtain ⟨a, h1, h2⟩ := hx
  obtain ⟨h0, vs, h3, h4⟩ := hr.cells i _ a (mutAt_some e) h2
  exact ⟨a, vs, h1, h2, h0, h3, h4⟩
theorem lstAt_ok {i : Nat} {v : V} {ds : List D} (hr : Rel K B F r H C) (hx : Rep K F r (.cell i) v) (e : lstAt C i = some ds) : ∃ a vs, v = .ref a ∧ r[i]? = some a ∧ SqL K H a vs ∧ Reps K F r ds vs := by
  obtain ⟨a, h1, h2⟩ := hx
  rcases lstAt_some e with e | e
  · obtain ⟨h0, vs, h3, h4⟩ := hr.cells i _ a e h2
    exact ⟨a, vs, h1, h2, .inl (.inl h3), h4⟩
  · obtain ⟨vs, h3, h4⟩ := hr.cells i _ a e h2
    exact ⟨a, vs, h1, h2, .inl (.inl (hr.froz _ _ h3)), h4⟩
theorem lstOf_ok {x : D} {v : V} {ds : List D} (hr : Rel K B F r H C) (hx : Rep K F r x v) (e : lstOf C x = some ds) : ∃ a vs, v = .ref a ∧ SqL K H a vs ∧ Reps K F r ds vs := by
  cases x with
  | lst ds' =>
    have e : ds' = ds := Option.some.inj e
    subst e
    obtain ⟨a, vs, h1, h2, h3⟩ := hx
    exact ⟨a, vs, h1, Same.seq hr.froz h2, h3⟩
  | cell i =>
    obtain ⟨a, vs, h1, _, h3, h4⟩ := lstAt_ok hr hx e
    exact ⟨a, vs, h1, h3, h4⟩
  | _ => cases e
theorem tupOf_ok {x : D} {v : V} {ds : List D} (hr : Rel K B F r H C) (hx : Rep K F r x v) (e : tupOf x = some ds) : ∃ a vs, v = .ref a ∧ SqT K H a vs ∧ Reps K F r ds vs := by
  cases x with
  | tup ds' =>
    have e : ds' = ds := Option.some.inj e
    subst e
    obtain ⟨a, vs, h1, h2, h3⟩ := hx
    exact ⟨a, vs, h1, Same.tup hr.froz h2, h3⟩
  | _ => cases e
theorem cellOf_ok {x : D} {v : V} {i : Nat} {ds : List D} (hr : Rel K B F r H C) (hx : Rep K F r x v) (e : cellOf C x = some (i, ds)) :
    ∃ a vs, v = .ref a ∧ r[i]? = some a ∧ F a = none ∧ H a = some (.lst vs) ∧ Reps K F r ds vs := by
  cases x with
  | cell j =>
    have e : (mutAt C j).map (fun ds => (j, ds)) = some (i, ds) := e
    cases q : mutAt C j with
    | none => rw [q] at e; cases e
    | some es =>
      rw [q] at e
      cases e
      exact mutAt_ok hr hx q
  | _ => cases e

/-! arithmetic -/
def bigLine : Int := 2 ^ 10000
def powLine : Int := 2 ^ 1000
def smallI (i : Int) : Bool := decide (-(2 ^ 64) < i) && decide (i < 2 ^ 64)
def bigI (i : Int) : Bool := decide (-bigLine < i) && decide (i < bigLine)
def gAdd (c : Bool) (x y : D) (C : Store) : RE := match x, y with
  | .int i, .int j => .ok (.int (i + j), C)
  | .str a, .str b => if a.length + b.length ≤ sizeLine then .ok (.str (a ++ b), C) else .no
  | x, y => match lstOf C x, lstOf C y with
    | some a, some b => if a.length + b.length ≤ sizeLine then newL c (a ++ b) C else .no
    | _, _ => .no
def gSub (x y : D) (C : Store) : RE := match x, y with
  | .int i, .int j => .ok (.int (i - j), C)
  | _, _ => .no
def gMul (x y : D) (C : Store) : RE := match x, y with
  | .int i, .int j => if (smallI i || smallI j || (bigI i && bigI j)) = true then .ok (.int (i * j), C) else .no
  | _, _ => .no
def gDiv (x y : D) (C : Store) : RE := match x, y with
  | .int i, .int j => if 0 < j ∧ j ≤ 10 ^ 60 then .ok (.int (i / j), C) else .no
  | _, _ => .no
def gMod (x y : D) (C : Store) : RE := match x, y with
  | .int i, .int j => if 0 < j then .ok (.int (i % j), C) else .no
  | _, _ => .no
def gPow (x y : D) (C : Store) : RE := match x, y with
  | .int i, .int j => if 0 ≤ j ∧ j ≤ 1000 ∧ -powLine < i ∧ i < powLine then .ok (.int (i ^ j.toNat), C) else .no
  | _, _ => .no
/-- the rule for two values' answers -/
theorem out_ok {d : D} {v : V} (hr : Rel K B F r H C) (h : Rep K F r d v) (o : Out (Rep K) K mg E B F r (.ok (d, C)) Q) : Q v H := o F r H v (.refl _) (.refl _) hr h
variable {X : Cx}
theorem Inv.isL {pins : List (Addr × Obj)} {σ : L2.St} {s : Shared} {a : Addr} {xs : List V} (I : Inv X pins σ H s) (h : SqL X.K H a xs) : ∃ its : List Value, Vals xs its ∧ s.heap.IsList a its.toArray ∧ xs.length ≤ sizeLine := by
  obtain ⟨its, h1, h2, h3⟩ := I.list h
  exact ⟨its, h1, h2.isList, h3⟩
def rCatS (K : PySem.W.Frag) : R2 := fun x y H Q => ∃ l b xs zs, x = .ref l ∧ y = .ref b ∧ SqL K H l xs ∧ SqL K H b zs ∧ xs.length + zs.length ≤ sizeLine ∧ ∀ p, H p = none → Q (.ref p) (upd H p (.lst (xs ++ zs)))
theorem op_catS : OpR X (binaryOp .Add) (rCatS X.K) := by
  intro pins s σ H x y v u Q I rx ry h
  obtain ⟨l, b, xs, zs, rfl, rfl, hH, hB, hz, q⟩ := h
  cases rx
  cases ry
  obtain ⟨its, r1, hl, z⟩ := Inv.isL I hH
  obtain ⟨its2, r2, hl2, z2⟩ := Inv.isL I hB
  have l1 := r1.length
  have l2 := r2.length
  obtain ⟨⟨cls, dd, data, sl⟩, ho, hc, n, hd⟩ := hl
  obtain ⟨⟨cls2, dd2, data2, sl2⟩, ho2, hc2, n2, hd2⟩ := hl2
  simp only at hc hd hc2 hd2
  subst hc hd hc2 hd2
  have ea : its.toArray ++ its2.toArray = (its ++ its2).toArray := by simp
  refine concat_meets ⟨_, ho, rfl⟩ ⟨_, ho2, rfl⟩ noFill_list_add seq_list_add PySem.F.slot_list_add PySem.F.entry_list_add (PySem.F.args_list_add_2 _ _) (list_addW l b its.toArray its2.toArray n n2 dd dd2 sl sl2 (by simp; omega)) ⟨ho, ho2, ?_⟩
  rw [ea]
  exact ⟨.ref _, _, I.lnew (t' := s.toks) (r1.append r2) (by rw [List.length_append]; omega), rfl, q _ I.fresh⟩

def rAdd3 (K : PySem.W.Frag) : R2 := fun x y H Q => (∃ i j, x = .int i ∧ y = .int j ∧ Q (.int (i + j)) H) ∨ ((∃ i j, x = .str i ∧ y = .str j ∧ i.length + j.length ≤ sizeLine ∧ Q (.str (i ++ j)) H) ∨ rCatS K x y H Q)
theorem op_addA : OpR X (binaryOp .Add) (rAdd3 X.K) := op_add.or (op_add_str.or op_catS)
theorem addN {c : Bool} : OpN K mg E (rAdd3 K) (gAdd c) := by
  intro B F r H C x y v u Q hr hx hy o
  have cat : ∀ (o : Out (Rep K) K mg E B F r (match lstOf C x, lstOf C y with
    | some a, some b => if a.length + b.length ≤ sizeLine then newL c (a ++ b) C else .no
    | _, _ => .no) Q), rAdd3 K v u H Q := fun o => by
    split at o
    · rename_i a b e1 e2
      obtain ⟨p, vs, rfl, h1, h2⟩ := lstOf_ok hr hx e1
      obtain ⟨q, ws, rfl, h3, h4⟩ := lstOf_ok hr hy e2
      split at o
      · rename_i hl
        exact .inr (.inr ⟨p, q, vs, ws, rfl, rfl, h1, h3, by rw [← h2.length, ← h4.length]; exact hl, fun t ht => newL_ok hr (h2.append h4) o ht⟩)
      · exact False.elim o
    · exact False.elim o
  cases x with
  | int i =>
    cases y with
    | int j => exact .inl ⟨i, j, hx, hy, out_ok (d := .int (i + j)) hr rfl o⟩
    | _ => exact cat o
  | str a =>
    cases y with
    | str b =>
      have o : Out (Rep K) K mg E B F r (if a.length + b.length ≤ sizeLine then .ok (.str (a ++ b), C) else .no) Q := o
      split at o
      · rename_i hl
        exact .inr (.inl ⟨a, b, hx, hy, hl, out_ok (d := .str (a ++ b)) hr rfl o⟩)
      · exact False.elim o
    | _ => exact cat o
  | _ => exact cat o
theorem subN : OpN K mg E (rI0 fun i j => .int (i - j)) gSub := by
  intro B F r H C x y v u Q hr hx hy o
  cases x with
  | int i =>
    cases y with
    | int j => exact ⟨i, j, hx, hy, out_ok (d := .int (i - j)) hr rfl o⟩
    | _ => exact False.elim o
  | _ => exact False.elim o
theorem log2_lt {a : Nat} {n : Nat} (h : a < 2 ^ n) (h0 : 0 < n) : a.log2 < n := by
  by_cases h1 : a = 0
  · subst h1
    simpa using h0
  · exact (Nat.log2_lt h1).mpr h
theorem natAbs_lt {i b : Int} (h : -b < i) (h2 : i < b) : i.natAbs < b.natAbs := by omega
def rMul3 : R2 := fun x y H Q => (rI CMul (fun i j => .int (i * j)) x y H Q) ∨ (rI CMulW (fun i j => .int (i * j)) x y H Q)
theorem op_mulA : OpR X (binaryOp .Mult) rMul3 := op_mul.or op_mulW
theorem bigLine_abs : bigLine.natAbs = 2 ^ 10000 := by unfold bigLine; rw [Int.natAbs_pow]; rfl
theorem powLine_abs : powLine.natAbs = 2 ^ 1000 := by unfold powLine; rw [Int.natAbs_pow]; rfl
theorem mulN : OpN K mg E rMul3 gMul := by
  intro B F r H C x y v u Q hr hx hy o
  cases x with
  | int i =>
    cases y with
    | int j =>
      have o : Out (Rep K) K mg E B F r (if (smallI i || smallI j || (bigI i && bigI j)) = true then .ok (.int (i * j), C) else .no) Q := o
      split at o
      · rename_i hc
        have q := out_ok (d := .int (i * j)) hr rfl o
        simp only [Bool.or_eq_true, Bool.and_eq_true, smallI, bigI, decide_eq_true_eq] at hc
        rcases hc with (h | h) | ⟨h, h'⟩
        · exact .inl ⟨i, j, hx, hy, .inl h, q⟩
        · exact .inl ⟨i, j, hx, hy, .inr h, q⟩
        · refine .inr ⟨i, j, hx, hy, ?_, q⟩
          have h1 := natAbs_lt h.1 h.2
          have h2 := natAbs_lt h'.1 h'.2
          rw [bigLine_abs] at h1 h2
          exact wide_mul h1 h2 (by decide) (by decide) (by decide)
      · exact False.elim o
    | _ => exact False.elim o
  | _ => exact False.elim o
theorem divN : OpN K mg E (rI CDivW fun i j => .int (i / j)) gDiv := by
  intro B F r H C x y v u Q hr hx hy o
  cases x with
  | int i =>
    cases y with
    | int j =>
      have o : Out (Rep K) K mg E B F r (if 0 < j ∧ j ≤ 10 ^ 60 then .ok (.int (i / j), C) else .no) Q := o
      split at o
      · rename_i hc
        refine ⟨i, j, hx, hy, wide_div (b := 200) hc.1 ?_ (by decide) (by decide), out_ok (d := .int (i / j)) hr rfl o⟩
        have := hc.1
        have := hc.2
        omega
      · exact False.elim o
    | _ => exact False.elim o
  | _ => exact False.elim o
theorem modN : OpN K mg E (rI (fun _ j => 0 < j) fun i j => .int (i % j)) gMod := by
  intro B F r H C x y v u Q hr hx hy o
  cases x with
  | int i =>
    cases y with
    | int j =>
      have o : Out (Rep K) K mg E B F r (if 0 < j then .ok (.int (i % j), C) else .no) Q := o
      split at o
      · rename_i hc
        exact ⟨i, j, hx, hy, hc, out_ok (d := .int (i % j)) hr rfl o⟩
      · exact False.elim o
    | _ => exact False.elim o
  | _ => exact False.elim o
def CPowW (i j : Int) : Prop := 0 ≤ j ∧ j ≤ 1000 ∧ -powLine < i ∧ i < powLine
theorem op_powW : OpR X (binaryOp .Pow) (rI CPowW fun i j => .int (i ^ j.toNat)) := opI fun i j _ _ _ _ _ hc q => by
  obtain ⟨h0, h1, h2, h3⟩ := hc
  refine pow_int h0 ?_ q
  have h := natAbs_lt h2 h3
  rw [powLine_abs] at h
  have hb := PyProof.Rows.intBits_le h
  have h4 : ((Builtin.Int.intBits i : Nat) : Int) ≤ 1000 := by omega
  have h5 := Int.mul_le_mul h4 h1 h0 (by decide)
  omega
theorem powN : OpN K mg E (rI CPowW fun i j => .int (i ^ j.toNat)) gPow := by
  intro B F r H C x y v u Q hr hx hy o
  cases x with
  | int i =>
    cases y with
    | int j =>
      have o : Out (Rep K) K mg E B F r (if 0 ≤ j ∧ j ≤ 1000 ∧ -powLine < i ∧ i < powLine then .ok (.int (i ^ j.toNat), C) else .no) Q := o
      split at o
      · rename_i hc
        exact ⟨i, j, hx, hy, hc, out_ok (d := .int (i ^ j.toNat)) hr rfl o⟩
      · exact False.elim o
    | _ => exact False.elim o
  | _ => exact False.elim o

/-! comparisons of whole numbers -/
def gLt (x y : D) (C : Store) : RE := match x, y with
  | .int i, .int j => .ok (.bl (decide (i < j)), C)
  | _, _ => .no
def gLe (x y : D) (C : Store) : RE := match x, y with
  | .int i, .int j => .ok (.bl (decide (i ≤ j)), C)
  | _, _ => .no
def gGt (x y : D) (C : Store) : RE := match x, y with
  | .int i, .int j => .ok (.bl (decide (j < i)), C)
  | _, _ => .no
def gGe (x y : D) (C : Store) : RE := match x, y with
  | .int i, .int j => .ok (.bl (decide (j ≤ i)), C)
  | _, _ => .no
theorem ltN : OpN K mg E (rI0 fun i j => .bl (decide (i < j))) gLt := by
  intro B F r H C x y v u Q hr hx hy o
  cases x with
  | int i =>
    cases y with
    | int j => exact ⟨i, j, hx, hy, out_ok (d := .bl (decide (i < j))) hr rfl o⟩
    | _ => exact False.elim o
  | _ => exact False.elim o
theorem leN : OpN K mg E (rI0 fun i j => .bl (decide (i ≤ j))) gLe := by
  intro B F r H C x y v u Q hr hx hy o
  cases x with
  | int i =>
    cases y with
    | int j => exact ⟨i, j, hx, hy, out_ok (d := .bl (decide (i ≤ j))) hr rfl o⟩
    | _ => exact False.elim o
  | _ => exact False.elim o
theorem gtN : OpN K mg E (rI0 fun i j => .bl (decide (j < i))) gGt := by
  intro B F r H C x y v u Q hr hx hy o
  cases x with
  | int i =>
    cases y with
    | int j => exact ⟨i, j, hx, hy, out_ok (d := .bl (decide (j < i))) hr rfl o⟩
    | _ => exact False.elim o
  | _ => exact False.elim o
/-! as data: == and != -/
mutual
def toP0 : D → Option PyData
  | .non => some .none
  | .bl b => some (.bool b)
  | .int i => some (.int i)
  | .str x => some (.str x)
  | .lst ds => (toPs0 ds).map .list
  | .tup ds => (toPs0 ds).map .tuple
  | .cell _ => none
  | .edct => none
  | .exc _ _ _ => none
  | .fn _ => none
def toPs0 : List D → Option (List PyData)
  | [] => some []
  | d :: ds => match toP0 d, toPs0 ds with
    | some p, some ps => some (p :: ps)
    | _, _ => none
end
mutual
def toP (C : Store) : D → Option PyData
  | .non => some .none
  | .bl b => some (.bool b)
  | .int i => some (.int i)
  | .str x => some (.str x)
  | .lst ds => (toPs C ds).map .list
  | .tup ds => (toPs C ds).map .tuple
  | .cell i => (lstAt C i).bind fun ds => (toPs0 ds).map .list
  | .edct => none
  | .exc _ _ _ => none
  | .fn _ => none
def toPs (C : Store) : List D → Option (List PyData)
  | [] => some []
  | d :: ds => match toP C d, toPs C ds with
    | some p, some ps => some (p :: ps)
    | _, _ => none
end
theorem map_some {A B : Type} {f : A → B} {o : Option A} {b : B} (h : o.map f = some b) : ∃ a, o = some a ∧ f a = b := by
  cases o with
  | none => cases h
  | some a => exact ⟨a, rfl, Option.some.inj h⟩
mutual
theorem toP0_ok (hr : Rel K B F r H C) : ∀ {d : D} {v : V} {p : PyData}, Rep K F r d v → toP0 d = some p → Dp K H v p
  | .non, _, _, h, e => by rw [show _ = V.non from h, ← Option.some.inj e]; exact .non
  | .bl b, _, _, h, e => by rw [show _ = V.bl b from h, ← Option.some.inj e]; exact .bl b
  | .int b, _, _, h, e => by rw [show _ = V.int b from h, ← Option.some.inj e]; exact .int b
  | .str b, _, _, h, e => by rw [show _ = V.str b from h, ← Option.some.inj e]; exact .str b
  | .lst ds, _, _, h, e => by
    obtain ⟨a, vs, rfl, h1, h2⟩ := h
    obtain ⟨ps, e1, e2⟩ := map_some (show (toPs0 ds).map PyData.list = some _ from e)
    subst e2
    exact .lst (Same.seq hr.froz h1) (toPs0_ok hr h2 e1)
  | .tup ds, _, _, h, e => by
    obtain ⟨a, vs, rfl, h1, h2⟩ := h
    obtain ⟨ps, e1, e2⟩ := map_some (show (toPs0 ds).map PyData.tuple = some _ from e)
    subst e2
    exact .tup (Same.tup hr.froz h1) (toPs0_ok hr h2 e1)
  | .cell i, _, _, h, e => nomatch (show (none : Option PyData) = some _ from e)
  | .edct, _, _, h, e => nomatch (show (none : Option PyData) = some _ from e)
  | .exc _ _ _, _, _, h, e => nomatch (show (none : Option PyData) = some _ from e)
  | .fn _, _, _, h, e => nomatch (show (none : Option PyData) = some _ from e)
theorem toPs0_ok (hr : Rel K B F r H C) : ∀ {ds : List D} {vs : List V} {ps : List PyData}, Reps K F r ds vs → toPs0 ds = some ps → DpAll K H vs ps
  | [], _, _, h, e => by rw [show _ = [] from h, ← Option.some.inj e]; exact .nil
  | d :: ds, _, _, h, e => by
    obtain ⟨v, w, rfl, h1, h2⟩ := h
    unfold toPs0 at e
    split at e
    · rename_i p ps e1 e2
      cases e
      exact .cons (toP0_ok hr h1 e1) (toPs0_ok hr h2 e2)
    · cases e
end
mutual
theorem toP_ok (hr : Rel K B F r H C) : ∀ {d : D} {v : V} {p : PyData}, Rep K F r d v → toP C d = some p → Dp K H v p
  | .non, _, _, h, e => by rw [show _ = V.non from h, ← Option.some.inj e]; exact .non
  | .bl b, _, _, h, e => by rw [show _ = V.bl b from h, ← Option.some.inj e]; exact .bl b
  | .int b, _, _, h, e => by rw [show _ = V.int b from h, ← Option.some.inj e]; exact .int b
  | .str b, _, _, h, e => by rw [show _ = V.str b from h, ← Option.some.inj e]; exact .str b
  | .lst ds, _, _, h, e => by
    obtain ⟨a, vs, rfl, h1, h2⟩ := h
    obtain ⟨ps, e1, e2⟩ := map_some (show (toPs C ds).map PyData.list = some _ from e)
    subst e2
    exact .lst (Same.seq hr.froz h1) (toPs_ok hr h2 e1)
  | .tup ds, _, _, h, e => by
    obtain ⟨a, vs, rfl, h1, h2⟩ := h
    obtain ⟨ps, e1, e2⟩ := map_some (show (toPs C ds).map PyData.tuple = some _ from e)
    subst e2
    exact .tup (Same.tup hr.froz h1) (toPs_ok hr h2 e1)
  | .cell i, _, _, h, e => by
    have e : (lstAt C i).bind (fun ds => (toPs0 ds).map PyData.list) = some _ := e
    cases q : lstAt C i with
    | none => rw [q] at e; cases e
    | some ds =>
      rw [q] at e
      obtain ⟨ps, e1, e2⟩ := map_some (show (toPs0 ds).map PyData.list = some _ from e)
      subst e2
      obtain ⟨a, vs, rfl, _, h3, h4⟩ := lstAt_ok hr h q
      exact .lst h3 (toPs0_ok hr h4 e1)
  | .edct, _, _, h, e => nomatch (show (none : Option PyData) = some _ from e)
  | .exc _ _ _, _, _, h, e => nomatch (show (none : Option PyData) = some _ from e)
  | .fn _, _, _, h, e => nomatch (show (none : Option PyData) = some _ from e)
theorem toPs_ok (hr : Rel K B F r H C) : ∀ {ds : List D} {vs : List V} {ps : List PyData}, Reps K F r ds vs → toPs C ds = some ps → DpAll K H vs ps
  | [], _, _, h, e => by rw [show _ = [] from h, ← Option.some.inj e]; exact .nil
  | d :: ds, _, _, h, e => by
    obtain ⟨v, w, rfl, h1, h2⟩ := h
    unfold toPs at e
    split at e
    · rename_i p ps e1 e2
      cases e
      exact .cons (toP_ok hr h1 e1) (toPs_ok hr h2 e2)
    · cases e
end
def gEq0 (x y : D) (C : Store) : RE := match toP C x, toP C y with
  | some p, some q => if (SeqAt.shaped p && SeqAt.shaped q) = true then .ok (.bl (PyData.eqv p q), C) else .no
  | _, _ => .no
def gNe0 (x y : D) (C : Store) : RE := match toP C x, toP C y with
  | some p, some q => if (SeqAt.shaped p && SeqAt.shaped q) = true then .ok (.bl (!PyData.eqv p q), C) else .no
  | _, _ => .no
theorem eqN0 : OpN K mg E (rEqD K) gEq0 := by
  intro B F r H C x y v u Q hr hx hy o
  unfold gEq0 at o
  split at o
  · rename_i p q e1 e2
    split at o
    · rename_i hs
      rw [Bool.and_eq_true] at hs
      exact ⟨p, q, toP_ok hr hx e1, toP_ok hr hy e2, hs.1, hs.2, out_ok (d := .bl (PyData.eqv p q)) hr rfl o⟩
    · exact False.elim o
  · exact False.elim o
theorem neN0 : OpN K mg E (rNeD K) gNe0 := by
  intro B F r H C x y v u Q hr hx hy o
  unfold gNe0 at o
  split at o
  · rename_i p q e1 e2
    split at o
    · rename_i hs
      rw [Bool.and_eq_true] at hs
      exact ⟨p, q, toP_ok hr hx e1, toP_ok hr hy e2, hs.1, hs.2, out_ok (d := .bl (!PyData.eqv p q)) hr rfl o⟩
    · exact False.elim o
  · exact False.elim o
def gEq (x y : D) (C : Store) : RE := match x, y with
  | .str a, .str b => .ok (.bl (decide (a = b)), C)
  | x, y => gEq0 x y C
def gNe (x y : D) (C : Store) : RE := match x, y with
  | .str a, .str b => .ok (.bl (!decide (a = b)), C)
  | x, y => gNe0 x y C
theorem dec_strV {a b : Str} : decide (V.str a = V.str b) = decide (a = b) := by
  rw [Bool.eq_iff_iff]
  simp
theorem eqN : OpN K mg E (fun x y H Q => rEq x y H Q ∨ rEqD K x y H Q) gEq := by
  intro B F r H C x y v u Q hr hx hy o
  unfold gEq at o
  split at o
  · rename_i a b
    rw [show v = V.str a from hx, show u = V.str b from hy]
    refine .inl ⟨rfl, ?_⟩
    rw [dec_strV]
    exact out_ok (d := .bl (decide (a = b))) hr rfl o
  · exact .inr (eqN0 B F r H C _ _ v u Q hr hx hy o)
theorem neN : OpN K mg E (fun x y H Q => rNe x y H Q ∨ rNeD K x y H Q) gNe := by
  intro B F r H C x y v u Q hr hx hy o
  unfold gNe at o
  split at o
  · rename_i a b
    rw [show v = V.str a from hx, show u = V.str b from hy]
    refine .inl ⟨rfl, ?_⟩
    rw [dec_strV]
    exact out_ok (d := .bl (!decide (a = b))) hr rfl o
  · exact .inr (neN0 B F r H C _ _ v u Q hr hx hy o)
theorem op_eqE {X : Cx} (hu : X.A.units + 64 < cLine) : OpR X (compareOp .Eq) (fun x y H Q => rEq x y H Q ∨ rEqD X.K x y H Q) := op_eq.or (op_eqD hu)
theorem op_neE {X : Cx} (hu : X.A.units + 64 < cLine) : OpR X (compareOp .NotEq) (fun x y H Q => rNe x y H Q ∨ rNeD X.K x y H Q) := op_ne.or (op_neD hu)
end
end Nv

namespace Nv
open PySem PySem.Spec PyProof.Rows L2

/-! a def's promise, where no text of an object is being made (guards) -/
structure FnG (P : Program) (w : World) (K : PySem.W.Frag) (mg : Str → Option Value) (base : Heap) (k : Nat) (f : Addr) (fd : FuncData) (ps : List Str) (sp : Sp) : Prop where
  len : ∀ vs H Q E, sp vs H Q E → vs.length = ps.length
  run : ∀ (A : Around) (outer : List Env) (s : Shared) (H : Hp) (args : Args) (us : List Value) (vs : List V) (Q : VK) (E : XK), Room k A → A.guards = some [] →
    Env0 P w K mg base A outer s H → BindsTo s fd args (ps.zip us) → Vals vs us → sp vs H Q E → codeAny (model P w) A (.call (.ref f) args) (CR (L2.CX P w) outer P w H s Q E) s
theorem FnG.mono {P : Program} {w : World} {K : PySem.W.Frag} {mg : Str → Option Value} {base : Heap} {j k : Nat} {f : Addr} {fd : FuncData} {ps : List Str} {sp : Sp} (F : FnG P w K mg base j f fd ps sp) (h : j ≤ k) : FnG P w K mg base k f fd ps sp :=
  ⟨F.len, fun A outer s H args us vs Q E hr => F.run A outer s H args us vs Q E (hr.mono h)⟩
theorem FnG.imp {P : Program} {w : World} {K : PySem.W.Frag} {mg : Str → Option Value} {base : Heap} {k : Nat} {f : Addr} {fd : FuncData} {ps : List Str} {sp sp' : Sp} (F : FnG P w K mg base k f fd ps sp)
    (h : ∀ vs H Q E, sp' vs H Q E → sp vs H Q E) : FnG P w K mg base k f fd ps sp' :=
  ⟨fun vs H Q E q => F.len vs H Q E (h _ _ _ _ q), fun A outer s H args us vs Q E hr hg he hb hv hs => F.run A outer s H args us vs Q E hr hg he hb hv (h _ _ _ _ hs)⟩

section
variable {P : Program} {w : World} {K : PySem.W.Frag} {mg : Str → Option Value} {base : Heap}
/-- the rule for a def -/
theorem fnG_of {x qual : Str} {st : Stmt} {f : Addr} {fd : FuncData} {N ps : List Str} {k : Nat} {sp : Sp} (F : Fun K x qual st f fd) (S : FnScope N ps (defScope st)) (len : ∀ vs H Q E, sp vs H Q E → vs.length = ps.length)
    (hbody : ∀ (cdv : Value) (A : Around) (outer : List Env) (s : Shared) (H : Hp) (vs : List V) (Q : VK) (E : XK), Room k (A.deeper (envOfC qual (defScope st) s.heap.objs.size f cdv)) → A.guards = some [] → sp vs H Q E →
      ∃ t, PSs (cxOf (L2.CX P w) P w K mg base N qual (defScope st) f cdv A outer s H E) (defBody st) t ∧ t { nx := fun _ H' => Q .non H', rt := Q } (start N vs) H) : FnG P w K mg base (k + 1) f fd ps sp := by
  obtain ⟨oc, od, kV, doc, pm, an, cdv, ct, osl, rfl, lk, hcd⟩ := F.ex
  refine ⟨len, fun A outer s H args us vs Q E hr hg e0 hb r hsp => ?_⟩
  have hl := len _ _ _ _ hsp
  have there : K.In s.heap := e0.mod.kin.keeps fun b o e => (e0.bs b o e).1
  have lim : s.heap.NoLimit := e0.mod.nolimit.keeps fun b o e => (e0.bs b o e).1
  refine codeAny_call_function hr.depth (there _ _ lk) rfl S.co S.gen rfl (PySem.W.codeRec_of there hcd) (hb _ _ _ _ ?_)
  refine wpAny_newFunctionEnv_cells S.kind (fun ⟨n, v⟩ hy => ?_) fun env he s1 x => ?_
  · rcases S.par n (List.of_mem_zip hy).1 with q | q
    · exact .inl q
    · exact .inr ⟨q, PySem.W.cellsFrom_some _ _ _ (.inl q)⟩
  subst he
  refine ⟨lim.keeps x.toInCall.keep, codeAny_func ?_⟩
  obtain ⟨t, ht, hq⟩ := hbody cdv A outer s H vs Q E (hr.deeper _) hg hsp
  have I : Inv (cxOf (L2.CX P w) P w K mg base N qual (defScope st) f cdv A outer s H E) [] (start N vs) H s1 := inv_start S hr.hd e0 hl r x
  refine wpAny_mono (ht.run [] s1 (start N vs) H _ I hq) (fun fl s' hs => ?_) fun e s' hs => hs
  cases fl with
  | ret u =>
    obtain ⟨v, σ', H', J, rv, q⟩ := hs
    exact ⟨v, H', J.os, J.bare, J.base, J.hok, rv, q⟩
  | next =>
    obtain ⟨σ', H', J, q⟩ := hs
    exact ⟨.non, H', J.os, J.bare, J.base, J.hok, rfl, q⟩
  | brk => obtain ⟨_, _, _, q⟩ := hs; exact False.elim q
  | cont => obtain ⟨_, _, _, q⟩ := hs; exact False.elim q
end

section
variable {X : Cx} {k : Nat} {f : Addr} {fd : FuncData} {ps : List Str} {sp : Sp} {E : XK} {x : Str} {p pos : Pos} {e : Expr} {es : List Expr} {t : TA}
theorem run_fnG {pins : List (Addr × Obj)} {σ : L2.St} {H : Hp} {s : Shared} {Q : VK} {us : List Value} {vs : List V} (F : FnG X.prog X.w X.K X.mg X.base k f fd ps sp) (hr : Room k X.A) (hgd : X.A.guards = some []) (hb : L2.Binds X.K fd ps [])
    (hx : Passes (L2.CX X.prog X.w) X E) (I : L2.Inv X pins σ H s) (r : Vals vs us) (h : sp vs H Q E) : wpAny (model X.prog X.w) X.A (call (.ref f) us) (EP X pins σ Q) X.xe s := by
  have hl : (us ++ []).length = ps.length := by
    rw [List.append_nil, ← r.length]
    exact F.len _ _ _ _ h
  have hb1 := hb s us I.kIn hl
  rw [List.append_nil] at hb1
  refine wpAny_call (codeAny_mono (F.run X.A X.stack s H ⟨us, []⟩ us vs Q E hr hgd I.env0 hb1 r h) fun r s' hq => ?_)
  cases r with
  | error z => exact hx pins σ H s z s' I hq
  | ok fl =>
    cases fl with
    | ret u => exact I.after hq
    | next => exact False.elim hq
    | brk => exact False.elim hq
    | cont => exact False.elim hq
theorem pe_callG (F : FnG X.prog X.w X.K X.mg X.base k f fd ps sp) (hr : Room k X.A) (hgd : X.A.guards = some []) (hg : Gl X x) (hm : X.mg x = some (.ref f)) (hk : PySem.W.keepIn X.K (.ref f) = true) (hb : L2.Binds X.K fd ps [])
    (hx : Passes (L2.CX X.prog X.w) X E) (ha : PA X (e :: es) t) (hdb : (x == ("__debug__" : Str)) = false) (he : starEach (e :: es) X.env = (false, eval e X.env) :: starEach es X.env) (hpl : (backTo pos (starEach es X.env)).any (·.1) = false) :
    PE X (.Call (.Name x p) (e :: es) [] pos) (fun σ H Q => t σ H fun vs H1 => sp vs H1 Q E) := ⟨fun pins s σ H Q I h => by
  refine wpAny_Call_Name_kw (ld_glob I hg hm ?_ hdb)
  exact PySem.W.callWith_K (h₀ := X.base) I.ok.mod.kin hk (thn (ha.run pos pins s σ H _ I h) fun us s1 ⟨vs, H1, I1, r, q⟩ => ⟨I1.kIn, run_fnG F hr hgd hb hx I1 r q⟩) he hpl⟩
end

/-! calls of defs, by data -/
abbrev MF := List D → Store → RE
def spN (K : PySem.W.Frag) (mg : Str → Option Value) (n : Nat) (mf : MF) : Sp := fun vs H Q E =>
  ∃ B F r C ds, Rel K B F r H C ∧ Reps K F r ds vs ∧ ds.length = n ∧ Out (Rep K) K mg E B F r (mf ds C) Q
theorem spN_len {K : PySem.W.Frag} {mg : Str → Option Value} {n : Nat} {mf : MF} : ∀ vs H Q E, spN K mg n mf vs H Q E → vs.length = n := by
  intro vs H Q E h
  obtain ⟨B, F, r, C, ds, _, h2, h3, _⟩ := h
  rw [← h2.length]
  exact h3
section
variable {X : Cx} {E : XK} {a b c : Expr} {es : List Expr} {ma mb mc : ME} {ta tb : MG Bool} {mas : MG (List D)} {pos p1 : Pos}
def mF (n : Nat) (mf : MF) (mas : MG (List D)) : ME := fun sl C => (mas sl C).bind fun p => if p.1.length = n then mf p.1 p.2 else .no
theorem ne_call {x : Str} {e : Expr} {k n : Nat} {f : Addr} {fd : FuncData} {ps : List Str} {mf : MF} (F : FnG X.prog X.w X.K X.mg X.base k f fd ps (spN X.K X.mg n mf)) (hr : Room k X.A) (hgd : X.A.guards = some []) (hm : X.mg x = some (.ref f))
    (hk : PySem.W.keepIn X.K (.ref f) = true) (hb : L2.Binds X.K fd ps []) (hx : Passes (L2.CX X.prog X.w) X E) (ha : NA X E (e :: es) mas) (hg : Gl X x := by rfl) (hdb : (x == ("__debug__" : Str)) = false := by decide)
    (he : starEach (e :: es) X.env = (false, eval e X.env) :: starEach es X.env := by rfl) (hpl : (backTo pos (starEach es X.env)).any (·.1) = false := by rfl) : NE X E (.Call (.Name x p1) (e :: es) [] pos) (mF n mf mas) :=
  ⟨pe_imp (pe_callG F hr hgd hg hm hk hb hx ha.pa hdb he hpl) fun s H Q q => by
    obtain ⟨B, F, r, sl, C, hr, hs, o⟩ := q
    refine ⟨B, F, r, sl, C, hr, hs, Out.bind (P := Reps X.K) o fun x C1 F1 r1 H1 v e1 e2 hr1 hx o1 => ?_⟩
    simp only at o1
    split at o1
    · rename_i hl
      exact ⟨B, F1, r1, C1, x, hr1, hx, hl, o1⟩
    · exact False.elim o1⟩
end
end Nv

namespace Nv
open PySem PySem.Spec PyProof.Rows L2
section
variable {K : PySem.W.Frag} {mg : Str → Option Value} {E : XK} {B F H : Hp} {r : List Addr} {C : Store} {Q : VK} {X : Cx}

/-! is -/
def isD : D → D → Option Bool
  | .non, .non => some true
  | .bl a, .bl b => some (decide (a = b))
  | .non, _ => some false
  | .cell _, .non => some false
  | .int _, .non => some false
  | .str _, .non => some false
  | .bl _, .non => some false
  | .lst _, .non => some false
  | .tup _, .non => some false
  | .exc _ _ _, .non => some false
  | _, _ => none
def gIs (x y : D) (C : Store) : RE := match isD x y with
  | some b => match y with
    | .non => .ok (.bl b, C)
    | .bl _ => match x with
      | .bl _ => .ok (.bl b, C)
      | _ => .no
    | _ => .no
  | none => .no
def gIsNot (x y : D) (C : Store) : RE := match isD x y with
  | some b => match y with
    | .non => .ok (.bl (!b), C)
    | .bl _ => match x with
      | .bl _ => .ok (.bl (!b), C)
      | _ => .no
    | _ => .no
  | none => .no
def rIs2 : R2 := fun x y H Q => (y = .non ∧ Q (.bl (decide (x = .non))) H) ∨ rIsB x y H Q
theorem op_is2 : OpR X (compareOp .Is) rIs2 := op_isN.or op_isBl
theorem Rep.isNon {x : D} {v : V} (h : Rep K F r x v) {b : Bool} (e : isD x .non = some b) : decide (v = V.non) = b := by
  cases x with
  | non => cases e; exact decide_eq_true h
  | bl i => cases e; rw [show v = V.bl i from h]; rfl
  | int i => cases e; rw [show v = V.int i from h]; rfl
  | str i => cases e; rw [show v = V.str i from h]; rfl
  | lst i => cases e; obtain ⟨a, vs, h, _⟩ := h; rw [h]; rfl
  | tup i => cases e; obtain ⟨a, vs, h, _⟩ := h; rw [h]; rfl
  | cell i => cases e; obtain ⟨a, h, _⟩ := h; rw [h]; rfl
  | edct => cases e
  | exc _ _ _ => cases e; obtain ⟨a, C, us, h, _⟩ := h; rw [h]; rfl
  | fn a => cases e
theorem isN2 : OpN K mg E rIs2 gIs := by
  intro B F r H C x y v u Q hr hx hy o
  cases e : isD x y with
  | none => unfold gIs at o; rw [e] at o; exact False.elim o
  | some b =>
    unfold gIs at o
    rw [e] at o
    cases y with
    | non =>
      refine .inl ⟨hy, ?_⟩
      rw [hx.isNon e]
      exact out_ok (d := .bl b) hr rfl o
    | bl k =>
      cases x with
      | bl j =>
        cases e
        exact .inr ⟨j, k, hx, hy, out_ok (d := .bl (decide (j = k))) hr rfl o⟩
      | _ => exact False.elim o
    | _ => exact False.elim o
/-! in, of flat things -/
def flatD : D → Bool
  | .non => true
  | .bl _ => true
  | .int _ => true
  | .str _ => true
  | _ => false
def eqF : D → D → Bool
  | .non, .non => true
  | .bl a, .bl b => a == b
  | .bl a, .int b => (if a then 1 else 0) == b
  | .int a, .bl b => a == (if b then 1 else 0)
  | .int a, .int b => a == b
  | .str a, .str b => a == b
  | _, _ => false
def inF (x : D) (ds : List D) : Bool := ds.any fun y => eqF y x
def seqOf (C : Store) : D → Option (List D)
  | .lst ds => some ds
  | .tup ds => some ds
  | .cell i => lstAt C i
  | _ => none
theorem seqOf_ok {x : D} {v : V} {ds : List D} (hr : Rel K B F r H C) (hx : Rep K F r x v) (e : seqOf C x = some ds) : ∃ a vs, v = .ref a ∧ (SqL K H a vs ∨ SqT K H a vs) ∧ Reps K F r ds vs := by
  cases x with
  | lst ds' =>
    obtain ⟨a, vs, h1, h2, h3⟩ := lstOf_ok hr hx (show lstOf C (.lst ds') = some ds from e)
    exact ⟨a, vs, h1, .inl h2, h3⟩
  | tup ds' =>
    obtain ⟨a, vs, h1, h2, h3⟩ := tupOf_ok hr hx (show tupOf (.tup ds') = some ds from e)
    exact ⟨a, vs, h1, .inr h2, h3⟩
  | cell i =>
    obtain ⟨a, vs, h1, h2, h3⟩ := lstOf_ok hr hx (show lstOf C (.cell i) = some ds from e)
    exact ⟨a, vs, h1, .inl h2, h3⟩
  | _ => cases e
theorem flat_ok {x : D} {v : V} (h : Rep K F r x v) (f : flatD x = true) : flatV v = true := by
  cases x with
  | non => rw [show v = V.non from h]; rfl
  | bl b => rw [show v = V.bl b from h]; rfl
  | int b => rw [show v = V.int b from h]; rfl
  | str b => rw [show v = V.str b from h]; rfl
  | _ => cases f
theorem eqF_ok {x y : D} {v u : V} (h : Rep K F r x v) (k : Rep K F r y u) (f : flatD x = true) (g : flatD y = true) : eqV v u = eqF x y := by
  cases x with
  | non => rw [show v = V.non from h]; cases y with
    | non => rw [show u = V.non from k]; rfl
    | bl b => rw [show u = V.bl b from k]; rfl
    | int b => rw [show u = V.int b from k]; rfl
    | str b => rw [show u = V.str b from k]; rfl
    | _ => cases g
  | bl a => rw [show v = V.bl a from h]; cases y with
    | non => rw [show u = V.non from k]; rfl
    | bl b => rw [show u = V.bl b from k]; rfl
    | int b => rw [show u = V.int b from k]; rfl
    | str b => rw [show u = V.str b from k]; rfl
    | _ => cases g
  | int a => rw [show v = V.int a from h]; cases y with
    | non => rw [show u = V.non from k]; rfl
    | bl b => rw [show u = V.bl b from k]; rfl
    | int b => rw [show u = V.int b from k]; rfl
    | str b => rw [show u = V.str b from k]; rfl
    | _ => cases g
  | str a => rw [show v = V.str a from h]; cases y with
    | non => rw [show u = V.non from k]; rfl
    | bl b => rw [show u = V.bl b from k]; rfl
    | int b => rw [show u = V.int b from k]; rfl
    | str b => rw [show u = V.str b from k]; rfl
    | _ => cases g
  | _ => cases f
theorem flats_ok : ∀ {ds : List D} {vs : List V}, Reps K F r ds vs → ds.all flatD = true → vs.all flatV = true
  | [], _, h, _ => by cases (show _ = [] from h); rfl
  | d :: ds, _, h, f => by
    obtain ⟨v, w, rfl, h1, h2⟩ := h
    rw [List.all_cons, Bool.and_eq_true] at f ⊢
    exact ⟨flat_ok h1 f.1, flats_ok h2 f.2⟩
theorem inF_ok {x : D} {u : V} (k : Rep K F r x u) (g : flatD x = true) : ∀ {ds : List D} {vs : List V}, Reps K F r ds vs → ds.all flatD = true → inV u vs = inF x ds
  | [], _, h, _ => by cases (show _ = [] from h); rfl
  | d :: ds, _, h, f => by
    obtain ⟨v, w, rfl, h1, h2⟩ := h
    rw [List.all_cons, Bool.and_eq_true] at f
    have ih := inF_ok k g h2 f.2
    unfold inV inF at ih ⊢
    rw [List.any_cons, List.any_cons, ih, eqF_ok h1 k f.1 g]
/-- neg: not in -/
def gIn (neg : Bool) (x y : D) (C : Store) : RE := match seqOf C y with
  | some ds => if (flatD x && ds.all flatD) = true then .ok (.bl (if neg then !inF x ds else inF x ds), C) else .no
  | none => .no
theorem inN {neg : Bool} : OpN K mg E (rIn K neg) (gIn neg) := by
  intro B F r H C x y v u Q hr hx hy o
  unfold gIn at o
  split at o
  · rename_i ds e
    split at o
    · rename_i f
      rw [Bool.and_eq_true] at f
      obtain ⟨a, vs, h1, h2, h3⟩ := seqOf_ok hr hy e
      refine ⟨a, vs, h1, h2, flat_ok hx f.1, flats_ok h3 f.2, ?_⟩
      rw [inF_ok hx f.1 h3 f.2]
      exact out_ok (d := .bl (if neg then !inF x ds else inF x ds)) hr rfl o
    · exact False.elim o
  · exact False.elim o
/-! isinstance, built-in types -/
def tyD : D → Option String
  | .non => some "NoneType"
  | .bl _ => some "bool"
  | .int _ => some "int"
  | .str _ => some "str"
  | .lst _ => some "list"
  | .tup _ => some "tuple"
  | .edct => some "dict"
  | .cell _ => none
  | .fn _ => none
  | .exc _ _ _ => none
def tyC (C : Store) : D → Option String
  | .cell i => match C[i]? with
    | some (.lst _) => some "list"
    | some (.fz _) => some "list"
    | some (.dk _) => some "dict"
    | some (.dt _) => some "dict"
    | _ => none
  | d => tyD d
def kinds : List String := ["NoneType", "bool", "int", "str", "list", "tuple", "dict"]
def isB (a b : String) : Bool := a == b || (a == "bool" && b == "int")
theorem kit_kinds : ∀ a ∈ kinds, ∀ b ∈ kinds, kitB a b = some (isB a b) := by decide +kernel
theorem tyX_seqL {a : Addr} {vs : List V} (h : SqL K H a vs) : TyX K H (.ref a) (.type "list") := by
  rcases h with (h | ⟨o, h⟩) | ⟨o, its, n, h1, h2, _⟩
  · exact .base (.lst h)
  · exact .base (.frz h)
  · exact .kList h1 h2
theorem tyX_seqT {a : Addr} {vs : List V} (h : SqT K H a vs) : TyX K H (.ref a) (.type "tuple") := by
  rcases h with (h | ⟨o, h⟩) | ⟨o, its, n, h1, h2, _⟩
  · exact .base (.tup h)
  · exact .fTuple h
  · exact .kTuple h1 h2
theorem tyC_ok {x : D} {v : V} {T : String} (hr : Rel K B F r H C) (hx : Rep K F r x v) (e : tyC C x = some T) : T ∈ kinds ∧ TyX K H v (.type T) := by
  cases x with
  | non => cases e; rw [show v = V.non from hx]; exact ⟨by decide, .base .non⟩
  | bl b => cases e; rw [show v = V.bl b from hx]; exact ⟨by decide, .base (.bl b)⟩
  | int b => cases e; rw [show v = V.int b from hx]; exact ⟨by decide, .base (.int b)⟩
  | str b => cases e; rw [show v = V.str b from hx]; exact ⟨by decide, .base (.str b)⟩
  | lst ds =>
    cases e
    obtain ⟨a, vs, rfl, h2, _⟩ := lstOf_ok hr hx (show lstOf C (.lst ds) = some ds from rfl)
    exact ⟨by decide, tyX_seqL h2⟩
  | tup ds =>
    cases e
    obtain ⟨a, vs, rfl, h2, _⟩ := tupOf_ok hr hx (show tupOf (.tup ds) = some ds from rfl)
    exact ⟨by decide, tyX_seqT h2⟩
  | edct =>
    cases e
    obtain ⟨a, rfl, h⟩ := hx
    exact ⟨by decide, .base (.dK (hr.froz _ _ h))⟩
  | cell i =>
    obtain ⟨a, rfl, h⟩ := hx
    have e : (match C[i]? with
    | some (.lst _) => some "list"
    | some (.fz _) => some "list"
    | some (.dk _) => some "dict"
    | some (.dt _) => some "dict"
    | _ => none) = some T := e
    split at e
    · rename_i ds hc
      cases e
      obtain ⟨_, vs, h3, _⟩ := hr.cells i _ a hc h
      exact ⟨by decide, .base (.lst h3)⟩
    · rename_i ds hc
      cases e
      obtain ⟨vs, h3, _⟩ := hr.cells i _ a hc h
      exact ⟨by decide, .base (.lst (hr.froz _ _ h3))⟩
    · rename_i ds hc
      cases e
      obtain ⟨_, vs, h3, _⟩ := hr.cells i _ a hc h
      exact ⟨by decide, .base (.dK h3)⟩
    · rename_i ds hc
      cases e
      obtain ⟨_, vs, h3, _⟩ := hr.cells i _ a hc h
      exact ⟨by decide, .base (.dT h3)⟩
    · cases e
  | fn a => cases e
  | exc c f a => cases e
/-- isinstance(x, T) -/
def gIsi (T : String) (x : D) (C : Store) : RE := match tyC C x with
  | some t => .ok (.bl (isB t T), C)
  | none => .no
def gIsiL (Ts : List String) (x : D) (C : Store) : RE := match tyC C x with
  | some t => .ok (.bl (Ts.any (isB t)), C)
  | none => .no
end
end Nv

namespace Nv
open PySem PySem.Spec PyProof.Rows L2
def blsOf : List D → Option (List Bool)
  | [] => some []
  | .bl i :: r => (blsOf r).map (i :: ·)
  | _ :: _ => none
theorem blsOf_map : ∀ ns : List Bool, blsOf (ns.map D.bl) = some ns
  | [] => rfl
  | n :: r => by simp [blsOf, blsOf_map r]
theorem blsOf_eq : ∀ {ds : List D} {ns : List Bool}, blsOf ds = some ns → ds = ns.map D.bl
  | [], _, h => by cases h; rfl
  | d :: ds, ns, h => by
    cases d with
    | bl i =>
      obtain ⟨ms, e, rfl⟩ := map_some (show (blsOf ds).map (i :: ·) = some ns from h)
      rw [blsOf_eq e]
      rfl
    | _ => cases h
section
variable {K : PySem.W.Frag} {mg : Str → Option Value} {E : XK} {B F H : Hp} {r : List Addr} {C : Store} {Q : VK} {X : Cx}
theorem Reps.bls : ∀ {ns : List Bool} {vs : List V}, Reps K F r (ns.map D.bl) vs → vs = ns.map V.bl
  | [], _, h => h
  | n :: ns, _, h => by
    obtain ⟨v, w, rfl, h1, h2⟩ := h
    rw [Reps.bls h2, show v = V.bl n from h1]
    rfl
/-! one argument -/
def on1 (g : D → Store → RE) : List D → Store → RE := fun ds C => match ds with
  | [x] => g x C
  | _ => .no
def on2 (g : D → D → Store → RE) : List D → Store → RE := fun ds C => match ds with
  | [x, y] => g x y C
  | _ => .no
theorem on1N {rc : List V → Hp → VK → Prop} {g : D → Store → RE} (h : ∀ (B F : Hp) (r : List Addr) (H : Hp) (C : Store) (x : D) (v : V) (Q : VK), Rel K B F r H C → Rep K F r x v → Out (Rep K) K mg E B F r (g x C) Q → rc [v] H Q) : CallN K mg E rc (on1 g) := by
  intro B F r H C ds vs Q hr hd o
  unfold on1 at o
  split at o
  · rename_i x
    obtain ⟨v, w, rfl, h1, h2⟩ := hd
    cases (show w = [] from h2)
    exact h B F r H C x v Q hr h1 o
  · exact False.elim o
theorem on2N {rc : List V → Hp → VK → Prop} {g : D → D → Store → RE} (h : ∀ (B F : Hp) (r : List Addr) (H : Hp) (C : Store) (x y : D) (v u : V) (Q : VK), Rel K B F r H C → Rep K F r x v → Rep K F r y u → Out (Rep K) K mg E B F r (g x y C) Q → rc [v, u] H Q) : CallN K mg E rc (on2 g) := by
  intro B F r H C ds vs Q hr hd o
  unfold on2 at o
  split at o
  · rename_i x y
    obtain ⟨v, w, rfl, h1, u, w', rfl, h2, h3⟩ := hd
    cases (show w' = [] from h3)
    exact h B F r H C x y v u Q hr h1 h2 o
  · exact False.elim o
/-! len -/
def gLen (x : D) (C : Store) : RE := match x with
  | .str s => if s.length ≤ sizeLine then .ok (.int s.length, C) else .no
  | x => match seqOf C x with
    | some ds => .ok (.int ds.length, C)
    | none => .no
theorem lenN : CallN K mg E (fun xs H Q => ∃ x n, xs = [x] ∧ LenV K x H n ∧ Q (.int n) H) (on1 gLen) := on1N fun B F r H C x v Q hr hx o => by
  have sq : ∀ (o : Out (Rep K) K mg E B F r (match seqOf C x with
    | some ds => .ok (.int ds.length, C)
    | none => .no) Q), ∃ z n, [v] = [z] ∧ LenV K z H n ∧ Q (.int n) H := fun o => by
    split at o
    · rename_i ds e
      obtain ⟨a, vs, rfl, h2, h3⟩ := seqOf_ok hr hx e
      refine ⟨.ref a, ds.length, rfl, ?_, out_ok (d := .int ds.length) hr rfl o⟩
      rcases h2 with h2 | h2
      · exact .inl ⟨vs, h2, h3.length⟩
      · exact .inr ⟨vs, h2, h3.length⟩
    · exact False.elim o
  cases x with
  | str s =>
    have o : Out (Rep K) K mg E B F r (if s.length ≤ sizeLine then .ok (.int s.length, C) else .no) Q := o
    split at o
    · rename_i hl
      rw [show v = V.str s from hx]
      exact ⟨.str s, s.length, rfl, ⟨hl, rfl⟩, out_ok (d := .int s.length) hr rfl o⟩
    · exact False.elim o
  | _ => exact sq o
/-! max, min, abs, int, str of whole numbers -/
def gMax2 (x y : D) (C : Store) : RE := match x, y with
  | .int i, .int j => .ok (.int (max i j), C)
  | _, _ => .no
def gMin2 (x y : D) (C : Store) : RE := match x, y with
  | .int i, .int j => .ok (.int (min i j), C)
  | _, _ => .no
theorem max2N : CallN K mg E (fun xs H Q => ∃ i j, xs = [.int i, .int j] ∧ Q (.int (if j > i then j else i)) H) (on2 gMax2) := on2N fun B F r H C x y v u Q hr hx hy o => by
  cases x with
  | int i =>
    cases y with
    | int j =>
      refine ⟨i, j, by rw [show v = V.int i from hx, show u = V.int j from hy], ?_⟩
      have e : (if j > i then j else i) = max i j := by split <;> omega
      rw [e]
      exact out_ok (d := .int (max i j)) hr rfl o
    | _ => exact False.elim o
  | _ => exact False.elim o
theorem min2N : CallN K mg E (fun xs H Q => ∃ i j, xs = [.int i, .int j] ∧ Q (.int (if j < i then j else i)) H) (on2 gMin2) := on2N fun B F r H C x y v u Q hr hx hy o => by
  cases x with
  | int i =>
    cases y with
    | int j =>
      refine ⟨i, j, by rw [show v = V.int i from hx, show u = V.int j from hy], ?_⟩
      have e : (if j < i then j else i) = min i j := by split <;> omega
      rw [e]
      exact out_ok (d := .int (min i j)) hr rfl o
    | _ => exact False.elim o
  | _ => exact False.elim o
def gInt (x : D) (C : Store) : RE := match x with
  | .int i => .ok (.int i, C)
  | .bl b => .ok (.int (if b then 1 else 0), C)
  | .str a => match PySem.intText? a with
    | some n => if a.length ≤ 640 then .ok (.int n, C) else .no
    | none => .no
  | _ => .no
def rInt3 : List V → Hp → VK → Prop := fun xs H Q => ((∃ i, xs = [.int i] ∧ Q (.int i) H) ∨ ∃ k, xs = [.bl k] ∧ Q (.int (if k then 1 else 0)) H) ∨ ∃ a n, xs = [.str a] ∧ PySem.intText? a = some n ∧ a.length ≤ 640 ∧ Q (.int n) H
theorem call_int3 : CallR X (.type "int") rInt3 := call_int1.or call_int_str
theorem intN : CallN K mg E rInt3 (on1 gInt) := on1N fun B F r H C x v Q hr hx o => by
  cases x with
  | int i => exact .inl (.inl ⟨i, by rw [show v = V.int i from hx], out_ok (d := .int i) hr rfl o⟩)
  | bl i => exact .inl (.inr ⟨i, by rw [show v = V.bl i from hx], out_ok (d := .int (if i then 1 else 0)) hr rfl o⟩)
  | str a =>
    have o : Out (Rep K) K mg E B F r (match PySem.intText? a with
    | some n => if a.length ≤ 640 then .ok (.int n, C) else .no
    | none => .no) Q := o
    split at o
    · rename_i n e
      split at o
      · rename_i hl
        exact .inr ⟨a, n, by rw [show v = V.str a from hx], e, hl, out_ok (d := .int n) hr rfl o⟩
      · exact False.elim o
    · exact False.elim o
  | _ => exact False.elim o
/-! lists and tuples of lists and tuples -/
def gList (c : Bool) (x : D) (C : Store) : RE := match seqOf C x with
  | some ds => newL c ds C
  | none => .no
theorem listN {c : Bool} : CallN K mg E (fun xs H Q => ∃ p ys, xs = [.ref p] ∧ (SqL K H p ys ∨ SqT K H p ys) ∧ ∀ l, H l = none → Q (.ref l) (upd H l (.lst ys))) (on1 (gList c)) := on1N fun B F r H C x v Q hr hx o => by
  unfold gList at o
  split at o
  · rename_i ds e
    obtain ⟨a, vs, rfl, h2, h3⟩ := seqOf_ok hr hx e
    exact ⟨a, vs, rfl, h2, fun l hl => newL_ok hr h3 o hl⟩
  · exact False.elim o
/-! all, any, sum, max, min, sorted -/
def gAll (x : D) (C : Store) : RE := match (lstOf C x).bind blsOf with
  | some bs => .ok (.bl (bs.all id), C)
  | none => .no
theorem bind_some {A B : Type} {o : Option A} {f : A → Option B} {b : B} (h : o.bind f = some b) : ∃ a, o = some a ∧ f a = some b := by
  cases o with
  | none => cases h
  | some a => exact ⟨a, rfl, h⟩
theorem bls_ok {x : D} {v : V} {bs : List Bool} (hr : Rel K B F r H C) (hx : Rep K F r x v) (e : (lstOf C x).bind blsOf = some bs) : ∃ a, v = .ref a ∧ SqL K H a (bs.map V.bl) := by
  obtain ⟨ds, e1, e2⟩ := bind_some e
  obtain ⟨a, vs, rfl, h2, h3⟩ := lstOf_ok hr hx e1
  rw [blsOf_eq e2] at h3
  rw [h3.bls] at h2
  exact ⟨a, rfl, h2⟩
theorem allN : CallN K mg E (rAll K) (on1 gAll) := on1N fun B F r H C x v Q hr hx o => by
  unfold gAll at o
  split at o
  · rename_i bs e
    obtain ⟨a, rfl, h⟩ := bls_ok hr hx e
    exact ⟨a, bs, rfl, h, out_ok (d := .bl (bs.all id)) hr rfl o⟩
  · exact False.elim o
end
end Nv

namespace Nv
open PySem PySem.Spec PyProof.Rows L2
section
variable {K : PySem.W.Frag} {mg : Str → Option Value} {E : XK} {B F H : Hp} {r : List Addr} {C : Store} {Q : VK} {X : Cx} {a b e : Expr} {es : List Expr} {ma mb mo : ME} {mas : MG (List D)} {pos p1 p2 p3 : Pos}

/-! isinstance -/
theorem ne_isi {T : Str} {Ts : String} (hm : X.mg "isinstance" = none) (hmT : X.mg T = none) (hbT : bootBuiltins T = some (.type Ts)) (hT : Ts ∈ kinds) (ha : NE X E a ma) (hl : Gl X "isinstance" := by rfl) (hlT : Gl X T := by rfl)
    (h1 : T ≠ "__name__" := by decide) (h2 : (T == ("__debug__" : Str)) = false := by decide) (hs : starEach [a, .Name T p2] X.env = (false, eval a X.env) :: starEach [.Name T p2] X.env := by rfl)
    (hs2 : starEach [.Name T p2] X.env = (false, eval (.Name T p2) X.env) :: starEach [] X.env := by rfl) (hpl : (backTo pos (starEach [.Name T p2] X.env)).any (·.1) = false := by rfl) :
    NE X E (.Call (.Name "isinstance" p1) [a, .Name T p2] [] pos) (m1 (gIsi Ts) ma) :=
  ⟨pe_imp (pe_callB call_isi hl hm boot_isinstance (pa_cons ha.pe (pa_cons (pe_bltn (v := .ty Ts) hlT hmT hbT rfl h1 h2) pa_nil hs2) hs) (by decide) (by decide) hs hpl) fun s H Q q => by
    obtain ⟨B, F, r, sl, C, hr, hs, o⟩ := q
    refine ⟨B, F, r, sl, C, hr, hs, Out.bind (P := Rep X.K) o fun x C1 F1 r1 H1 v e1 e2 hr1 hx o1 => ?_⟩
    simp only [gIsi] at o1
    split at o1
    · rename_i t et
      obtain ⟨k1, k2⟩ := tyC_ok hr1 hx et
      exact ⟨v, .ty Ts, .type t, .type Ts, isB t Ts, rfl, .ty Ts, k2, kit_ty (kit_kinds t k1 Ts hT), out_ok (d := .bl (isB t Ts)) hr1 rfl o1⟩
    · exact False.elim o1⟩
/-- a row of names of built-in types -/
structure TyArgs (X : Cx) (es : List Expr) (Ts : List String) : Prop where
  pa : PA X es fun _ H Q => Q (Ts.map V.ty) H
theorem ta_nil : TyArgs X [] [] := ⟨pa_imp pa_nil fun _ _ _ q => q⟩
theorem ta_cons {T : Str} {Ts : String} {Us : List String} (hmT : X.mg T = none) (hbT : bootBuiltins T = some (.type Ts)) (h : TyArgs X es Us) (hlT : Gl X T := by rfl)
    (h1 : T ≠ "__name__" := by decide) (h2 : (T == ("__debug__" : Str)) = false := by decide) (hs : starEach (.Name T p2 :: es) X.env = (false, eval (.Name T p2) X.env) :: starEach es X.env := by rfl) : TyArgs X (.Name T p2 :: es) (Ts :: Us) :=
  ⟨pa_imp (pa_cons (pe_bltn (v := .ty Ts) hlT hmT hbT rfl h1 h2) h.pa hs) fun _ _ _ q => q⟩
theorem kitAny_kinds {a : String} (ha : a ∈ kinds) : ∀ {Ts : List String}, (∀ T ∈ Ts, T ∈ kinds) → PySem.W.kitAny K (.type a) (Ts.map Value.type) = some (Ts.any (isB a))
  | [], _ => kitAny_nil
  | T :: Ts, h => by
    have e := kit_ty (K := K) (kit_kinds a ha T (h T List.mem_cons_self))
    have ih := kitAny_kinds ha (Ts := Ts) fun t ht => h t (List.mem_cons_of_mem _ ht)
    rw [List.map_cons, List.any_cons]
    refine kitAny_cons e (fun z => ?_) fun z => ?_
    · rw [z, Bool.false_or]
      exact ih
    · rw [z, Bool.true_or]
theorem cls_tys : ∀ Ts : List String, Paired ClsV (Ts.map V.ty) (Ts.map Value.type)
  | [] => .nil
  | T :: Ts => .cons (.ty T) (cls_tys Ts)
theorem ne_isiL {Ts : List String} {k : Nat} (hm : X.mg "isinstance" = none) (hT : ∀ T ∈ Ts, T ∈ kinds) (hz : Ts.length ≤ 100) (ha : NE X E a ma) (ht : TyArgs X es Ts) (hl : Gl X "isinstance" := by rfl)
    (hs : starEach [a, .Tuple es k p2] X.env = (false, eval a X.env) :: starEach [.Tuple es k p2] X.env := by rfl)
    (hs2 : starEach [.Tuple es k p2] X.env = (false, eval (.Tuple es k p2) X.env) :: starEach [] X.env := by rfl) (hpl : (backTo pos (starEach [.Tuple es k p2] X.env)).any (·.1) = false := by rfl) :
    NE X E (.Call (.Name "isinstance" p1) [a, .Tuple es k p2] [] pos) (m1 (gIsiL Ts) ma) :=
  ⟨pe_imp (pe_callB call_isiT hl hm boot_isinstance (pa_cons ha.pe (pa_cons (pe_tup ht.pa) pa_nil hs2) hs) (by decide) (by decide) hs hpl) fun s H Q q => by
    obtain ⟨B, F, r, sl, C, hr, hs, o⟩ := q
    refine ⟨B, F, r, sl, C, hr, hs, Out.bind (P := Rep X.K) o fun x C1 F1 r1 H1 v e1 e2 hr1 hx o1 => ?_⟩
    refine ⟨by rw [List.length_map]; exact Nat.le_trans hz (by decide), fun p hp => ?_⟩
    simp only [gIsiL] at o1
    split at o1
    · rename_i t et
      have hr2 := hr1.junk (o := .tup (Ts.map V.ty)) hp
      obtain ⟨k1, k2⟩ := tyC_ok hr2 hx et
      exact ⟨v, p, Ts.map V.ty, .type t, Ts.map Value.type, Ts.any (isB t), rfl, upd_same, cls_tys Ts, k2, kitAny_kinds k1 hT, out_ok (d := .bl (Ts.any (isB t))) hr2 rfl o1⟩
    · exact False.elim o1⟩

/-! list(range(..)), [..] * n -/
def intOf : D → Option Int
  | .int i => some i
  | _ => none
theorem intOf_ok {x : D} {v : V} {i : Int} (hx : Rep K F r x v) (e : intOf x = some i) : v = .int i := by
  cases x with
  | int j => cases e; exact hx
  | _ => cases e
def rangeD (a b : Int) : List D := (List.range (b - a).toNat).map fun i => D.int (a + (i : Nat))
theorem range_ok (a b : Int) : Reps K F r (rangeD a b) (rgV a b) := by
  unfold rangeD rgV
  generalize (b - a).toNat = n
  generalize List.range n = l
  induction l with
  | nil => exact .nil
  | cons i l ih => exact .cons rfl ih
/-- small numbers: ranges and indices -/
def lowI (i : Int) : Bool := decide (-(2 ^ 20) ≤ i) && decide (i ≤ 2 ^ 20)
theorem lowI_ok {i : Int} (h : lowI i = true) : -(2 ^ 20) ≤ i ∧ i ≤ 2 ^ 20 := by
  unfold lowI at h
  rw [Bool.and_eq_true] at h
  exact ⟨of_decide_eq_true h.1, of_decide_eq_true h.2⟩
theorem rg_ok {a b : Int} (h : (lowI a && lowI b) = true) : RgOk a b := by
  rw [Bool.and_eq_true] at h
  have h1 := lowI_ok h.1
  have h2 := lowI_ok h.2
  unfold RgOk
  omega
def gRg (c : Bool) (x y : D) (C : Store) : RE := match intOf x, intOf y with
  | some i, some j => if (lowI i && lowI j) = true then newL c (rangeD i j) C else .no
  | _, _ => .no
theorem ne_listRg2 {c : Bool} (hc : X.calm = true) (hml : X.mg "list" = none) (hmr : X.mg "range" = none) (ha : NE X E a ma) (hb : NE X E b mb) (hgl : Gl X "list" := by rfl) (hgr : Gl X "range" := by rfl)
    (na : starEach [a, b] X.env = (false, eval a X.env) :: starEach [b] X.env := by rfl) (nb : starEach [b] X.env = (false, eval b X.env) :: starEach [] X.env := by rfl) (hp : (backTo p2 (starEach [b] X.env)).any (·.1) = false := by rfl)
    (nl : starEach [.Call (.Name "range" p3) [a, b] [] p2] X.env = (false, eval (.Call (.Name "range" p3) [a, b] [] p2) X.env) :: starEach [] X.env := by rfl) :
    NE X E (.Call (.Name "list" p1) [.Call (.Name "range" p3) [a, b] [] p2] [] pos) (m2 (gRg c) ma mb) :=
  ⟨pe_imp (pe_listRg hc hgl hml (prg_2 hgr hmr ha.pe hb.pe na nb hp) nl) fun s H Q q => by
    obtain ⟨B, F, r, sl, C, hr, hs, o⟩ := q
    refine ⟨B, F, r, sl, C, hr, hs, Out.bind (P := Rep X.K) o fun x C1 F1 r1 H1 v e1 e2 hr1 hx o1 => ?_⟩
    refine ⟨B, F1, r1, sl, C1, hr1, hs.mono e1 e2, Out.bind (P := Rep X.K) o1 fun y C2 F2 r2 H2 u e3 e4 hr2 hy o2 => ?_⟩
    simp only [gRg] at o2
    split at o2
    · rename_i i j ei ej
      split at o2
      · rename_i hl
        exact ⟨i, j, intOf_ok hx ei, intOf_ok hy ej, rg_ok hl, fun q hq => newL_ok hr2 (range_ok i j) o2 hq⟩
      · exact False.elim o2
    · exact False.elim o2⟩
theorem ne_listRg1 {c : Bool} (hc : X.calm = true) (hml : X.mg "list" = none) (hmr : X.mg "range" = none) (ha : NE X E a ma) (hgl : Gl X "list" := by rfl) (hgr : Gl X "range" := by rfl)
    (na : starEach [a] X.env = (false, eval a X.env) :: starEach [] X.env := by rfl)
    (nl : starEach [.Call (.Name "range" p3) [a] [] p2] X.env = (false, eval (.Call (.Name "range" p3) [a] [] p2) X.env) :: starEach [] X.env := by rfl) :
    NE X E (.Call (.Name "list" p1) [.Call (.Name "range" p3) [a] [] p2] [] pos) (m1 (gRg c (.int 0)) ma) :=
  ⟨pe_imp (pe_listRg hc hgl hml (prg_1 hgr hmr ha.pe na) nl) fun s H Q q => by
    obtain ⟨B, F, r, sl, C, hr, hs, o⟩ := q
    refine ⟨B, F, r, sl, C, hr, hs, Out.bind (P := Rep X.K) o fun x C1 F1 r1 H1 v e1 e2 hr1 hx o1 => ?_⟩
    have o1 : Out (Rep X.K) X.K X.mg E B F1 r1 (match intOf (.int 0), intOf x with
      | some i, some j => if (lowI i && lowI j) = true then newL c (rangeD i j) C1 else .no
      | _, _ => .no) Q := o1
    split at o1
    · rename_i i j ei ej
      cases ei
      split at o1
      · rename_i hl
        exact ⟨j, intOf_ok hx ej, rg_ok hl, fun q hq => newL_ok hr1 (range_ok 0 j) o1 hq⟩
      · exact False.elim o1
    · exact False.elim o1⟩
def mRep (c : Bool) (mas : MG (List D)) (mb : ME) : ME := fun sl C => (mas sl C).bind fun p => if p.1.length ≤ sizeLine then (mb sl p.2).bind fun q => match intOf q.1 with
    | some k => if lowI k = true ∧ p.1.length * k.toNat ≤ sizeLine then newL c (List.replicate k.toNat p.1).flatten q.2 else .no
    | none => .no
  else .no
theorem ne_rep {c : Bool} (ha : NA X E es mas) (hb : NE X E b mb) : NE X E (.BinOp (.List es p1) .Mult b pos) (mRep c mas mb) :=
  ⟨pe_imp (pe_op op_rep (pe_lst ha.pa) hb.pe) fun s H Q q => by
    obtain ⟨B, F, r, sl, C, hr, hs, o⟩ := q
    refine ⟨B, F, r, sl, C, hr, hs, Out.bind (P := Reps X.K) o fun x C1 F1 r1 H1 v e1 e2 hr1 hx o1 => ?_⟩
    simp only at o1
    split at o1
    · rename_i hz
      refine ⟨by rw [← hx.length]; exact hz, fun p hp => ?_⟩
      have hF := same_new (o := HO.lst v) (hr1.freeF hp)
      have hr1' := hr1.freeze (o := HO.lst v) hp
      refine ⟨B, upd F1 p (.lst v), r1, sl, C1, hr1', (hs.mono e1 e2).mono hF (.refl _), Out.bind (P := Rep X.K) (o1.mono hF (.refl _)) fun y C2 F2 r2 H2 u e3 e4 hr2 hy o2 => ?_⟩
      simp only at o2
      split at o2
      · rename_i k ek
        split at o2
        · rename_i hl
          have hk := lowI_ok hl.1
          have hx2 := hx.mono (hF.trans e3) e4
          exact ⟨p, k, v, rfl, intOf_ok hy ek, hr2.froz _ _ (e3 _ _ upd_same), by omega, by omega, by rw [← hx.length]; exact hl.2, fun q hq => newL_ok hr2 (hx2.rep k.toNat) o2 hq⟩
        · exact False.elim o2
      · exact False.elim o2
    · exact False.elim o1⟩
/-! items -/
theorem atI_ok {ds : List D} {vs : List V} {i : Int} {d : D} (h : Reps K F r ds vs) (e : atI ds i = some d) : ∃ v, atI vs i = some v ∧ Rep K F r d v := by
  unfold atI at e ⊢
  rw [← h.length]
  obtain ⟨j, e1, e2⟩ := bind_some e
  obtain ⟨v, h1, h2⟩ := h.get e2
  rw [e1]
  exact ⟨v, h1, h2⟩
def gIx (x y : D) (C : Store) : RE := match intOf y with
  | some i => match x with
    | .str z => if z.length ≤ sizeLine then match atI z.cps.toList i with
        | some c => .ok (.str ⟨#[c]⟩, C)
        | none => .no
      else .no
    | x => match (seqOf C x).bind fun ds => atI ds i with
      | some d => .ok (d, C)
      | none => .no
  | none => .no
theorem ixN_ok : OpN K mg E (rIx K) gIx := by
  intro B F r H C x y v u Q hr hx hy o
  cases ei : intOf y with
  | none => unfold gIx at o; rw [ei] at o; exact False.elim o
  | some i =>
    unfold gIx at o
    rw [ei] at o
    have hu := intOf_ok hy ei
    have sq : ∀ (o : Out (Rep K) K mg E B F r (match (seqOf C x).bind fun ds => atI ds i with
      | some d => .ok (d, C)
      | none => .no) Q), rIx K v u H Q := fun o => by
      split at o
      · rename_i d e
        obtain ⟨ds, e1, e2⟩ := bind_some e
        obtain ⟨a, vs, rfl, h2, h3⟩ := seqOf_ok hr hx e1
        obtain ⟨w, h4, h5⟩ := atI_ok h3 e2
        rcases h2 with h2 | h2
        · exact .inl ⟨a, vs, i, w, rfl, hu, h2, h4, out_ok hr h5 o⟩
        · exact .inr (.inl ⟨a, vs, i, w, rfl, hu, h2, h4, out_ok hr h5 o⟩)
      · exact False.elim o
    cases x with
    | str z =>
      have o : Out (Rep K) K mg E B F r (if z.length ≤ sizeLine then match atI z.cps.toList i with
        | some c => .ok (.str ⟨#[c]⟩, C)
        | none => .no
      else .no) Q := o
      split at o
      · rename_i hz
        split at o
        · rename_i c ec
          exact .inr (.inr ⟨z, i, c, hx, hu, hz, ec, out_ok (d := .str ⟨#[c]⟩) hr rfl o⟩)
        · exact False.elim o
      · exact False.elim o
    | _ => exact sq o
theorem ne_ix (ha : NE X E a ma) (hb : NE X E b mb) (hs : PlainIx b := by exact fun _ _ => rfl) : NE X E (.Subscript a b pos) (m2 gIx ma mb) :=
  ⟨pe_imp (pe_ix ix_seq ha.pe hb.pe hs) (two ixN_ok)⟩

/-! slices -/
def cutD (xs : List D) (lo hi : Option Int) : List D := (xs.drop (HT.sIx xs.length 0 lo)).take (HT.sIx xs.length xs.length hi - HT.sIx xs.length 0 lo)
theorem cut_ok {ds : List D} {vs : List V} (h : Reps K F r ds vs) (lo hi : Option Int) : Reps K F r (cutD ds lo hi) (cutV vs lo hi) := by
  unfold cutD cutV
  rw [h.length]
  exact (h.drop _).take _
structure NO (X : Cx) (E : XK) (e : Option Expr) (m : MG (Option Int)) : Prop where
  po : PO X e (LG (fun _ _ a b => a = b) X.K X.mg E m)
theorem po_imp {X : Cx} {e : Option Expr} {t t' : TO} (h : PO X e t) (hi : ∀ s H Q, t' s H Q → t s H Q) : PO X e t' := ⟨fun pins s σ H Q I q => h.run pins s σ H Q I (hi _ _ _ q)⟩
def oNone : MG (Option Int) := fun _ C => .ok (none, C)
def oSome (m : ME) : MG (Option Int) := fun sl C => (m sl C).bind fun p => match intOf p.1 with
  | some i => .ok (some i, p.2)
  | none => .no
theorem no_none : NO X E none oNone := ⟨po_imp po_none fun s H Q q => by
    obtain ⟨B, F, r, sl, C, hr, hs, o⟩ := q
    exact o F r H none (.refl _) (.refl _) hr rfl⟩
theorem no_some (ha : NE X E a ma) : NO X E (some a) (oSome ma) := ⟨po_imp (po_some ha.pe) fun s H Q q => by
    obtain ⟨B, F, r, sl, C, hr, hs, o⟩ := q
    refine ⟨B, F, r, sl, C, hr, hs, Out.bind (P := Rep X.K) o fun x C1 F1 r1 H1 v e1 e2 hr1 hx o1 => ?_⟩
    simp only at o1
    split at o1
    · rename_i i ei
      exact ⟨i, intOf_ok hx ei, o1 F1 r1 H1 (some i) (.refl _) (.refl _) hr1 rfl⟩
    · exact False.elim o1⟩
def gSl (c : Bool) (x : D) (lo hi : Option Int) (C : Store) : RE := match x with
  | .str z => if z.length ≤ sizeLine then .ok (.str (cutS z lo hi), C) else .no
  | x => match lstOf C x with
    | some ds => newL c (cutD ds lo hi) C
    | none => .no
def mSl (c : Bool) (ma : ME) (ml mh : MG (Option Int)) : ME := fun sl C => (ma sl C).bind fun p => (ml sl p.2).bind fun q => (mh sl q.2).bind fun t => gSl c p.1 q.1 t.1 t.2
theorem ne_sl {c : Bool} {lo hi : Option Expr} {ml mh : MG (Option Int)} (ha : NE X E a ma) (hl : NO X E lo ml) (hh : NO X E hi mh) : NE X E (.Subscript a (.Slice lo hi none p2) pos) (mSl c ma ml mh) :=
  ⟨pe_imp (pe_slice (sl_list.or sl_str) ha.pe hl.po hh.po) fun s H Q q => by
    obtain ⟨B, F, r, sl, C, hr, hs, o⟩ := q
    refine ⟨B, F, r, sl, C, hr, hs, Out.bind (P := Rep X.K) o fun x C1 F1 r1 H1 v e1 e2 hr1 hx o1 => ?_⟩
    refine ⟨B, F1, r1, sl, C1, hr1, hs.mono e1 e2, Out.bind (P := fun _ _ a b => a = b) o1 fun y C2 F2 r2 H2 u e3 e4 hr2 hy o2 => ?_⟩
    refine ⟨B, F2, r2, sl, C2, hr2, (hs.mono e1 e2).mono e3 e4, Out.bind (P := fun _ _ a b => a = b) o2 fun z C3 F3 r3 H3 w e5 e6 hr3 hz o3 => ?_⟩
    subst hy hz
    have hx3 := (hx.mono e3 e4).mono e5 e6
    have sq : ∀ (o : Out (Rep X.K) X.K X.mg E B F3 r3 (match lstOf C3 x with
      | some ds => newL c (cutD ds y z) C3
      | none => .no) Q), rSlL X.K v y z H3 Q ∨ rSlS v y z H3 Q := fun o => by
      split at o
      · rename_i ds e
        obtain ⟨a, vs, rfl, h2, h3⟩ := lstOf_ok hr3 hx3 e
        exact .inl ⟨a, vs, rfl, h2, fun p hp => newL_ok hr3 (cut_ok h3 y z) o hp⟩
      · exact False.elim o
    cases x with
    | str zz =>
      have o3 : Out (Rep X.K) X.K X.mg E B F3 r3 (if zz.length ≤ sizeLine then .ok (.str (cutS zz y z), C3) else .no) Q := o3
      split at o3
      · rename_i hl
        exact .inr ⟨zz, hx, hl, out_ok (d := .str (cutS zz y z)) hr3 rfl o3⟩
      · exact False.elim o3
    | _ => exact sq o3⟩

/-! methods of lists -/
def isL (C : Store) (x : D) : Bool := (lstOf C x).isSome
def mMt (chk : Store → D → Bool) (g : D → List D → Store → RE) (mo : ME) (mas : MG (List D)) : ME := fun sl C => (mo sl C).bind fun p => if chk p.2 p.1 = true then (mas sl p.2).bind fun q => g p.1 q.1 q.2 else .no
def ChkN (K : PySem.W.Frag) (T : String) (chk : Store → D → Bool) : Prop := ∀ (B F : Hp) (r : List Addr) (H : Hp) (C : Store) (x : D) (v : V), Rel K B F r H C → Rep K F r x v → chk C x = true → tyV K T v H
def MtN (K : PySem.W.Frag) (mg : Str → Option Value) (E : XK) (rm : V → List V → Hp → VK → Prop) (g : D → List D → Store → RE) : Prop :=
  ∀ (B F : Hp) (r : List Addr) (H : Hp) (C : Store) (x : D) (v : V) (ds : List D) (vs : List V) (Q : VK), Rel K B F r H C → Rep K F r x v → Reps K F r ds vs → Out (Rep K) K mg E B F r (g x ds C) Q → rm v vs H Q
theorem chk_list : ChkN K "list" isL := by
  intro B F r H C x v hr hx h
  unfold isL at h
  cases e : lstOf C x with
  | none => rw [e] at h; cases h
  | some ds =>
    obtain ⟨a, vs, rfl, h2, _⟩ := lstOf_ok hr hx e
    exact .inl ⟨rfl, vs, h2⟩
def isS (C : Store) (x : D) : Bool := match x with
  | .str _ => true
  | _ => false
theorem ne_mt {o : Expr} {name : Str} {apos cpos : Pos} {T id : String} {rm : V → List V → Hp → VK → Prop} {chk : Store → D → Bool} {g : D → List D → Store → RE} (pa : PlainAttrs T) (slot : Slot T name id)
    (hty : typeOf (.builtin id) = pure (.type "method_descriptor")) (hm : MtR X id rm) (hc : ChkN X.K T chk) (hg : MtN X.K X.mg E rm g) (ho : NE X E o mo) (ha : NA X E (e :: es) mas) (hbase : attributeBase o name X.env (eval o X.env) = eval o X.env := by rfl)
    (hfew : ((backTo cpos (starEach (e :: es) X.env)).all (fun x => !x.1) && (backToKw cpos (keywordEach [] X.env)).all (fun x => x.1.isSome)
      && decide ((e :: es).length + ([] : List Keyword).length + (if ([] : List Keyword).isEmpty then 0 else 1) < 30)) = true := by rfl)
    (hline : (apos.endLine == cpos.line) = true := by rfl) (hs : starEach (e :: es) X.env = (false, eval e X.env) :: starEach es X.env := by rfl) (hplain : (backTo cpos (starEach es X.env)).any (·.1) = false := by rfl) :
    NE X E (.Call (.Attribute o name apos) (e :: es) [] cpos) (mMt chk g mo mas) :=
  ⟨pe_imp (pe_bm pa slot hty hm ho.pe ha.pa hbase hfew hline hs hplain) fun s H Q q => by
    obtain ⟨B, F, r, sl, C, hr, hs, o⟩ := q
    refine ⟨B, F, r, sl, C, hr, hs, Out.bind (P := Rep X.K) o fun x C1 F1 r1 H1 v e1 e2 hr1 hx o1 => ?_⟩
    simp only at o1
    split at o1
    · rename_i hk
      refine ⟨hc B F1 r1 H1 C1 x v hr1 hx hk, B, F1, r1, sl, C1, hr1, hs.mono e1 e2, Out.bind (P := Reps X.K) o1 fun y C2 F2 r2 H2 u e3 e4 hr2 hy o2 => ?_⟩
      exact hg B F2 r2 H2 C2 x v y u Q hr2 (hx.mono e3 e4) hy o2
    · exact False.elim o1⟩
def mMt0 (chk : Store → D → Bool) (g : D → List D → Store → RE) (mo : ME) : ME := fun sl C => (mo sl C).bind fun p => if chk p.2 p.1 = true then g p.1 [] p.2 else .no
theorem ne_mt0 {o : Expr} {name : Str} {apos cpos : Pos} {T id : String} {rm : V → List V → Hp → VK → Prop} {chk : Store → D → Bool} {g : D → List D → Store → RE} (pa : PlainAttrs T) (slot : Slot T name id)
    (hty : typeOf (.builtin id) = pure (.type "method_descriptor")) (hm : MtR X id rm) (hc : ChkN X.K T chk) (hg : MtN X.K X.mg E rm g) (ho : NE X E o mo) (hbase : attributeBase o name X.env (eval o X.env) = eval o X.env := by rfl)
    (hline : (apos.endLine == cpos.line) = true := by rfl) : NE X E (.Call (.Attribute o name apos) [] [] cpos) (mMt0 chk g mo) :=
  ⟨pe_imp (pe_bm0 pa slot hty hm ho.pe hbase hline) fun s H Q q => by
    obtain ⟨B, F, r, sl, C, hr, hs, o⟩ := q
    refine ⟨B, F, r, sl, C, hr, hs, Out.bind (P := Rep X.K) o fun x C1 F1 r1 H1 v e1 e2 hr1 hx o1 => ?_⟩
    simp only at o1
    split at o1
    · rename_i hk
      exact ⟨hc B F1 r1 H1 C1 x v hr1 hx hk, hg B F1 r1 H1 C1 x v [] [] Q hr1 hx .nil o1⟩
    · exact False.elim o1⟩
/-- a list's cell gets other items -/
theorem setc_ok {x : D} {v : V} {i : Nat} {ds ds' : List D} {vs' : List V} {a : Addr} {d : D} {w : V} (hr : Rel K B F r H C) (e2 : r[i]? = some a) (hn : F a = none) (hd : Reps K F r ds' vs') (hw : Rep K F r d w)
    (o : Out (Rep K) K mg E B F r (.ok (d, C.set i (.lst ds'))) Q) : Q w (upd H a (.lst vs')) :=
  o F r _ w (.refl _) (.refl _) (hr.write e2 hn ⟨hn, vs', upd_same, hd⟩) hw
def gAppend (x : D) (ds : List D) (C : Store) : RE := match cellOf C x, ds with
  | some (i, xs), [y] => if xs.length < sizeLine then .ok (.non, C.set i (.lst (xs ++ [y]))) else .no
  | _, _ => .no
theorem appendN : MtN K mg E rAppend gAppend := by
  intro B F r H C x v ds vs Q hr hx hd o
  unfold gAppend at o
  split at o
  · rename_i i xs y e
    obtain ⟨a, zs, rfl, h1, h2, h3, h4⟩ := cellOf_ok hr hx e
    obtain ⟨u, w, rfl, h5, h6⟩ := hd
    cases (show w = [] from h6)
    split at o
    · rename_i hl
      exact ⟨a, zs, u, rfl, rfl, h3, by rw [← h4.length]; exact hl, setc_ok (x := x) (v := .non) (ds := xs) (d := .non) hr h1 h2 (h4.append (.one h5)) rfl o⟩
    · exact False.elim o
  · exact False.elim o
def gPop (x : D) (ds : List D) (C : Store) : RE := match cellOf C x, ds with
  | some (i, xs), [] => match xs[xs.length - 1]? with
    | some y => .ok (y, C.set i (.lst xs.dropLast))
    | none => .no
  | some (i, xs), [.int k] => if lowI k = true then match seqIndex? k xs.length with
      | some j => match xs[j]? with
        | some y => .ok (y, C.set i (.lst (xs.eraseIdx j)))
        | none => .no
      | none => .no
    else .no
  | _, _ => .no
theorem popN : MtN K mg E (fun x vs H Q => rPop x vs H Q ∨ rPopAt x vs H Q) gPop := by
  intro B F r H C x v ds vs Q hr hx hd o
  unfold gPop at o
  split at o
  · rename_i i xs e
    obtain ⟨a, zs, rfl, h1, h2, h3, h4⟩ := cellOf_ok hr hx e
    cases (show vs = [] from hd)
    split at o
    · rename_i y ey
      obtain ⟨w, h5, h6⟩ := h4.get ey
      exact .inl ⟨a, zs, w, rfl, rfl, h3, by rw [← h4.length]; exact h5, setc_ok (x := x) (v := .non) (ds := xs) hr h1 h2 h4.dropLast h6 o⟩
    · exact False.elim o
  · rename_i i xs k e
    obtain ⟨a, zs, rfl, h1, h2, h3, h4⟩ := cellOf_ok hr hx e
    obtain ⟨u, w, rfl, h5, h6⟩ := hd
    cases (show w = [] from h6)
    split at o
    · rename_i hk
      have hk := lowI_ok hk
      split at o
      · rename_i j ej
        split at o
        · rename_i y ey
          obtain ⟨w, h7, h8⟩ := h4.get ey
          exact .inr ⟨a, zs, k, j, w, rfl, by rw [show u = V.int k from h5], h3, by omega, by omega, by rw [← h4.length]; exact ej, h7, setc_ok (x := x) (v := .non) (ds := xs) hr h1 h2 (h4.eraseIdx j) h8 o⟩
        · exact False.elim o
      · exact False.elim o
    · exact False.elim o
  · exact False.elim o
theorem mt_pop2 : MtR X "list.pop" (fun x vs H Q => rPop x vs H Q ∨ rPopAt x vs H Q) := MtR.or (id := "list.pop") mt_pop mt_popAt
end
end Nv

namespace Nv
open PySem PySem.Spec PyProof.Rows L2

/-! statements -/
inductive Fl where
  | nx
  | rt (d : D)
  | bk
  | ct
abbrev RS := R ((Fl × Sl) × Store)
abbrev MS := Sl → Store → RS
def EndOk (K : PySem.W.Frag) (De : Ends) (F : Hp) (r : List Addr) (H : Hp) (sl : Sl) : Fl → Prop
  | .nx => ∀ s, Sls K F r sl s → De.nx s H
  | .bk => ∀ s, Sls K F r sl s → De.bk s H
  | .ct => ∀ s, Sls K F r sl s → De.ct s H
  | .rt d => ∀ v, Rep K F r d v → De.rt v H
def OutS (K : PySem.W.Frag) (mg : Str → Option Value) (E : XK) (B F : Hp) (r : List Addr) (o : RS) (De : Ends) : Prop :=
  match o with
  | .ok (p, C) => ∀ (F' : Hp) (r' : List Addr) (H' : Hp), Same F F' → Ex r r' → Rel K B F' r' H' C → EndOk K De F' r' H' p.2 p.1
  | .ex x C => XOk K mg E B F r x C
  | .no => False
def LS (K : PySem.W.Frag) (mg : Str → Option Value) (E : XK) (m : MS) : TS := fun De s H =>
  ∃ B F r sl C, Rel K B F r H C ∧ Sls K F r sl s ∧ OutS K mg E B F r (m sl C) De
structure NS (X : Cx) (E : XK) (st : Stmt) (m : MS) : Prop where
  ps : PS X st (LS X.K X.mg E m)
structure NSs (X : Cx) (E : XK) (st : List Stmt) (m : MS) : Prop where
  ps : PSs X st (LS X.K X.mg E m)
theorem ps_imp {X : Cx} {st : Stmt} {t t' : TS} (h : PS X st t) (hi : ∀ De s H, t' De s H → t De s H) : PS X st t' := ⟨fun pins s σ H De I q => h.run pins s σ H De I (hi _ _ _ q)⟩
theorem pss_imp {X : Cx} {st : List Stmt} {t t' : TS} (h : PSs X st t) (hi : ∀ De s H, t' De s H → t De s H) : PSs X st t' := ⟨fun pins s σ H De I q => h.run pins s σ H De I (hi _ _ _ q)⟩
section
variable {K : PySem.W.Frag} {mg : Str → Option Value} {E : XK} {B F F1 : Hp} {r r1 : List Addr} {H : Hp} {C : Store} {De : Ends} {s : L2.St} {sl : Sl}
theorem OutS.mono {o : RS} (h : OutS K mg E B F r o De) (hF : Same F F1) (hr : Ex r r1) : OutS K mg E B F1 r1 o De := by
  cases o with
  | ok p => exact fun F' r' H' h1 h2 h3 => h F' r' H' (hF.trans h1) (hr.trans h2) h3
  | ex x C => exact XOk.mono h hF hr
  | no => exact h
/-- an expression first -/
theorem OutS.bind {S T : Type} {P : PR S T} {o : R (S × Store)} {k : S × Store → RS} {Q : T → Hp → Prop} (h : OutS K mg E B F r (o.bind k) De)
    (hk : ∀ (a : S) (C1 : Store) (F1 : Hp) (r1 : List Addr) (H1 : Hp) (b : T), Same F F1 → Ex r r1 → Rel K B F1 r1 H1 C1 → P F1 r1 a b → OutS K mg E B F1 r1 (k (a, C1)) De → Q b H1) : Out P K mg E B F r o Q := by
  cases o with
  | ok p =>
    obtain ⟨a, C1⟩ := p
    exact fun F' r' H' b h1 h2 h3 h4 => hk a C1 F' r' H' b h1 h2 h3 h4 (OutS.mono h h1 h2)
  | ex x C => exact h
  | no => exact h
theorem OutS.next (h : OutS K mg E B F r (.ok ((.nx, sl), C)) De) (hr : Rel K B F r H C) (hs : Sls K F r sl s) : De.nx s H := h F r H (.refl _) (.refl _) hr s hs
variable {X : Cx} {st : Stmt} {rest : List Stmt} {e a b c : Expr} {m ma mb : ME} {mt : MG Bool} {u u1 u2 : MS} {pos p1 p2 : Pos}
def sNil : MS := fun sl C => .ok ((.nx, sl), C)
def sSeq (u1 u2 : MS) : MS := fun sl C => (u1 sl C).bind fun p => match p.1.1 with
  | .nx => u2 p.1.2 p.2
  | _ => .ok p
theorem nss_nil : NSs X E [] sNil := ⟨pss_imp pss_nil fun De s H q => by
    obtain ⟨B, F, r, sl, C, hr, hs, o⟩ := q
    exact OutS.next o hr hs⟩
theorem nss_cons (h1 : NS X E st u1) (h2 : NSs X E rest u2) : NSs X E (st :: rest) (sSeq u1 u2) := ⟨pss_imp (pss_cons h1.ps h2.ps) fun De s H q => by
    obtain ⟨B, F, r, sl, C, hr, hs, o⟩ := q
    refine ⟨B, F, r, sl, C, hr, hs, ?_⟩
    unfold sSeq at o
    cases hu : u1 sl C with
    | ok p =>
      obtain ⟨⟨f, sl1⟩, C1⟩ := p
      rw [hu, R.bind_ok] at o
      intro F' r' H' k1 k2 k3
      cases f with
      | nx => exact fun s' hs' => ⟨B, F', r', sl1, C1, k3, hs', OutS.mono o k1 k2⟩
      | rt d => exact fun v hv => o F' r' H' k1 k2 k3 v hv
      | bk => exact fun s' hs' => o F' r' H' k1 k2 k3 s' hs'
      | ct => exact fun s' hs' => o F' r' H' k1 k2 k3 s' hs'
    | ex x Cx => rw [hu] at o; exact o
    | no => rw [hu] at o; exact o⟩
theorem nss_one (h1 : NS X E st u1) : NSs X E [st] u1 := ⟨pss_one h1.ps⟩
def sBk : MS := fun sl C => .ok ((.bk, sl), C)
def sCt : MS := fun sl C => .ok ((.ct, sl), C)
def sDrop (m : ME) : MS := fun sl C => (m sl C).bind fun p => .ok ((.nx, sl), p.2)
theorem ns_expr (he : NE X E e m) (hs : swapsWith e none pos.line X.env = pure false := by rfl) : NS X E (.Expr e pos) (sDrop m) := ⟨ps_imp (ps_expr he.pe hs) fun De s H q => by
    obtain ⟨B, F, r, sl, C, hr, hs, o⟩ := q
    refine ⟨B, F, r, sl, C, hr, hs, OutS.bind (P := Rep X.K) o fun x C1 F1 r1 H1 v e1 e2 hr1 hx o1 => ?_⟩
    exact OutS.next o1 hr1 (hs.mono e1 e2)⟩
def sRet (m : ME) : MS := fun sl C => (m sl C).bind fun p => .ok ((.rt p.1, sl), p.2)
theorem ns_ret (he : NE X E e m) : NS X E (.Return (some e) pos) (sRet m) := ⟨ps_imp (ps_ret he.pe) fun De s H q => by
    obtain ⟨B, F, r, sl, C, hr, hs, o⟩ := q
    refine ⟨B, F, r, sl, C, hr, hs, OutS.bind (P := Rep X.K) o fun x C1 F1 r1 H1 v e1 e2 hr1 hx o1 => ?_⟩
    exact o1 F1 r1 H1 (.refl _) (.refl _) hr1 v hx⟩
def sRetN : MS := fun sl C => .ok ((.rt .non, sl), C)
def sIf (t : MG Bool) (u1 u2 : MS) : MS := fun sl C => (t sl C).bind fun p => if p.1 = true then u1 sl p.2 else u2 sl p.2
theorem ns_if {xs ys : List Stmt} (hc : NT X E c mt) (ha : NSs X E xs u1) (hb : NSs X E ys u2) : NS X E (.If c xs ys pos) (sIf mt u1 u2) := ⟨ps_imp (ps_if hc.pt ha.ps hb.ps) fun De s H q => by
    obtain ⟨B, F, r, sl, C, hr, hs, o⟩ := q
    refine ⟨B, F, r, sl, C, hr, hs, OutS.bind (P := PB) o fun x C1 F1 r1 H1 v e1 e2 hr1 hx o1 => ?_⟩
    subst hx
    cases x with
    | true =>
      rw [if_pos rfl] at o1 ⊢
      exact ⟨B, F1, r1, sl, C1, hr1, hs.mono e1 e2, o1⟩
    | false =>
      rw [if_neg Bool.false_ne_true] at o1 ⊢
      exact ⟨B, F1, r1, sl, C1, hr1, hs.mono e1 e2, o1⟩⟩
/-- code that is not reached -/
def sNo : MS := fun _ _ => .no
theorem ns_never : NS X E st sNo := ⟨ps_imp ps_never fun De s H q => by
    obtain ⟨B, F, r, sl, C, hr, hs, o⟩ := q
    exact o⟩

/-! targets -/
abbrev MT := D → Sl → Store → R (Sl × Store)
def LT (own : List Nat) (K : PySem.W.Frag) (mg : Str → Option Value) (E : XK) (g : MT) : TG := fun v s H Q =>
  ∃ B F r sl C d, Rel K B F r H C ∧ Sls K F r sl s ∧ Rep K F r d v ∧ Out (fun F' r' sl' s' => Sls K F' r' sl' s' ∧ wipe s' own = wipe s own) K mg E B F r (g d sl C) Q
def LTs (own : List Nat) (K : PySem.W.Frag) (mg : Str → Option Value) (E : XK) (g : List D → Sl → Store → R (Sl × Store)) : TGs := fun vs s H Q =>
  ∃ B F r sl C ds, Rel K B F r H C ∧ Sls K F r sl s ∧ Reps K F r ds vs ∧ Out (fun F' r' sl' s' => Sls K F' r' sl' s' ∧ wipe s' own = wipe s own) K mg E B F r (g ds sl C) Q
structure NG (X : Cx) (E : XK) (own : List Nat) (tg : Expr) (g : MT) : Prop where
  pg : PG X tg (LT own X.K X.mg E g)
structure NGs (X : Cx) (E : XK) (own : List Nat) (tgs : List Expr) (g : List D → Sl → Store → R (Sl × Store)) : Prop where
  pg : PGs X tgs (LTs own X.K X.mg E g)
theorem pg_imp {tg : Expr} {t t' : TG} (h : PG X tg t) (hi : ∀ v s H Q, t' v s H Q → t v s H Q) : PG X tg t' := ⟨fun pins s σ H v w Q I rv q => h.run pins s σ H v w Q I rv (hi _ _ _ _ q)⟩
theorem pgs_imp {tg : List Expr} {t t' : TGs} (h : PGs X tg t) (hi : ∀ v s H Q, t' v s H Q → t v s H Q) : PGs X tg t' := ⟨fun pins s σ H v w Q I rv q => h.run pins s σ H v w Q I rv (hi _ _ _ _ q)⟩
theorem wipe_set {σ : L2.St} {i : Nat} {v : Option V} : ∀ {own : List Nat}, i ∈ own → wipe (σ.set i v) own = wipe σ own
  | j :: own, h => by
    unfold wipe
    by_cases hj : i ∈ own
    · rw [wipe_set hj]
    · have e : i = j := (List.mem_cons.mp h).resolve_right hj
      subst e
      clear h
      have key : ∀ own : List Nat, i ∉ own → wipe (σ.set i v) own = (wipe σ own).set i v := by
        intro own
        induction own with
        | nil => intro _; rfl
        | cons k own ih =>
          intro hk
          have h1 : i ≠ k := fun z => hk (z ▸ List.mem_cons_self)
          have h2 : i ∉ own := fun z => hk (List.mem_cons_of_mem _ z)
          unfold wipe
          rw [ih h2, List.set_comm _ _ h1]
      rw [key own hj, List.set_set]
theorem Sls.set (hs : Sls K F r sl s) {d : D} {v : V} (hd : Rep K F r d v) (i : Nat) : Sls K F r (sl.set i (some d)) (s.set i (some v)) := by
  refine ⟨by simp [hs.1], fun j d' e => ?_⟩
  by_cases hj : i = j
  · subst hj
    have hi : i < sl.length := by
      have := (List.getElem?_eq_some_iff.mp e).1
      simpa using this
    rw [List.getElem?_set_self hi] at e
    cases e
    exact ⟨v, List.getElem?_set_self (by rw [hs.1]; exact hi), hd⟩
  · rw [List.getElem?_set_ne hj] at e ⊢
    exact hs.2 j d' e
def gmN (i : Nat) : MT := fun d sl C => .ok (sl.set i (some d), C)
theorem ng_name {own : List Nat} (i : Nat) {x : Str} (hi : i ∈ own) (hN : X.N.Nodup) (hx : X.N[i]? = some x) (hl : Loc X.env.scope x) (hf : X.fn x = true ∨ X.env.scope.names.lookup x = some .local := by first | exact .inl rfl | exact .inr rfl) : NG X E own (.Name x pos) (gmN i) :=
  ⟨pg_imp (pg_name hN hx hl hf) fun v s H Q q => by
    obtain ⟨B, F, r, sl, C, d, hr, hs, hd, o⟩ := q
    exact o F r H (s.set i (some v)) (.refl _) (.refl _) hr ⟨hs.set hd i, wipe_set hi⟩⟩
def gmNil : List D → Sl → Store → R (Sl × Store) := fun ds sl C => match ds with
  | [] => .ok (sl, C)
  | _ => .no
def gmCons (g : MT) (gs : List D → Sl → Store → R (Sl × Store)) : List D → Sl → Store → R (Sl × Store) := fun ds sl C => match ds with
  | d :: ds => (g d sl C).bind fun p => gs ds p.1 p.2
  | [] => .no
theorem ngs_nil {own : List Nat} : NGs X E own [] gmNil := ⟨pgs_imp pgs_nil fun v s H Q q => by
    obtain ⟨B, F, r, sl, C, ds, hr, hs, hd, o⟩ := q
    cases ds with
    | nil => exact ⟨hd, o F r H s (.refl _) (.refl _) hr ⟨hs, rfl⟩⟩
    | cons d ds => exact False.elim o⟩
theorem ngs_cons {own : List Nat} {tg : Expr} {tgs : List Expr} {g : MT} {gs : List D → Sl → Store → R (Sl × Store)} (h1 : NG X E own tg g) (h2 : NGs X E own tgs gs)
    (hs : (assignEach (tg :: tgs) X.env).map (·.2) = assign tg X.env :: (assignEach tgs X.env).map (·.2) := by rfl) : NGs X E own (tg :: tgs) (gmCons g gs) := ⟨pgs_imp (pgs_cons h1.pg h2.pg hs) fun vs s H Q q => by
    obtain ⟨B, F, r, sl, C, ds, hr, hs, hd, o⟩ := q
    cases ds with
    | nil => exact False.elim o
    | cons d ds =>
      obtain ⟨v, w, rfl, k1, k2⟩ := hd
      refine ⟨v, w, rfl, B, F, r, sl, C, d, hr, hs, k1, ?_⟩
      refine Out.bind (P := fun F' r' sl' s' => Sls X.K F' r' sl' s' ∧ wipe s' own = wipe s own) o fun sl1 C1 F1 r1 H1 s1 e1 e2 hr1 hs1 o1 => ?_
      refine ⟨B, F1, r1, sl1, C1, ds, hr1, hs1.1, k2.mono e1 e2, ?_⟩
      cases o2 : gs ds sl1 C1 with
      | ok p =>
        simp only at o1
        rw [o2] at o1
        exact fun F' r' H' s' z1 z2 z3 z4 => o1 F' r' H' s' z1 z2 z3 ⟨z4.1, z4.2.trans hs1.2⟩
      | ex x Cx => simp only at o1; rw [o2] at o1; exact o1
      | no => simp only at o1; rw [o2] at o1; exact o1⟩
/-- (a, b, ..) = a tuple -/
def gmTup (n : Nat) (gs : List D → Sl → Store → R (Sl × Store)) : MT := fun d sl C => match tupOf d with
  | some ds => if ds.length = n then gs ds sl C else .no
  | none => .no
/-- x[i] = .. of a list's cell -/
def gSet (o i d : D) (C : Store) : R (Unit × Store) := match cellOf C o, intOf i with
  | some (k, xs), some j => match ixN xs.length j with
    | some n => .ok ((), C.set k (.lst (xs.set n d)))
    | none => .no
  | _, _ => .no
def gmSub (mo mi : ME) : MT := fun d sl C => (mo sl C).bind fun p => (mi sl p.2).bind fun q => (gSet p.1 q.1 d q.2).bind fun t => .ok (sl, t.2)
theorem ng_sub {own : List Nat} {o i : Expr} {mo mi : ME} (ho : NE X E o mo) (hi : NE X E i mi)
    (ha : ∀ v, assign (.Subscript o i pos) X.env v = (do
      let ov ← holding [v] (eval o X.env)
      let iv ← holding [v, ov] (eval i X.env)
      standAt pos
      holding [v, ov, iv] (setItem ov iv v)
      release [v, ov, iv] []) := by intro _; rfl) : NG X E own (.Subscript o i pos) (gmSub mo mi) := ⟨pg_imp (pg_sub ho.pe hi.pe set_list ha) fun v s H Q q => by
    obtain ⟨B, F, r, sl, C, d, hr, hs, hd, o⟩ := q
    refine ⟨B, F, r, sl, C, hr, hs, Out.bind (P := Rep X.K) o fun x C1 F1 r1 H1 w e1 e2 hr1 hx o1 => ?_⟩
    refine ⟨B, F1, r1, sl, C1, hr1, hs.mono e1 e2, Out.bind (P := Rep X.K) o1 fun y C2 F2 r2 H2 z e3 e4 hr2 hy o2 => ?_⟩
    have hx2 := hx.mono e3 e4
    have hd2 := (hd.mono e1 e2).mono e3 e4
    have hs2 := (hs.mono e1 e2).mono e3 e4
    simp only [gSet] at o2
    split at o2
    · rename_i k xs j ek ej
      obtain ⟨a, vs, rfl, h1, h2, h3, h4⟩ := cellOf_ok hr2 hx2 ek
      split at o2
      · rename_i n en
        refine ⟨a, vs, j, n, rfl, intOf_ok hy ej, h3, by rw [← h4.length]; exact en, ?_⟩
        exact o2 F2 r2 _ s (.refl _) (.refl _) (hr2.write h1 h2 ⟨h2, _, upd_same, Reps.set hd2 n h4⟩) ⟨hs2, rfl⟩
      · exact False.elim o2
    · exact False.elim o2⟩
/-! assignments -/
def sAsg (m : ME) (g : MT) : MS := fun sl C => (m sl C).bind fun p => (g p.1 sl p.2).bind fun q => .ok ((.nx, q.1), q.2)
theorem asg_ok {own : List Nat} {g : MT} : ∀ De s H, LS X.K X.mg E (sAsg m g) De s H → tAsg (LG (Rep X.K) X.K X.mg E m) (LT own X.K X.mg E g) De s H := fun De s H q => by
    obtain ⟨B, F, r, sl, C, hr, hs, o⟩ := q
    refine ⟨B, F, r, sl, C, hr, hs, OutS.bind (P := Rep X.K) o fun x C1 F1 r1 H1 v e1 e2 hr1 hx o1 => ?_⟩
    refine ⟨B, F1, r1, sl, C1, x, hr1, hs.mono e1 e2, hx, OutS.bind (P := fun F' r' sl' s' => Sls X.K F' r' sl' s' ∧ wipe s' own = wipe s own) o1 fun sl2 C2 F2 r2 H2 s2 e3 e4 hr2 hs2 o2 => ?_⟩
    exact OutS.next o2 hr2 hs2.1
theorem ns_asg {own : List Nat} {tg : Expr} {g : MT} (he : NE X E e m) (hg : NG X E own tg g) (hs : swapsWithSole [tg] e pos.line X.env = pure false := by rfl) (hw : swappedStores [tg] e X.env = pure none := by rfl)
    (h1 : (assignEach [tg] X.env).map (·.2) = [assign tg X.env] := by rfl) : NS X E (.Assign [tg] e pos) (sAsg m g) := ⟨ps_imp (ps_asg he.pe hg.pg hs hw h1) asg_ok⟩
theorem ns_set (i : Nat) {x : Str} (hN : X.N.Nodup) (hx : X.N[i]? = some x) (hl : Loc X.env.scope x) (he : NE X E e m) (hs : swapsWith e (some (.Name x p1)) pos.line X.env = pure false := by rfl)
    (hf : X.fn x = true ∨ X.env.scope.names.lookup x = some .local := by first | exact .inl rfl | exact .inr rfl) : NS X E (.Assign [.Name x p1] e pos) (sAsg m (gmN i)) :=
  ⟨ps_imp (ps_set hN hx hl he.pe hs hf) fun De s H q => by
    obtain ⟨B, F, r, sl, C, hr, hs, o⟩ := q
    refine ⟨B, F, r, sl, C, hr, hs, OutS.bind (P := Rep X.K) o fun x C1 F1 r1 H1 v e1 e2 hr1 hx o1 => ?_⟩
    exact OutS.next o1 hr1 ((hs.mono e1 e2).set hx i)⟩
def sPar (i j : Nat) (mas : MG (List D)) : MS := fun sl C => (mas sl C).bind fun p => match p.1 with
  | [x, y] => .ok ((.nx, (sl.set i (some x)).set j (some y)), p.2)
  | _ => .no
theorem ns_par (i j : Nat) {x y : Str} {px py pt pt2 : Pos} {kt k2 : Nat} {mas : MG (List D)} (hc : X.calm = true) (hN : X.N.Nodup) (hi : X.N[i]? = some x) (hj : X.N[j]? = some y) (hij : i ≠ j) (hx : X.env.scope.names.lookup x = some .local)
    (hy : X.env.scope.names.lookup y = some .local) (ha : NA X E [a, b] mas) (hw : swappedStores [.Tuple [.Name x px, .Name y py] kt pt] (.Tuple [a, b] k2 pt2) X.env = pure (some [x, y]))
    (hs : swapsWithSole [.Tuple [.Name x px, .Name y py] kt pt] (.Tuple [a, b] k2 pt2) pos.line X.env = pure false := by rfl) : NS X E (.Assign [.Tuple [.Name x px, .Name y py] kt pt] (.Tuple [a, b] k2 pt2) pos) (sPar i j mas) :=
  ⟨ps_imp (ps_par hc hN hi hj hij hx hy ha.pa hw hs) fun De s H q => by
    obtain ⟨B, F, r, sl, C, hr, hs, o⟩ := q
    refine ⟨B, F, r, sl, C, hr, hs, OutS.bind (P := Reps X.K) o fun ds C1 F1 r1 H1 vs e1 e2 hr1 hx o1 => ?_⟩
    simp only at o1
    split at o1
    · rename_i d1 d2
      obtain ⟨v, w, rfl, h1, v2, w2, rfl, h2, h3⟩ := hx
      cases (show w2 = [] from h3)
      exact ⟨v, v2, rfl, OutS.next o1 hr1 (((hs.mono e1 e2).set h1 i).set h2 j)⟩
    · exact False.elim o1⟩
/-- name op= e -/
def sAug (i : Nat) (g : D → D → Store → RE) (m : ME) : MS := fun sl C => match sl[i]? with
  | some (some x) => (m sl C).bind fun p => (g x p.1 p.2).bind fun q => .ok ((.nx, sl.set i (some q.1)), q.2)
  | _ => .no
end
end Nv

namespace Nv
open PySem PySem.Spec PyProof.Rows L2

/-! what is walked -/
abbrev Gd := List (Nat × List D)
/-- the things walked; live cells that must stay as they are -/
abbrev Wk := List D × Gd
def okG (g : Gd) (C : Store) : Prop := ∀ p ∈ g, C[p.1]? = some (Cell.lst p.2)
theorem okG_nil (C : Store) : okG [] C := fun p h => nomatch h
structure WalkN (K : PySem.W.Frag) (B : Hp) (J : It) (F : Hp) (r : List Addr) (k : Wk) : Prop where
  goes : ∀ (i : Nat) (F1 : Hp) (r1 : List Addr) (H : Hp) (C : Store), i < k.1.length → Same F F1 → Ex r r1 → Rel K B F1 r1 H C → okG k.2 C → J.go i H
  stops : ∀ (F1 : Hp) (r1 : List Addr) (H : Hp) (C : Store), Same F F1 → Ex r r1 → Rel K B F1 r1 H C → okG k.2 C → J.stop k.1.length H
  yields : ∀ (i : Nat) (d : D) (F1 : Hp) (r1 : List Addr) (H : Hp) (C : Store) (x : V) (H' : Hp), k.1[i]? = some d → Same F F1 → Ex r r1 → Rel K B F1 r1 H C → okG k.2 C → J.yld i H x H' →
    ∃ F2, Same F1 F2 ∧ Rel K B F2 r1 H' C ∧ Rep K F2 r1 d x
abbrev MI := Sl → Store → R (Wk × Store)
def LI (K : PySem.W.Frag) (mg : Str → Option Value) (E : XK) (m : MI) : TI := fun s H Q =>
  ∃ B F r sl C, Rel K B F r H C ∧ Sls K F r sl s ∧ Out (fun F' r' k J => ∀ B', WalkN K B' J F' r' k) K mg E B F r (m sl C) Q
structure NI (X : Cx) (E : XK) (tg it : Expr) (m : MI) : Prop where
  pi : PI X tg it (LI X.K X.mg E m)
theorem pi_imp {X : Cx} {tg it : Expr} {t t' : TI} (h : PI X tg it t) (hi : ∀ s H Q, t' s H Q → t s H Q) : PI X tg it t' := ⟨fun pins s σ H Q I q => h.run pins s σ H Q I (hi _ _ _ q)⟩
def StayL (K : PySem.W.Frag) (F : Hp) (r : List Addr) (a : Addr) (ds : List D) (g : Gd) : Prop :=
  ∀ (B F1 : Hp) (r1 : List Addr) (H : Hp) (C : Store), Same F F1 → Ex r r1 → Rel K B F1 r1 H C → okG g C → ∃ ws, SqL K H a ws ∧ Reps K F1 r1 ds ws
def StayT (K : PySem.W.Frag) (F : Hp) (r : List Addr) (a : Addr) (ds : List D) : Prop :=
  ∀ (B F1 : Hp) (r1 : List Addr) (H : Hp) (C : Store), Same F F1 → Ex r r1 → Rel K B F1 r1 H C → ∃ ws, SqT K H a ws ∧ Reps K F1 r1 ds ws
def pairs (xs ys : List D) : List D := List.zipWith (fun x y => D.tup [x, y]) xs ys
def enumD (k : Nat) : List D → List D
  | [] => []
  | x :: xs => .tup [.int k, x] :: enumD (k + 1) xs
theorem enumD_length : ∀ (xs : List D) (k : Nat), (enumD k xs).length = xs.length
  | [], _ => rfl
  | x :: xs, k => by simp [enumD, enumD_length xs (k + 1)]
section
variable {K : PySem.W.Frag} {mg : Str → Option Value} {E : XK} {B F F1 : Hp} {r r1 : List Addr} {H : Hp} {C : Store} {De : Ends} {s : L2.St} {sl : Sl}
variable {X : Cx} {st : Stmt} {rest : List Stmt} {e a b c tg it : Expr} {m ma mb : ME} {mt : MG Bool} {u u1 u2 : MS} {pos p1 p2 tpos : Pos} {mas : MG (List D)} {elts : List Expr} {kk : Nat}
theorem walk_l {a : Addr} {ds : List D} {g : Gd} (h : StayL K F r a ds g) : WalkN K B (Itl K a) F r (ds, g) where
  goes := fun i F1 r1 H C hi e1 e2 hr hg => by
    obtain ⟨ws, h1, h2⟩ := h B F1 r1 H C e1 e2 hr hg
    have hi : i < ws.length := by rw [← h2.length]; exact hi
    exact ⟨ws, ws[i], h1, List.getElem?_eq_getElem hi⟩
  stops := fun F1 r1 H C e1 e2 hr hg => by
    obtain ⟨ws, h1, h2⟩ := h B F1 r1 H C e1 e2 hr hg
    exact ⟨ws, h1, Nat.le_of_eq h2.length.symm⟩
  yields := fun i d F1 r1 H C x H' ed e1 e2 hr hg y => by
    obtain ⟨ws, h1, h2⟩ := h B F1 r1 H C e1 e2 hr hg
    obtain ⟨rfl, y⟩ := y
    obtain ⟨v, h3, h4⟩ := h2.get ed
    have ex := y ws h1
    rw [h3] at ex
    cases ex
    exact ⟨F1, .refl _, hr, h4⟩
theorem walk_t {a : Addr} {ds : List D} (h : StayT K F r a ds) : WalkN K B (Itt K a) F r (ds, []) where
  goes := fun i F1 r1 H C hi e1 e2 hr hg => by
    obtain ⟨ws, h1, h2⟩ := h B F1 r1 H C e1 e2 hr
    have hi : i < ws.length := by rw [← h2.length]; exact hi
    exact ⟨ws, ws[i], h1, List.getElem?_eq_getElem hi⟩
  stops := fun F1 r1 H C e1 e2 hr hg => by
    obtain ⟨ws, h1, h2⟩ := h B F1 r1 H C e1 e2 hr
    exact ⟨ws, h1, Nat.le_of_eq h2.length.symm⟩
  yields := fun i d F1 r1 H C x H' ed e1 e2 hr hg y => by
    obtain ⟨ws, h1, h2⟩ := h B F1 r1 H C e1 e2 hr
    obtain ⟨rfl, y⟩ := y
    obtain ⟨v, h3, h4⟩ := h2.get ed
    have ex := y ws h1
    rw [h3] at ex
    cases ex
    exact ⟨F1, .refl _, hr, h4⟩
/-- a new pair -/
theorem pair_new {d1 d2 : D} {x y : V} {T : Addr} (hr : Rel K B F r H C) (h1 : Rep K F r d1 x) (h2 : Rep K F r d2 y) (hT : H T = none) :
    ∃ F2, Same F F2 ∧ Rel K B F2 r (upd H T (.tup [x, y])) C ∧ Rep K F2 r (.tup [d1, d2]) (.ref T) := by
  have hF := same_new (o := HO.tup [x, y]) (hr.freeF hT)
  exact ⟨upd F T (.tup [x, y]), hF, hr.freeze hT, T, [x, y], rfl, .inl (.inl upd_same), .cons (h1.mono hF (.refl _)) (.one (h2.mono hF (.refl _)))⟩
theorem pairs_get (xs ys : List D) (i : Nat) (d : D) (h : (pairs xs ys)[i]? = some d) : ∃ x y, xs[i]? = some x ∧ ys[i]? = some y ∧ d = .tup [x, y] := by
  unfold pairs at h
  rw [List.getElem?_zipWith] at h
  split at h
  · rename_i x y e1 e2
    exact ⟨x, y, e1, e2, (Option.some.inj h).symm⟩
  · cases h
theorem pairs_length (xs ys : List D) : (pairs xs ys).length = min xs.length ys.length := by unfold pairs; simp
theorem walk_z {a b : Addr} {ds es : List D} {g : Gd} (h : StayL K F r a ds g) (k : StayL K F r b es g) : WalkN K B (Itz K a b) F r (pairs ds es, g) where
  goes := fun i F1 r1 H C hi e1 e2 hr hg => by
    obtain ⟨ws, h1, h2⟩ := h B F1 r1 H C e1 e2 hr hg
    obtain ⟨us, k1, k2⟩ := k B F1 r1 H C e1 e2 hr hg
    have hi : i < (pairs ds es).length := hi
    rw [pairs_length] at hi
    have hi1 : i < ws.length := by rw [← h2.length]; omega
    have hi2 : i < us.length := by rw [← k2.length]; omega
    exact ⟨ws, us, ws[i], us[i], h1, k1, List.getElem?_eq_getElem hi1, List.getElem?_eq_getElem hi2⟩
  stops := fun F1 r1 H C e1 e2 hr hg => by
    obtain ⟨ws, h1, h2⟩ := h B F1 r1 H C e1 e2 hr hg
    obtain ⟨us, k1, k2⟩ := k B F1 r1 H C e1 e2 hr hg
    refine ⟨ws, us, h1, k1, ?_⟩
    show ws.length ≤ (pairs ds es).length ∨ us.length ≤ (pairs ds es).length
    rw [pairs_length, ← h2.length, ← k2.length]
    omega
  yields := fun i d F1 r1 H C x H' ed e1 e2 hr hg y => by
    obtain ⟨ws, h1, h2⟩ := h B F1 r1 H C e1 e2 hr hg
    obtain ⟨us, k1, k2⟩ := k B F1 r1 H C e1 e2 hr hg
    obtain ⟨d1, d2, q1, q2, rfl⟩ := pairs_get ds es i d ed
    obtain ⟨T, z1, z2, rfl, hT, rfl, y1, y2⟩ := y
    obtain ⟨v, h3, h4⟩ := h2.get q1
    obtain ⟨w, k3, k4⟩ := k2.get q2
    have ex := y1 ws h1
    rw [h3] at ex
    cases ex
    have ey := y2 us k1
    rw [k3] at ey
    cases ey
    exact pair_new hr h4 k4 hT
theorem walk_zT {a b : Addr} {ds es : List D} (h : StayT K F r a ds) (k : StayT K F r b es) : WalkN K B (RZ.ItzT K a b) F r (pairs ds es, []) where
  goes := fun i F1 r1 H C hi e1 e2 hr hg => by
    obtain ⟨ws, h1, h2⟩ := h B F1 r1 H C e1 e2 hr
    obtain ⟨us, k1, k2⟩ := k B F1 r1 H C e1 e2 hr
    have hi : i < (pairs ds es).length := hi
    rw [pairs_length] at hi
    have hi1 : i < ws.length := by rw [← h2.length]; omega
    have hi2 : i < us.length := by rw [← k2.length]; omega
    exact ⟨ws, us, ws[i], us[i], h1, k1, List.getElem?_eq_getElem hi1, List.getElem?_eq_getElem hi2⟩
  stops := fun F1 r1 H C e1 e2 hr hg => by
    obtain ⟨ws, h1, h2⟩ := h B F1 r1 H C e1 e2 hr
    obtain ⟨us, k1, k2⟩ := k B F1 r1 H C e1 e2 hr
    refine ⟨ws, us, h1, k1, ?_⟩
    show ws.length ≤ (pairs ds es).length ∨ us.length ≤ (pairs ds es).length
    rw [pairs_length, ← h2.length, ← k2.length]
    omega
  yields := fun i d F1 r1 H C x H' ed e1 e2 hr hg y => by
    obtain ⟨ws, h1, h2⟩ := h B F1 r1 H C e1 e2 hr
    obtain ⟨us, k1, k2⟩ := k B F1 r1 H C e1 e2 hr
    obtain ⟨d1, d2, q1, q2, rfl⟩ := pairs_get ds es i d ed
    obtain ⟨T, z1, z2, rfl, hT, rfl, y1, y2⟩ := y
    obtain ⟨v, h3, h4⟩ := h2.get q1
    obtain ⟨w, k3, k4⟩ := k2.get q2
    have ex := y1 ws h1
    rw [h3] at ex
    cases ex
    have ey := y2 us k1
    rw [k3] at ey
    cases ey
    exact pair_new hr h4 k4 hT
theorem walk_r {lo : Int} {n : Nat} : WalkN K B (Itr lo n) F r ((List.range n).map fun i => D.int (lo + (i : Nat)), []) where
  goes := fun i F1 r1 H C hi e1 e2 hr hg => by
    have hi : i < ((List.range n).map fun i => D.int (lo + (i : Nat))).length := hi
    rw [List.length_map, List.length_range] at hi
    exact hi
  stops := fun F1 r1 H C e1 e2 hr hg => by
    show n ≤ ((List.range n).map fun i => D.int (lo + (i : Nat))).length
    simp
  yields := fun i d F1 r1 H C x H' ed e1 e2 hr hg y => by
    obtain ⟨rfl, rfl⟩ := y
    have ed : ((List.range n).map fun i => D.int (lo + (i : Nat)))[i]? = some d := ed
    rw [List.getElem?_map] at ed
    obtain ⟨j, ej, rfl⟩ := map_some ed
    have : j = i := by
      obtain ⟨h1, h2⟩ := List.getElem?_eq_some_iff.mp ej
      rw [List.getElem_range] at h2
      exact h2.symm
    subst this
    exact ⟨F1, .refl _, hr, rfl⟩
/-! the walked expressions -/
/-- a list's things; which cell they lie in -/
def lstG (C : Store) : D → Option Wk
  | .lst ds => some (ds, [])
  | .cell k => match C[k]? with
    | some (.lst ds) => some (ds, [(k, ds)])
    | some (.fz ds) => some (ds, [])
    | _ => none
  | _ => none
theorem lstG_ok {x : D} {v : V} {k : Wk} (hr : Rel K B F r H C) (hx : Rep K F r x v) (e : lstG C x = some k) : ∃ a vs, v = .ref a ∧ SqL K H a vs ∧ StayL K F r a k.1 k.2 := by
  cases x with
  | lst ds =>
    cases e
    obtain ⟨a, vs, rfl, h2, h3⟩ := hx
    exact ⟨a, vs, rfl, Same.seq hr.froz h2, fun B F1 r1 H C e1 e2 hr1 _ => ⟨vs, Same.seq hr1.froz (Same.seq e1 h2), h3.mono e1 e2⟩⟩
  | cell i =>
    obtain ⟨a, rfl, h1⟩ := hx
    have e : (match C[i]? with
    | some (.lst ds) => some (ds, [(i, ds)])
    | some (.fz ds) => some (ds, [])
    | _ => none) = some k := e
    split at e
    · rename_i ds hc
      cases e
      obtain ⟨h2, vs, h3, h4⟩ := hr.cells i _ a hc h1
      refine ⟨a, vs, rfl, .inl (.inl h3), fun B1 F1 r1 H1 C1 k1 k2 hr1 hg => ?_⟩
      have hg : C1[i]? = some (.lst ds) := hg (i, ds) List.mem_cons_self
      obtain ⟨_, ws, h5, h6⟩ := hr1.cells i _ a hg (k2 _ _ h1)
      exact ⟨ws, .inl (.inl h5), h6⟩
    · rename_i ds hc
      cases e
      obtain ⟨vs, h3, h4⟩ := hr.cells i _ a hc h1
      exact ⟨a, vs, rfl, .inl (.inl (hr.froz _ _ h3)), fun B1 F1 r1 H1 C1 k1 k2 hr1 hg => ⟨vs, .inl (.inl (hr1.froz _ _ (k1 _ _ h3))), h4.mono k1 k2⟩⟩
    · cases e
  | _ => cases e
theorem tupOf_stay {x : D} {v : V} {ds : List D} (hr : Rel K B F r H C) (hx : Rep K F r x v) (e : tupOf x = some ds) : ∃ a vs, v = .ref a ∧ SqT K H a vs ∧ StayT K F r a ds := by
  cases x with
  | tup ds' =>
    cases e
    obtain ⟨a, vs, rfl, h2, h3⟩ := hx
    exact ⟨a, vs, rfl, Same.tup hr.froz h2, fun B F1 r1 H C e1 e2 hr1 => ⟨vs, Same.tup hr1.froz (Same.tup e1 h2), h3.mono e1 e2⟩⟩
  | _ => cases e
def iLst (m : ME) : MI := fun sl C => (m sl C).bind fun p => match lstG p.2 p.1 with
  | some k => .ok (k, p.2)
  | none => .no
theorem ni_list (he : NE X E e m) : NI X E tg e (iLst m) := ⟨pi_imp (pi_list he.pe) fun s H Q q => by
    obtain ⟨B, F, r, sl, C, hr, hs, o⟩ := q
    refine ⟨B, F, r, sl, C, hr, hs, Out.bind (P := Rep X.K) o fun x C1 F1 r1 H1 v e1 e2 hr1 hx o1 => ?_⟩
    simp only at o1
    split at o1
    · rename_i k ek
      obtain ⟨a, vs, rfl, h1, h2⟩ := lstG_ok hr1 hx ek
      exact ⟨a, rfl, ⟨vs, h1⟩, o1 F1 r1 H1 _ (.refl _) (.refl _) hr1 fun B' => walk_l h2⟩
    · exact False.elim o1⟩
def iTp (m : ME) : MI := fun sl C => (m sl C).bind fun p => match tupOf p.1 with
  | some ds => .ok ((ds, []), p.2)
  | none => .no
theorem ni_tup (he : NE X E e m) : NI X E tg e (iTp m) := ⟨pi_imp (pi_tup he.pe) fun s H Q q => by
    obtain ⟨B, F, r, sl, C, hr, hs, o⟩ := q
    refine ⟨B, F, r, sl, C, hr, hs, Out.bind (P := Rep X.K) o fun x C1 F1 r1 H1 v e1 e2 hr1 hx o1 => ?_⟩
    simp only at o1
    split at o1
    · rename_i ds ek
      obtain ⟨a, vs, rfl, h1, h2⟩ := tupOf_stay hr1 hx ek
      exact ⟨a, rfl, ⟨vs, h1⟩, o1 F1 r1 H1 _ (.refl _) (.refl _) hr1 fun B' => walk_t h2⟩
    · exact False.elim o1⟩
def rgD (a b : Int) : List D := (List.range (b - a).toNat).map fun i => D.int (a + (i : Nat))
def iRg1 (mas : MG (List D)) : MI := fun sl C => (mas sl C).bind fun p => match p.1 with
  | [.int j] => if lowI j = true then .ok ((rgD 0 j, []), p.2) else .no
  | _ => .no
theorem ni_range1 (hm : X.mg "range" = none) (ha : NA X E [a] mas) (hg : Gl X "range" := by rfl) (hs : starEach [a] X.env = [(false, eval a X.env)] := by rfl) : NI X E tg (.Call (.Name "range" p1) [a] [] pos) (iRg1 mas) :=
  ⟨pi_imp (pi_range1 hg hm ha.pa hs) fun s H Q q => by
    obtain ⟨B, F, r, sl, C, hr, hs, o⟩ := q
    refine ⟨B, F, r, sl, C, hr, hs, Out.bind (P := Reps X.K) o fun x C1 F1 r1 H1 v e1 e2 hr1 hx o1 => ?_⟩
    simp only at o1
    split at o1
    · rename_i j
      obtain ⟨v, w, rfl, h1, h2⟩ := hx
      cases (show w = [] from h2)
      split at o1
      · rename_i hl
        have hl := lowI_ok hl
        refine ⟨j, by rw [show v = V.int j from h1], by omega, by omega, ?_⟩
        refine o1 F1 r1 H1 _ (.refl _) (.refl _) hr1 fun B' => ?_
        unfold rgD
        rw [Int.sub_zero]
        exact walk_r
      · exact False.elim o1
    · exact False.elim o1⟩
def iRg2 (mas : MG (List D)) : MI := fun sl C => (mas sl C).bind fun p => match p.1 with
  | [.int i, .int j] => if (lowI i && lowI j) = true then .ok ((rgD i j, []), p.2) else .no
  | _ => .no
/-- down by ones: range(a, b, -1) -/
def rgDown (a b : Int) : List D := (List.range (a - b).toNat).map fun i => D.int (a + (i : Nat) * (-1))
def iRg3 (mas : MG (List D)) : MI := fun sl C => (mas sl C).bind fun p => match p.1 with
  | [.int i, .int j, .int k] => if (lowI i && lowI j) = true ∧ k = -1 then .ok ((rgDown i j, []), p.2) else .no
  | _ => .no
def iEn (mas : MG (List D)) : MI := fun sl C => (mas sl C).bind fun p => match p.1 with
  | [x] => match lstG p.2 x with
    | some k => .ok ((enumD 0 k.1, k.2), p.2)
    | none => .no
  | _ => .no
theorem StayL.more {a : Addr} {ds : List D} {g g' : Gd} (h : StayL K F r a ds g) (hg : ∀ p ∈ g, p ∈ g') : StayL K F r a ds g' := fun B F1 r1 H C e1 e2 hr ok => h B F1 r1 H C e1 e2 hr fun p hp => ok p (hg p hp)
def iZp (mas : MG (List D)) : MI := fun sl C => (mas sl C).bind fun p => match p.1 with
  | [x, y] => match lstG p.2 x, lstG p.2 y with
    | some k, some l => .ok ((pairs k.1 l.1, k.2 ++ l.2), p.2)
    | _, _ => match tupOf x, tupOf y with
      | some k, some l => .ok ((pairs k l, []), p.2)
      | _, _ => .no
  | _ => .no
theorem ni_zip (hm : X.mg "zip" = none) (ha : NA X E [a, b] mas) (hg : Gl X "zip" := by rfl) (hs : starEach [a, b] X.env = (false, eval a X.env) :: starEach [b] X.env := by rfl) (hpl : (backTo pos (starEach [b] X.env)).any (·.1) = false := by rfl) :
    NI X E (.Tuple elts kk tpos) (.Call (.Name "zip" p1) [a, b] [] pos) (iZp mas) :=
  ⟨pi_imp (RZ.pi_zipA hg hm ha.pa hs hpl) fun s H Q q => by
    obtain ⟨B, F, r, sl, C, hr, hs, o⟩ := q
    refine ⟨B, F, r, sl, C, hr, hs, Out.bind (P := Reps X.K) o fun x C1 F1 r1 H1 v e1 e2 hr1 hx o1 => ?_⟩
    simp only at o1
    split at o1
    · rename_i d1 d2
      obtain ⟨v, w, rfl, h1, v2, w2, rfl, h2, h3⟩ := hx
      cases (show w2 = [] from h3)
      split at o1
      · rename_i k l ek el
        obtain ⟨a, vs, rfl, q1, q2⟩ := lstG_ok hr1 h1 ek
        obtain ⟨b, ws, rfl, q3, q4⟩ := lstG_ok hr1 h2 el
        exact ⟨a, b, vs, ws, rfl, .inl ⟨q1, q3, o1 F1 r1 H1 _ (.refl _) (.refl _) hr1 fun B' => walk_z (q2.more fun p hp => List.mem_append_left _ hp) (q4.more fun p hp => List.mem_append_right _ hp)⟩⟩
      · split at o1
        · rename_i k l ek el
          obtain ⟨a, vs, rfl, q1, q2⟩ := tupOf_stay hr1 h1 ek
          obtain ⟨b, ws, rfl, q3, q4⟩ := tupOf_stay hr1 h2 el
          exact ⟨a, b, vs, ws, rfl, .inr ⟨q1, q3, o1 F1 r1 H1 _ (.refl _) (.refl _) hr1 fun B' => walk_zT q2 q4⟩⟩
        · exact False.elim o1
    · exact False.elim o1⟩
end
end Nv

namespace Nv
open PySem PySem.Spec PyProof.Rows L2
open Classical in
/-- a for: the turns that are left -/
noncomputable def forM (g : MT) (u : MS) (gd : Gd) : List D → MS
  | [] => fun sl C => if okG gd C then .ok ((.nx, sl), C) else .no
  | d :: ds => fun sl C => if okG gd C then (g d sl C).bind fun q => (u q.1 q.2).bind fun p => match p.1.1 with
      | .nx => forM g u gd ds p.1.2 p.2
      | .ct => forM g u gd ds p.1.2 p.2
      | .bk => .ok ((.nx, p.1.2), p.2)
      | .rt d => .ok ((.rt d, p.1.2), p.2)
    else .no
noncomputable def sFor (mi : MI) (g : MT) (u : MS) : MS := fun sl C => (mi sl C).bind fun p => forM g u p.1.2 p.1.1 sl p.2
/-- what is raised is not allowed here -/
def R.calm {S : Type} : R S → R S
  | .ok a => .ok a
  | _ => .no
def wipeS (sl : Sl) : List Nat → Sl
  | [] => sl
  | v :: vs => (wipeS sl vs).set v none
open Classical in
/-- a list comprehension: the things that are left -/
noncomputable def lcM (g : MT) (t : MG Bool) (m : ME) (gd : Gd) (sl : Sl) : List D → Store → R (List D × Store)
  | [], C => if okG gd C then .ok ([], C) else .no
  | d :: ds, C => if okG gd C then (g d sl C).bind fun q => (t q.1 q.2).bind fun b => if b.1 = true then (m q.1 b.2).bind fun e => (lcM g t m gd sl ds e.2).bind fun z => .ok (e.1 :: z.1, z.2)
      else lcM g t m gd sl ds b.2
    else .no
noncomputable def mLc (c : Bool) (own : List Nat) (mi : MI) (g : MT) (t : MG Bool) (m : ME) : ME := fun sl C => (mi sl C).bind fun p => if p.1.1.length ≤ sizeLine then
  (R.calm (lcM g t m p.1.2 (wipeS sl own) p.1.1 p.2)).bind fun z => newL c z.1 z.2 else .no
def tTrue : MG Bool := fun _ C => .ok (true, C)
section
variable {K : PySem.W.Frag} {mg : Str → Option Value} {E : XK} {B F F1 : Hp} {r r1 : List Addr} {H : Hp} {C : Store} {De : Ends} {s : L2.St} {sl : Sl}
variable {X : Cx} {st : Stmt} {rest : List Stmt} {e a b c tg it : Expr} {m ma mb : ME} {mt : MG Bool} {u u1 u2 : MS} {pos p1 p2 tpos : Pos} {mas : MG (List D)} {elts : List Expr} {kk : Nat}
theorem ns_for {own : List Nat} {body : List Stmt} {mi : MI} {g : MT} (hp : PassesOwn (model X.prog X.w) X.A X.env X.xe) (hc : X.calm = true) (hi : NI X E tg it mi) (hg : NG X E own tg g) (hb : NSs X E body u)
    (hs : ∀ x, foldedSetIterable it X.env x = pure x := by intro _; rfl) : NS X E (.For tg it body [] pos) (sFor mi g u) := ⟨ps_imp (ps_for hp hc hi.pi hg.pg hb.ps hs) fun De s H q => by
    obtain ⟨B, F, r, sl, C, hr, hs, o⟩ := q
    refine ⟨B, F, r, sl, C, hr, hs, OutS.bind (P := fun F' r' k J => ∀ B', WalkN X.K B' J F' r' k) o fun k C1 F1 r1 H1 J e1 e2 hr1 hJ o1 => ?_⟩
    obtain ⟨ds, gd⟩ := k
    have hJ := hJ B
    simp only at o1
    refine ⟨fun i n s2 H2 => n = ds.length - i ∧ i ≤ ds.length ∧ ∃ F2 r2 sl2 C2, Same F1 F2 ∧ Ex r1 r2 ∧ Rel X.K B F2 r2 H2 C2 ∧ Sls X.K F2 r2 sl2 s2 ∧ OutS X.K X.mg E B F2 r2 (forM g u gd (ds.drop i) sl2 C2) De,
      ⟨ds.length, by simp, Nat.zero_le _, F1, r1, sl, C1, .refl _, .refl _, hr1, hs.mono e1 e2, o1⟩, ?_⟩
    rintro i n s2 H2 ⟨rfl, hi, F2, r2, sl2, C2, e3, e4, hr2, hs2, o2⟩
    by_cases hl : i < ds.length
    · have ed : ds[i]? = some ds[i] := List.getElem?_eq_getElem hl
      rw [List.drop_eq_getElem_cons hl] at o2
      unfold forM at o2
      split at o2
      · rename_i hok
        refine .inr ⟨hJ.goes i F2 r2 H2 C2 hl e3 e4 hr2 hok, fun s3 H3 => ∃ F2 r2 sl2 C2, Same F1 F2 ∧ Ex r1 r2 ∧ Rel X.K B F2 r2 H3 C2 ∧ Sls X.K F2 r2 sl2 s3 ∧ OutS X.K X.mg E B F2 r2 (forM g u gd (ds.drop (i + 1)) sl2 C2) De,
          fun s3 H3 h => ⟨ds.length - (i + 1), by omega, rfl, hl, h⟩, fun x H3 y => ?_⟩
        obtain ⟨F3, e5, hr3, hx⟩ := hJ.yields i _ F2 r2 H2 C2 x H3 ed e3 e4 hr2 hok y
        refine ⟨B, F3, r2, sl2, C2, ds[i], hr3, hs2.mono e5 (.refl _), hx, OutS.bind (P := fun F' r' sl' s' => Sls X.K F' r' sl' s' ∧ wipe s' own = wipe s2 own) (o2.mono e5 (.refl _)) fun sl4 C4 F4 r4 H4 s4 e6 e7 hr4 hs4 o4 => ?_⟩
        refine ⟨B, F4, r4, sl4, C4, hr4, hs4.1, ?_⟩
        simp only at o4
        cases hu : u sl4 C4 with
        | ok p =>
          obtain ⟨⟨f, sl5⟩, C5⟩ := p
          rw [hu, R.bind_ok] at o4
          intro F5 r5 H5 k1 k2 k3
          have t1 : Same F1 F5 := ((e3.trans e5).trans e6).trans k1
          have t2 : Ex r1 r5 := (e4.trans e7).trans k2
          cases f with
          | nx => exact fun s5 hs5 => ⟨F5, r5, sl5, C5, t1, t2, k3, hs5, OutS.mono o4 k1 k2⟩
          | ct => exact fun s5 hs5 => ⟨F5, r5, sl5, C5, t1, t2, k3, hs5, OutS.mono o4 k1 k2⟩
          | bk => exact fun s5 hs5 => o4 F5 r5 H5 k1 k2 k3 s5 hs5
          | rt d => exact fun v hv => o4 F5 r5 H5 k1 k2 k3 v hv
        | ex y Cy => rw [hu] at o4; exact o4
        | no => rw [hu] at o4; exact o4
      · exact False.elim o2
    · have ei : i = ds.length := by omega
      subst ei
      rw [List.drop_length] at o2
      unfold forM at o2
      split at o2
      · rename_i hok
        exact .inl ⟨hJ.stops F2 r2 H2 C2 e3 e4 hr2 hok, OutS.next o2 hr2 hs2⟩
      · exact False.elim o2⟩
/-! list comprehensions -/
abbrev EN : XK := fun _ _ _ => False
theorem Sls.wipe (hs : Sls K F r sl s) : ∀ own : List Nat, Sls K F r (wipeS sl own) (L2.wipe s own)
  | [] => hs
  | v :: vs => by
    have ih := Sls.wipe hs vs
    unfold wipeS L2.wipe
    refine ⟨by simp [ih.1], fun j d e => ?_⟩
    by_cases hj : v = j
    · subst hj
      by_cases hi : v < (wipeS sl vs).length
      · rw [List.getElem?_set_self hi] at e; cases e
      · rw [List.getElem?_eq_none (by simpa using hi)] at e; cases e
    · rw [List.getElem?_set_ne hj] at e ⊢
      exact ih.2 j d e
/-- the tests of a comprehension -/
structure NTs (X : Cx) (ifs : List Expr) (m : MG Bool) : Prop where
  pt : PTs X ifs (LG PB X.K X.mg EN m)
theorem pts_imp {X : Cx} {e : List Expr} {t t' : TT} (h : PTs X e t) (hi : ∀ s H Q, t' s H Q → t s H Q) : PTs X e t' := ⟨fun pins s σ H Q I q => h.run pins s σ H Q I (hi _ _ _ q)⟩
theorem nts_nil : NTs X [] tTrue := ⟨pts_imp pts_nil fun s H Q q => by
    obtain ⟨B, F, r, sl, C, hr, hs, o⟩ := q
    exact o F r H true (.refl _) (.refl _) hr rfl⟩
theorem bind_okR {S T : Type} {o : R S} {k : S → R T} {x : T} (h : o.bind k = .ok x) : ∃ a, o = .ok a ∧ k a = .ok x := by
  cases o with
  | ok a => exact ⟨a, rfl, h⟩
  | ex y C => cases h
  | no => cases h
theorem out_of {S T : Type} {P : PR S T} {o : R (S × Store)} {a : S} {C1 : Store} {Q : T → Hp → Prop} (h : o = .ok (a, C1)) (hq : ∀ (F' : Hp) (r' : List Addr) (H' : Hp) (b : T), Same F F' → Ex r r' → Rel K B F' r' H' C1 → P F' r' a b → Q b H') : Out P K mg E B F r o Q := by
  subst h
  exact hq
theorem lc_ok {cb : Bool} {own : List Nat} {mi : MI} {g : MT} {t : MG Bool} {m : ME} : ∀ s H Q, LG (Rep K) K mg E (mLc cb own mi g t m) s H Q → tLc (LI K mg E mi) (LT own K mg EN g) (LG PB K mg EN t) (LG (Rep K) K mg EN m) own s H Q := fun s H Q q => by
    obtain ⟨B, F, r, sl, C, hr, hs, o⟩ := q
    refine ⟨B, F, r, sl, C, hr, hs, Out.bind (P := fun F' r' k J => ∀ B', WalkN K B' J F' r' k) o fun k C1 F1 r1 H1 J e1 e2 hr1 hJ o1 => ?_⟩
    obtain ⟨ds, gd⟩ := k
    intro p hp
    simp only at o1
    split at o1
    case isFalse => exact False.elim o1
    rename_i hz
    obtain ⟨⟨out, Cn⟩, hlc, o1⟩ : ∃ z, lcM g t m gd (wipeS sl own) ds C1 = .ok z ∧ Out (Rep K) K mg E B F1 r1 (newL cb z.1 z.2) Q := by
      cases hl : lcM g t m gd (wipeS sl own) ds C1 with
      | ok z => rw [hl] at o1; exact ⟨z, rfl, o1⟩
      | ex y Cy => rw [hl] at o1; exact False.elim o1
      | no => rw [hl] at o1; exact False.elim o1
    have hs1 := hs.mono e1 e2
    refine ⟨fun i n H2 => n = ds.length - i ∧ i ≤ ds.length ∧ ∃ F2 r2 C2 acc vs out2, Same F1 F2 ∧ Ex r1 r2 ∧ Rel K (upd B p (.lst vs)) F2 r2 H2 C2 ∧ Reps K F2 r2 acc vs ∧ acc.length ≤ i ∧ out = acc ++ out2 ∧ lcM g t m gd (wipeS sl own) (ds.drop i) C2 = .ok (out2, Cn),
      ⟨ds.length, by simp, Nat.zero_le _, F1, r1, C1, [], [], out, .refl _, .refl _, hr1.aside hp, .nil, Nat.zero_le _, rfl, hlc⟩, ?_⟩
    rintro i n H2 ⟨rfl, hi, F2, r2, C2, acc, vs, out2, e3, e4, hr2, hacc, hal, ho, h2⟩
    have hJ := hJ (upd B p (.lst vs))
    by_cases hl : i < ds.length
    · have ed : ds[i]? = some ds[i] := List.getElem?_eq_getElem hl
      rw [List.drop_eq_getElem_cons hl] at h2
      unfold lcM at h2
      split at h2
      case isFalse => cases h2
      rename_i hok
      obtain ⟨⟨sl4, C4⟩, hg, h2⟩ := bind_okR h2
      obtain ⟨⟨bt, C5⟩, ht, h2⟩ := bind_okR h2
      refine .inr ⟨hJ.goes i F2 r2 H2 C2 hl e3 e4 hr2 hok, fun H3 => ∃ F2 r2 C2 acc vs out2, Same F1 F2 ∧ Ex r1 r2 ∧ Rel K (upd B p (.lst vs)) F2 r2 H3 C2 ∧ Reps K F2 r2 acc vs ∧ acc.length ≤ i + 1 ∧ out = acc ++ out2 ∧ lcM g t m gd (wipeS sl own) (ds.drop (i + 1)) C2 = .ok (out2, Cn),
        fun H3 h => ⟨ds.length - (i + 1), by omega, rfl, hl, h⟩, fun x H3 y => ?_⟩
      obtain ⟨F3, e5, hr3, hx⟩ := hJ.yields i _ F2 r2 H2 C2 x H3 ed e3 e4 hr2 hok y
      have hs3 : Sls K F3 r2 (wipeS sl own) (wipe s own) := Sls.wipe (hs1.mono (e3.trans e5) e4) own
      refine ⟨upd B p (.lst vs), F3, r2, wipeS sl own, C2, ds[i], hr3, hs3, hx, out_of hg fun F4 r4 H4 s4 e6 e7 hr4 hs4 => ?_⟩
      have ww : ∀ own : List Nat, wipe (wipe s own) own = wipe s own := fun own => by
        have key : ∀ (l : List Nat) (x : Nat) (z : L2.St), z[x]? = some none ∨ z.length ≤ x → (wipe z l)[x]? = some none ∨ (wipe z l).length ≤ x := by
          intro l
          induction l with
          | nil => intro x z h; exact h
          | cons v vs ih =>
            intro x z h
            unfold wipe
            by_cases hv : v = x
            · subst hv
              by_cases hv2 : v < (wipe z vs).length
              · exact .inl (List.getElem?_set_self hv2)
              · exact .inr (by simpa using hv2)
            · rw [List.getElem?_set_ne hv, List.length_set]
              exact ih x z h
        have fix : ∀ (l : List Nat) (z : L2.St), (∀ x ∈ l, z[x]? = some none ∨ z.length ≤ x) → wipe z l = z := by
          intro l
          induction l with
          | nil => intro z _; rfl
          | cons v vs ih =>
            intro z h
            unfold wipe
            rw [ih z fun x hx => h x (List.mem_cons_of_mem _ hx)]
            rcases h v List.mem_cons_self with e | e
            · apply List.ext_getElem?
              intro j
              by_cases hj : v = j
              · subst hj
                rw [List.getElem?_set_self (List.getElem?_eq_some_iff.mp e).1, e]
              · rw [List.getElem?_set_ne hj]
            · rw [List.set_eq_of_length_le e]
        have done : ∀ (l : List Nat) (z : L2.St), ∀ x ∈ l, (wipe z l)[x]? = some none ∨ (wipe z l).length ≤ x := by
          intro l
          induction l with
          | nil => intro z x hx; cases hx
          | cons v vs ih =>
            intro z x hx
            unfold wipe
            by_cases hv : v = x
            · subst hv
              by_cases hv2 : v < (wipe z vs).length
              · exact .inl (List.getElem?_set_self hv2)
              · exact .inr (by simpa using hv2)
            · rw [List.getElem?_set_ne hv, List.length_set]
              exact ih z x ((List.mem_cons.mp hx).resolve_left (Ne.symm hv))
        exact fix own _ (done own s)
      refine ⟨hs4.2.trans (ww own), upd B p (.lst vs), F4, r4, sl4, C4, hr4, hs4.1, out_of ht fun F5 r5 H5 b e8 e9 hr5 hb => ?_⟩
      subst hb
      cases bt with
      | false =>
        rw [if_neg Bool.false_ne_true] at h2 ⊢
        exact ⟨F5, r5, C5, acc, vs, out2, ((e3.trans e5).trans e6).trans e8, (e4.trans e7).trans e9, hr5, hacc.mono ((e5.trans e6).trans e8) (e7.trans e9), by omega, ho, h2⟩
      | true =>
        rw [if_pos rfl] at h2 ⊢
        obtain ⟨⟨ed, C6⟩, hm, h2⟩ := bind_okR h2
        obtain ⟨⟨out3, C7⟩, h3, h2⟩ := bind_okR h2
        cases h2
        refine ⟨upd B p (.lst vs), F5, r5, sl4, C5, hr5, hs4.1.mono e8 e9, out_of hm fun F6 r6 H6 v k1 k2 hr6 hv => ?_⟩
        have hacc6 := hacc.mono (((e5.trans e6).trans e8).trans k1) ((e7.trans e9).trans k2)
        refine ⟨vs, hr6.base p _ upd_same, ?_, F6, r6, C6, acc ++ [ed], vs ++ [v], out3, (((e3.trans e5).trans e6).trans e8).trans k1, ((e4.trans e7).trans e9).trans k2, ?_, hacc6.append (.one hv), by simp; omega, by rw [ho]; simp, h3⟩
        · rw [← hacc.length]
          omega
        · exact hr6.asideSet
    · have ei : i = ds.length := by omega
      subst ei
      rw [List.drop_length] at h2
      unfold lcM at h2
      split at h2
      case isFalse => cases h2
      rename_i hok
      cases h2
      refine .inl ⟨hJ.stops F2 r2 H2 _ e3 e4 hr2 hok, ?_⟩
      rw [List.append_nil] at ho
      subst ho
      have hB : B p = none := Same.free hr1.base hp
      unfold newL at o1
      cases cb with
      | true =>
        rw [if_pos rfl] at o1
        refine o1 F2 (r2 ++ [p]) H2 _ e3 (e4.trans (Ex.app r2 _)) (hr2.asideCell hB ⟨hr2.apart p _ upd_same, vs, hr2.base p _ upd_same, hacc.mono (.refl _) (Ex.app r2 _)⟩) ⟨p, rfl, ?_⟩
        rw [← hr2.len, List.getElem?_append_right (Nat.le_refl _)]
        simp
      | false =>
        rw [if_neg Bool.false_ne_true] at o1
        obtain ⟨k1, k2⟩ := hr2.asideFreeze hB
        exact o1 (upd F2 p (.lst vs)) r2 H2 _ (e3.trans k2) e4 k1 ⟨p, vs, rfl, .inl (.inl upd_same), hacc.mono k2 (.refl _)⟩
theorem ne_lc {cb : Bool} {elt : Expr} {ifs : List Expr} {scope : Scope} (own : List (Str × Nat)) {mi : MI} {g : MT} {t : MG Bool} {m : ME} (hc : X.calm = true) (hN : X.N.Nodup) (hi : NI X E tg it mi) (ok : BlkOk X.N X.env.scope scope own)
    (hg : ∀ (s : Shared) (H : Hp) (C : Addr) (cl : List (Str × Addr)) (fp : List Addr), NG (X.blk s H scope (compEnvC scope cl C X.env) fp) EN (own.map (·.2)) tg g)
    (ht : ∀ (s : Shared) (H : Hp) (C : Addr) (cl : List (Str × Addr)) (fp : List Addr), NTs (X.blk s H scope (compEnvC scope cl C X.env) fp) ifs t)
    (he : ∀ (s : Shared) (H : Hp) (C : Addr) (cl : List (Str × Addr)) (fp : List Addr), NE (X.blk s H scope (compEnvC scope cl C X.env) fp) EN elt m)
    (hs : ∀ x, foldedSetIterable it X.env x = pure x := by intro _; rfl) : NE X E (.ListComp elt [⟨tg, it, ifs, 0⟩] scope pos) (mLc cb (own.map (·.2)) mi g t m) :=
  ⟨pe_imp (pe_lc (own := own) hc hN hi.pi ok (fun s H C cl fp => (hg s H C cl fp).pg) (fun s H C cl fp => (ht s H C cl fp).pt) (fun s H C cl fp => (he s H C cl fp).pe) hs) lc_ok⟩
theorem ns_setLc {cb : Bool} (i : Nat) {y : Str} {py spos : Pos} {elt : Expr} {ifs : List Expr} {scope : Scope} (own : List (Str × Nat)) {mi : MI} {g : MT} {t : MG Bool} {m : ME} (hc : X.calm = true) (hN : X.N.Nodup) (hy : X.N[i]? = some y) (hyl : X.env.scope.names.lookup y = some .local)
    (hsw : swapsWith (.ListComp elt [⟨tg, it, ifs, 0⟩] scope pos) (some (.Name y py)) spos.line X.env = pure true) (hi : NI X E tg it mi) (ok : BlkOk X.N X.env.scope scope own)
    (hg : ∀ (s : Shared) (H : Hp) (C : Addr) (cl : List (Str × Addr)) (fp : List Addr), NG (X.blk s H scope (compEnvC scope cl C X.env) fp) EN (own.map (·.2)) tg g)
    (ht : ∀ (s : Shared) (H : Hp) (C : Addr) (cl : List (Str × Addr)) (fp : List Addr), NTs (X.blk s H scope (compEnvC scope cl C X.env) fp) ifs t)
    (he : ∀ (s : Shared) (H : Hp) (C : Addr) (cl : List (Str × Addr)) (fp : List Addr), NE (X.blk s H scope (compEnvC scope cl C X.env) fp) EN elt m)
    (hs : ∀ x, foldedSetIterable it X.env x = pure x := by intro _; rfl) : NS X E (.Assign [.Name y py] (.ListComp elt [⟨tg, it, ifs, 0⟩] scope pos) spos) (sAsg (mLc cb (own.map (·.2)) mi g t m) (gmN i)) :=
  ⟨ps_imp (ps_setLc (own := own) hc hN hy hyl hsw hi.pi ok (fun s H C cl fp => (hg s H C cl fp).pg) (fun s H C cl fp => (ht s H C cl fp).pt) (fun s H C cl fp => (he s H C cl fp).pe) hs) fun De s H q => by
    obtain ⟨B, F, r, sl, C, hr, hs, o⟩ := q
    refine lc_ok (cb := cb) s H _ ⟨B, F, r, sl, C, hr, hs, OutS.bind (P := Rep X.K) o fun x C1 F1 r1 H1 v e1 e2 hr1 hx o1 => ?_⟩
    exact OutS.next o1 hr1 ((hs.mono e1 e2).set hx i)⟩
end
end Nv

namespace Nv
open PySem PySem.Spec PyProof.Rows L2
mutual
/-- all cells that it names are among the first n -/
def closedD (n : Nat) : D → Bool
  | .non => true
  | .bl _ => true
  | .int _ => true
  | .str _ => true
  | .lst ds => closedDs n ds
  | .tup ds => closedDs n ds
  | .cell i => decide (i < n)
  | .edct => true
  | .fn _ => true
  | .exc _ _ ds => closedDs n ds
def closedDs (n : Nat) : List D → Bool
  | [] => true
  | d :: ds => closedD n d && closedDs n ds
end
def closedC (n : Nat) : Cell → Bool
  | .lst ds => closedDs n ds
  | .dk kvs => closedDs n (kvs.map (·.2))
  | .dt kvs => closedDs n (kvs.map (·.2))
  | .fz ds => closedDs n ds
  | .dn kvs => closedDs n (kvs.map (·.2))
  | .obj _ fs => closedDs n (fs.map (·.2))
  | .lk kvs => closedDs n (kvs.map (·.2))
mutual
theorem keyN_closed : ∀ (d : D) {k : NestedKey}, keyN d = some k → closedD 0 d = true
  | .non, _, _ => rfl
  | .bl _, _, _ => rfl
  | .int _, _, _ => rfl
  | .tup ds, k, e => by
    have e : (keysN ds).map NestedKey.tup = some k := e
    cases h : keysN ds with
    | none => rw [h] at e; cases e
    | some ks => exact keysN_closed ds h
  | .str _, _, e => nomatch e
  | .lst _, _, e => nomatch e
  | .cell _, _, e => nomatch e
  | .edct, _, e => nomatch e
  | .fn _, _, e => nomatch e
  | .exc _ _ _, _, e => nomatch e
theorem keysN_closed : ∀ (ds : List D) {ks : List NestedKey}, keysN ds = some ks → closedDs 0 ds = true
  | [], _, _ => rfl
  | d :: ds, ks, e => by
    have e : (keyN d).bind (fun k => (keysN ds).map (k :: ·)) = some ks := e
    cases h : keyN d with
    | none => rw [h] at e; cases e
    | some k =>
      rw [h, Option.bind_some] at e
      cases g : keysN ds with
      | none => rw [g] at e; cases e
      | some ks' =>
        show (closedD 0 d && closedDs 0 ds) = true
        rw [keyN_closed d h, keysN_closed ds g]
        rfl
end
mutual
theorem closed_up {n m : Nat} (h : n ≤ m) : ∀ d : D, closedD n d = true → closedD m d = true
  | .non, _ => rfl
  | .bl _, _ => rfl
  | .int _, _ => rfl
  | .str _, _ => rfl
  | .lst ds, c => closeds_up h ds c
  | .tup ds, c => closeds_up h ds c
  | .cell i, c => decide_eq_true (Nat.lt_of_lt_of_le (of_decide_eq_true c) h)
  | .edct, _ => rfl
  | .fn _, _ => rfl
  | .exc _ _ ds, c => closeds_up h ds c
theorem closeds_up {n m : Nat} (h : n ≤ m) : ∀ ds : List D, closedDs n ds = true → closedDs m ds = true
  | [], _ => rfl
  | d :: ds, c => by
    have c : (closedD n d && closedDs n ds) = true := c
    rw [Bool.and_eq_true] at c
    show (closedD m d && closedDs m ds) = true
    rw [closed_up h d c.1, closeds_up h ds c.2]
    rfl
end
section
variable {K : PySem.W.Frag} {mg : Str → Option Value} {E : XK} {B F F' : Hp} {r r' : List Addr} {H : Hp} {C : Store}
mutual
theorem Rep.closed : ∀ {d : D} {v : V}, Rep K F r d v → closedD r.length d = true
  | .non, _, _ => rfl
  | .bl _, _, _ => rfl
  | .int _, _, _ => rfl
  | .str _, _, _ => rfl
  | .lst ds, _, h => by
    obtain ⟨a, vs, _, _, q⟩ := h
    exact Reps.closed q
  | .tup ds, _, h => by
    obtain ⟨a, vs, _, _, q⟩ := h
    exact Reps.closed q
  | .cell i, _, h => by
    obtain ⟨a, _, q⟩ := h
    exact decide_eq_true (List.getElem?_eq_some_iff.mp q).1
  | .edct, _, _ => rfl
  | .fn _, _, _ => rfl
  | .exc _ _ ds, _, h => by
    obtain ⟨a, C, us, _, _, _, q⟩ := h
    exact Reps.closed q
theorem Reps.closed : ∀ {ds : List D} {vs : List V}, Reps K F r ds vs → closedDs r.length ds = true
  | [], _, _ => rfl
  | d :: ds, _, h => by
    obtain ⟨v, w, _, h1, h2⟩ := h
    unfold closedDs
    rw [Rep.closed h1, Reps.closed h2]
    rfl
end
mutual
theorem Rep.cut {n : Nat} (hr : ∀ (i : Nat) (a : Addr), i < n → r[i]? = some a → r'[i]? = some a) : ∀ {d : D} {v : V}, closedD n d = true → Rep K F r d v → Rep K F r' d v
  | .non, _, _, h => h
  | .bl _, _, _, h => h
  | .int _, _, _, h => h
  | .str _, _, _, h => h
  | .lst ds, _, c, h => by
    obtain ⟨a, vs, e, s, q⟩ := h
    exact ⟨a, vs, e, s, Reps.cut hr c q⟩
  | .tup ds, _, c, h => by
    obtain ⟨a, vs, e, s, q⟩ := h
    exact ⟨a, vs, e, s, Reps.cut hr c q⟩
  | .cell i, _, c, h => by
    obtain ⟨a, e, q⟩ := h
    exact ⟨a, e, hr i a (of_decide_eq_true c) q⟩
  | .edct, _, _, h => h
  | .fn _, _, _, h => h
  | .exc _ _ ds, _, c, h => by
    obtain ⟨a, C, us, e, h1, h2, q⟩ := h
    exact ⟨a, C, us, e, h1, h2, Reps.cut hr c q⟩
theorem Reps.cut {n : Nat} (hr : ∀ (i : Nat) (a : Addr), i < n → r[i]? = some a → r'[i]? = some a) : ∀ {ds : List D} {vs : List V}, closedDs n ds = true → Reps K F r ds vs → Reps K F r' ds vs
  | [], _, _, h => h
  | d :: ds, _, c, h => by
    obtain ⟨v, w, e, h1, h2⟩ := h
    have c : (closedD n d && closedDs n ds) = true := c
    rw [Bool.and_eq_true] at c
    exact ⟨v, w, e, Rep.cut hr c.1 h1, Reps.cut hr c.2 h2⟩
end
theorem CellOk.cut {n : Nat} (hr : ∀ (i : Nat) (a : Addr), i < n → r[i]? = some a → r'[i]? = some a) {a : Addr} {c : Cell} (hc : closedC n c = true) (h : CellOk K F r H a c) : CellOk K F r' H a c := by
  cases c with
  | lst ds =>
    obtain ⟨h1, vs, h2, h3⟩ := h
    exact ⟨h1, vs, h2, Reps.cut hr hc h3⟩
  | dk kvs =>
    obtain ⟨h1, vs, h2, h3, h4⟩ := h
    exact ⟨h1, vs, h2, h3, Reps.cut hr hc h4⟩
  | dt kvs =>
    obtain ⟨h1, vs, h2, h3, h4⟩ := h
    exact ⟨h1, vs, h2, h3, Reps.cut hr hc h4⟩
  | fz ds =>
    obtain ⟨vs, h2, h3⟩ := h
    exact ⟨vs, h2, Reps.cut hr hc h3⟩
  | dn kvs =>
    obtain ⟨h1, xs, h2, h3, h4, h5⟩ := h
    exact ⟨h1, xs, h2, h3, Reps.cut hr hc h4, fun x hx => let ⟨d, k1, k2, k3⟩ := h5 x hx; ⟨d, k1, k2, Rep.cut hr (closed_up (Nat.zero_le _) d (keyN_closed d k1)) k3⟩⟩
  | obj c fs =>
    obtain ⟨h1, C, dx, gs, h2, h3, h4, h5⟩ := h
    exact ⟨h1, C, dx, gs, h2, h3, h4, Reps.cut hr hc h5⟩
  | lk kvs =>
    obtain ⟨o, vs, h2, h3, h4⟩ := h
    exact ⟨o, vs, h2, h3, Reps.cut hr hc h4⟩
theorem CellOk.closed {a : Addr} {c : Cell} (h : CellOk K F r H a c) : closedC r.length c = true := by
  cases c with
  | lst ds => obtain ⟨h1, vs, h2, h3⟩ := h; exact h3.closed
  | dk kvs => obtain ⟨h1, vs, h2, h3, h4⟩ := h; exact h4.closed
  | dt kvs => obtain ⟨h1, vs, h2, h3, h4⟩ := h; exact h4.closed
  | fz ds => obtain ⟨vs, h2, h3⟩ := h; exact h3.closed
  | dn kvs => obtain ⟨h1, xs, h2, h3, h4, h5⟩ := h; exact h4.closed
  | obj c fs => obtain ⟨h1, C, dx, gs, h2, h3, h4, h5⟩ := h; exact h5.closed
  | lk kvs => obtain ⟨o, vs, h2, h3, h4⟩ := h; exact h4.closed
/-- some cells alone: the first n, and those in ks -/
theorem Rel.pick {n : Nat} {ks : List Nat} (h : Rel K B F r' H C) (hn : n ≤ C.length) (hf : ∀ (i : Nat) (c : Cell), i < n → C[i]? = some c → closedC n c = true) (hk : ∀ k ∈ ks, n ≤ k ∧ ∃ c, C[k]? = some c ∧ closedC n c = true) (hd : ks.Nodup) :
    Rel K B F (r'.take n ++ ks.map fun k => r'.getD k 0) H (C.take n ++ ks.map fun k => C.getD k (.fz [])) := by
  have hln : (r'.take n).length = n := by rw [List.length_take, h.len]; omega
  have hcn : (C.take n).length = n := by rw [List.length_take]; omega
  have low : ∀ (i : Nat) (a : Addr), i < n → r'[i]? = some a → (r'.take n ++ ks.map fun k => r'.getD k 0)[i]? = some a := fun i a hi e => by
    rw [List.getElem?_append_left (by omega), List.getElem?_take_of_lt hi]
    exact e
  have src : ∀ (i : Nat) (a : Addr), (r'.take n ++ ks.map fun k => r'.getD k 0)[i]? = some a → (i < n ∧ r'[i]? = some a) ∨ ∃ k, ks[i - n]? = some k ∧ n ≤ i ∧ r'[k]? = some a := fun i a e => by
    by_cases hi : i < n
    · rw [List.getElem?_append_left (by omega), List.getElem?_take_of_lt hi] at e
      exact .inl ⟨hi, e⟩
    · rw [List.getElem?_append_right (by omega), hln, List.getElem?_map] at e
      obtain ⟨k, e1, e2⟩ := map_some e
      obtain ⟨_, c, hc, _⟩ := hk k (List.mem_of_getElem? e1)
      have hkl : k < r'.length := by rw [h.len]; exact (List.getElem?_eq_some_iff.mp hc).1
      refine .inr ⟨k, e1, by omega, ?_⟩
      rw [← e2, List.getD_eq_getElem?_getD, List.getElem?_eq_getElem hkl]
      rfl
  refine ⟨h.froz, h.base, h.apart, fun i a e => ?_, by simp [hln, hcn], fun i c a e1 e2 => ?_, fun i j a e1 e2 => ?_⟩
  · rcases src i a e with ⟨_, e⟩ | ⟨k, _, _, e⟩
    · exact h.offB i a e
    · exact h.offB k a e
  · rcases src i a e2 with ⟨hi, e⟩ | ⟨k, hks, hni, e⟩
    · rw [List.getElem?_append_left (by omega), List.getElem?_take_of_lt hi] at e1
      exact CellOk.cut low (hf i c hi e1) (h.cells i c a e1 e)
    · rw [List.getElem?_append_right (by omega), hcn, List.getElem?_map, hks] at e1
      obtain ⟨_, c', hc, hcl⟩ := hk k (List.mem_of_getElem? hks)
      have e1 : C.getD k (.fz []) = c := Option.some.inj e1
      rw [List.getD_eq_getElem?_getD, hc] at e1
      have e1 : c' = c := e1
      subst e1
      exact CellOk.cut low hcl (h.cells k c' a hc e)
  · rcases src i a e1 with ⟨hi, e⟩ | ⟨k, hks, hni, e⟩
    · rcases src j a e2 with ⟨hj, q⟩ | ⟨l, hls, hnj, q⟩
      · exact h.inj i j a e q
      · have := h.inj i l a e q
        have := (hk l (List.mem_of_getElem? hls)).1
        omega
    · rcases src j a e2 with ⟨hj, q⟩ | ⟨l, hls, hnj, q⟩
      · have := h.inj k j a e q
        have := (hk k (List.mem_of_getElem? hks)).1
        omega
      · have ekl := h.inj k l a e q
        subst ekl
        obtain ⟨h1, e1⟩ := List.getElem?_eq_some_iff.mp hks
        obtain ⟨h2, e2⟩ := List.getElem?_eq_some_iff.mp hls
        have := (List.getElem_inj hd).mp (e1.trans e2.symm)
        omega
/-! the cells that a call leaves behind -/
open Classical in
noncomputable def fin (C : Store) (d : D) (C' : Store) : RE :=
  if C.length ≤ C'.length ∧ ∀ (i : Nat), i < C.length → C'[i]? = C[i]? ∨ ∃ c, C'[i]? = some c ∧ closedC C.length c = true then
    match d with
    | .cell k => if k < C.length then .ok (.cell k, C'.take C.length) else match C'[k]? with
      | some c => if closedC C.length c = true then .ok (.cell C.length, C'.take C.length ++ [c]) else .no
      | none => .no
    | .tup [.cell a, .cell b] => match C'[a]?, C'[b]? with
      | some c, some c2 => if C.length ≤ a ∧ C.length ≤ b ∧ a ≠ b ∧ closedC C.length c = true ∧ closedC C.length c2 = true then .ok (.tup [.cell C.length, .cell (C.length + 1)], C'.take C.length ++ [c, c2]) else .no
      | _, _ => .no
    | d => if closedD C.length d = true then .ok (d, C'.take C.length) else .no
  else .no
theorem fin_ok {C' : Store} {H' : Hp} {d : D} {v : V} {Q : VK} (hr : Rel K B F r H C) (e1 : Same F F') (e2 : Ex r r') (hr' : Rel K B F' r' H' C') (hd : Rep K F' r' d v) (o : Out (Rep K) K mg E B F r (fin C d C') Q) : Q v H' := by
  unfold fin at o
  split at o
  case isFalse => exact False.elim o
  rename_i hc
  have hn := hc.1
  have hcl : ∀ (i : Nat) (c : Cell), i < C.length → C'[i]? = some c → closedC C.length c = true := fun i c hi e => by
    rcases hc.2 i hi with q | ⟨c', q, z⟩
    · rw [q] at e
      obtain ⟨a, _, k⟩ := hr.addrAt e
      rw [← hr.len]
      exact k.closed
    · rw [q] at e
      cases e
      exact z
  have hpre : ∀ (i : Nat) (a : Addr), i < C.length → r'[i]? = some a → ∀ t, (r'.take C.length ++ t)[i]? = some a := fun i a hi e t => by
    rw [List.getElem?_append_left (by rw [List.length_take, hr'.len]; omega), List.getElem?_take_of_lt hi]
    exact e
  have hrr : ∀ t, Ex r (r'.take C.length ++ t) := fun t i a e => by
    have hi : i < C.length := by rw [← hr.len]; exact (List.getElem?_eq_some_iff.mp e).1
    exact hpre i a hi (e2 i a e) t
  have gen : ∀ (o : Out (Rep K) K mg E B F r (if closedD C.length d = true then .ok (d, C'.take C.length) else .no) Q), Q v H' := fun o => by
    split at o
    · rename_i hcd
      have p := hr'.pick (n := C.length) (ks := []) hn hcl (fun _ z => nomatch z) .nil
      rw [List.map_nil, List.append_nil, List.map_nil, List.append_nil] at p
      refine o F' (r'.take C.length) H' v e1 (fun i a e => ?_) p (Rep.cut (fun i a hi e => ?_) hcd hd)
      · have := hrr [] i a e
        rwa [List.append_nil] at this
      · have := hpre i a hi e []
        rwa [List.append_nil] at this
    · exact False.elim o
  split at o
  · rename_i k
    split at o
    · rename_i hk
      refine gen ?_
      rw [if_pos (show closedD C.length (.cell k) = true from decide_eq_true hk)]
      exact o
    · rename_i hk
      split at o
      · rename_i c ec
        split at o
        · rename_i hcc
          have p := hr'.pick (n := C.length) (ks := [k]) hn hcl (fun j hj => by cases List.mem_singleton.mp hj; exact ⟨by omega, c, ec, hcc⟩) (by simp)
          obtain ⟨a, rfl, ha⟩ := hd
          have e3 : C'.getD k (.fz []) = c := by rw [List.getD_eq_getElem?_getD, ec]; rfl
          have e4 : r'.getD k 0 = a := by rw [List.getD_eq_getElem?_getD, ha]; rfl
          simp only [List.map_cons, List.map_nil, e3, e4] at p
          refine o F' (r'.take C.length ++ [a]) H' (.ref a) e1 (hrr [a]) p ⟨a, rfl, ?_⟩
          rw [List.getElem?_append_right (by rw [List.length_take]; omega), List.length_take, hr'.len, Nat.min_eq_left hn, Nat.sub_self]
          rfl
        · exact False.elim o
      · exact False.elim o
  · rename_i x y
    split at o
    · rename_i c c2 ec ec2
      split at o
      · rename_i hcc
        obtain ⟨h1, h2, h3, h4, h5⟩ := hcc
        have p := hr'.pick (n := C.length) (ks := [x, y]) hn hcl (fun j hj => by
          rcases List.mem_cons.mp hj with rfl | hj
          · exact ⟨h1, c, ec, h4⟩
          · cases List.mem_singleton.mp hj; exact ⟨h2, c2, ec2, h5⟩) (by simp [h3])
        obtain ⟨t, vs, rfl, hT, v1, w1, rfl, ⟨a, rfl, ha⟩, v2, w2, rfl, ⟨b, rfl, hb⟩, h6⟩ := hd
        cases (show w2 = [] from h6)
        have e3 : C'.getD x (.fz []) = c := by rw [List.getD_eq_getElem?_getD, ec]; rfl
        have e4 : r'.getD x 0 = a := by rw [List.getD_eq_getElem?_getD, ha]; rfl
        have e5 : C'.getD y (.fz []) = c2 := by rw [List.getD_eq_getElem?_getD, ec2]; rfl
        have e6 : r'.getD y 0 = b := by rw [List.getD_eq_getElem?_getD, hb]; rfl
        simp only [List.map_cons, List.map_nil, e3, e4, e5, e6] at p
        refine o F' (r'.take C.length ++ [a, b]) H' (.ref t) e1 (hrr [a, b]) p ⟨t, _, rfl, hT, .cons ⟨a, rfl, ?_⟩ (.one ⟨b, rfl, ?_⟩)⟩
        · rw [List.getElem?_append_right (by rw [List.length_take]; omega), List.length_take, hr'.len, Nat.min_eq_left hn, Nat.sub_self]
          rfl
        · rw [List.getElem?_append_right (by rw [List.length_take]; omega), List.length_take, hr'.len, Nat.min_eq_left hn, Nat.add_sub_cancel_left]
          rfl
      · exact False.elim o
    · exact False.elim o
  · exact gen o
end
/-- a def's body from its arguments -/
noncomputable def runD (n : Nat) (u : MS) : MF := fun ds C => (u (ds.map some ++ List.replicate (n - ds.length) none) C).bind fun p => match p.1.1 with
  | .nx => fin C .non p.2
  | .rt d => fin C d p.2
  | _ => .no
theorem Sls.start {K : PySem.W.Frag} {F : Hp} {r : List Addr} {N : List Str} {ds : List D} {vs : List V} (h : Reps K F r ds vs) : Sls K F r (ds.map some ++ List.replicate (N.length - ds.length) none) (L2.start N vs) := by
  unfold L2.start
  rw [← h.length]
  refine ⟨by simp [h.length], fun i d e => ?_⟩
  by_cases hi : i < ds.length
  · rw [List.getElem?_append_left (by simpa using hi), List.getElem?_map] at e
    obtain ⟨d', e1, e2⟩ := map_some e
    cases e2
    obtain ⟨v, h1, h2⟩ := h.get e1
    refine ⟨v, ?_, h2⟩
    rw [List.getElem?_append_left (by rw [List.length_map, ← h.length]; exact hi), List.getElem?_map, h1]
    rfl
  · rw [List.getElem?_append_right (by rw [List.length_map]; omega)] at e
    rw [List.getElem?_replicate] at e
    split at e
    · cases e
    · cases e
section
variable {P : Program} {w : World} {K : PySem.W.Frag} {mg : Str → Option Value} {base : Heap}
theorem okD {x qual : Str} {st : Stmt} {f : Addr} {fd : FuncData} {N ps : List Str} {k : Nat} {u : MS} (F : Fun K x qual st f fd) (S : FnScope N ps (defScope st))
    (hb : ∀ (cdv : Value) (A : Around) (outer : List Env) (s : Shared) (H : Hp) (E : XK), Room k (A.deeper (envOfC qual (defScope st) s.heap.objs.size f cdv)) → A.guards = some [] →
      NSs (cxOf (L2.CX P w) P w K mg base N qual (defScope st) f cdv A outer s H E) E (defBody st) u) : FnG P w K mg base (k + 1) f fd ps (spN K mg ps.length (runD N.length u)) := by
  refine fnG_of F S spN_len fun cdv A outer s H vs Q E hr hg h => ⟨_, (hb cdv A outer s H E hr hg).ps, ?_⟩
  obtain ⟨B, F, r, C, ds, hr, hd, hl, o⟩ := h
  refine ⟨B, F, r, _, C, hr, Sls.start hd, ?_⟩
  unfold runD at o
  cases hu : u (ds.map some ++ List.replicate (N.length - ds.length) none) C with
  | ok p =>
    obtain ⟨⟨fl, sl'⟩, C'⟩ := p
    rw [hu, R.bind_ok] at o
    intro F' r' H' e1 e2 hr'
    cases fl with
    | nx => exact fun s' _ => fin_ok (d := .non) hr e1 e2 hr' rfl o
    | rt d => exact fun v hv => fin_ok hr e1 e2 hr' hv o
    | bk => exact False.elim o
    | ct => exact False.elim o
  | ex y Cy => rw [hu] at o; exact o
  | no => rw [hu] at o; exact o
end
end Nv

namespace Nv
open PySem PySem.Spec PyProof.Rows L2

/-! the law's end -/
theorem Rel.begin (K : PySem.W.Frag) (H : Hp) : Rel K (fun _ => none) H [] H [] where
  froz := .refl H
  base := fun _ _ z => nomatch z
  apart := fun _ _ z => nomatch z
  offB := fun i a z => by simp at z
  len := rfl
  cells := fun i c a z _ => by simp at z
  inj := fun i j a z _ => by simp at z
theorem law_end {P : Program} {w : World} {K : PySem.W.Frag} {mg mb : Str → Option Value} {k : Nat} {fa a : Addr} {fd : FuncData} {x : Str} {mf : MF} {s₁ : Shared} {vs : List Value} {ns : List Int} {C' : Store}
    (KX : K.In s₁.heap) (hns : s₁.heap.Ns mainGlobals mg) (hb : s₁.heap.Ns builtinsNs mb) (hbb : ∀ x : Str, x ≠ "__name__" → mb x = bootBuiltins x) (hlim : s₁.heap.NoLimit) (hg : s₁.gens = #[])
    (ha : s₁.heap.get? a = some { cls := .type "list", data := .seq vs.toArray }) (hi : IntsAre vs ns) (hl : ns.length ≤ sizeLine) (hr : Room k callerA)
    (F : ∀ base : Heap, K.In base → base.Ns mainGlobals mg → FnG P w K mg base k fa fd [x] (spN K mg 1 mf)) (hbind : ∀ (s : Shared) (u : Value), BindsTo s fd ⟨[u], []⟩ [(x, u)])
    (hm : mf [.lst (ns.map D.int)] [] = .ok (.bl true, C')) :
    codeAny (model P w) callerA (.call (.ref fa) ⟨[.ref a], []⟩) (fun r s' => r = .ok (.ret (.bool true)) ∧ OldK s₁.heap s'.heap ∧ s'.os = s₁.os ∧ AllBare s'.gens) s₁ := by
  have rv := vals_ints hi
  have lenV := hi.length
  have go : ∀ H : Hp, Only H → SqL K H a (ns.map V.int) → HOk P w H s₁.heap → (∀ b, H b ≠ none → b = a) → (H a ≠ none → K.lookup a = none) →
      codeAny (model P w) callerA (.call (.ref fa) ⟨[.ref a], []⟩) (fun r s' => r = .ok (.ret (.bool true)) ∧ OldK s₁.heap s'.heap ∧ s'.os = s₁.os ∧ AllBare s'.gens) s₁ := by
    intro H hO hS hok hA hK
    have only : ∀ {b : Addr} {u : HO}, H b = some u → b = a := fun {b u} q => hA b (by rw [q]; simp)
    have nsK : ∀ {b : Addr} {m : Str → Option Value}, s₁.heap.Ns b m → (hidT s₁.heap H).Ns b m := fun {b m} ⟨o, es, ep, e, d, r⟩ => by
      refine ⟨o, es, ep, hidT_get e ?_, d, r⟩
      cases q : H b with
      | none => rfl
      | some u =>
        cases only q
        rw [ha] at e
        cases e
        have d' : Data.seq vs.toArray _ = Data.dict es ep := d
        cases d'
    have hKb : K.In (hidT s₁.heap H) := fun b o e => by
      refine hidT_get (KX b o e) ?_
      cases q : H b with
      | none => rfl
      | some u =>
        cases only q
        rw [hK (by rw [q]; simp)] at e
        cases e
    have hM : Mod K mg (hidT s₁.heap H) := ⟨hKb, nsK hns, ⟨mb, nsK hb, hbb⟩, let ⟨mc, h1, h2⟩ := hlim; ⟨mc, nsK h1, h2⟩⟩
    have nomem : ∀ {b : Addr}, b ∉ frs [] := fun {b} hb => absurd (show b ∈ ([] : List Addr) from hb) (by simp)
    have e0 : Env0 P w K mg (hidT s₁.heap H) callerA [] s₁ H := ⟨rfl, hM, fun b o e => of_hidT e, Nat.le_of_eq (hidT_size _ _), trivial, fun b hb => (nomem hb).elim, hok, .of_eq hg⟩
    have hsp : spN K mg 1 mf [.ref a] H (fun v _ => v = .bl true) (fun _ _ _ => False) := by
      refine ⟨fun _ => none, H, [], [], [.lst (ns.map D.int)], Rel.begin K H, ⟨.ref a, [], rfl, ⟨a, ns.map V.int, rfl, hS, Reps.ofInts ns⟩, rfl⟩, rfl, ?_⟩
      rw [hm]
      exact fun F' r' H' v _ _ _ hv => hv
    refine codeAny_mono ((F _ hKb (nsK hns)).run callerA [] s₁ H ⟨[.ref a], []⟩ [.ref a] [.ref a] _ _ hr rfl e0 (hbind s₁ (.ref a)) (.cons rfl .nil) hsp) fun r s' h => ?_
    cases r with
    | error e =>
      obtain ⟨_, _, _, _, _, _, _, _, _, _, _, _, z⟩ := (show L2.CX P w [] H s₁ (fun _ _ _ => False) e s' from h)
      exact z.elim
    | ok fl =>
      cases fl with
      | next => exact False.elim h
      | brk => exact False.elim h
      | cont => exact False.elim h
      | ret u =>
        obtain ⟨v, H', os, bare, un, hok', r', q⟩ := h
        cases (show v = .bl true from q)
        cases (show u = Value.bool true from r')
        refine ⟨rfl, OldK.of_keep fun b o e => ?_, os, bare⟩
        cases q : H b with
        | none => exact un.keep b o e q nomem (by simp)
        | some u =>
          rcases hO b with z | ⟨ob, xs, z⟩
          · rw [q] at z; cases z
          · obtain ⟨e1, _⟩ := hok b _ z
            obtain ⟨e2, _⟩ := hok' b _ (un.frzs b ob _ z)
            rw [e] at e1
            cases e1
            exact e2
  cases hk : K.lookup a with
  | some o =>
    have e := KX a o hk
    rw [ha] at e
    cases e
    exact go (fun _ => none) (fun _ => .inl rfl) (.inr ⟨_, vs.toArray, _, hk, rfl, rfl, rfl, by rw [List.size_toArray, lenV]; exact hl, by simpa using rv⟩) (fun b u z => nomatch (show (none : Option HO) = some u from z)) (fun b z => absurd rfl z) fun z => absurd rfl z
  | none =>
    refine go (fun b => if b = a then some (.frz { cls := .type "list", data := .seq vs.toArray } (.lst (ns.map V.int))) else none) (fun b => ?_) (.inl (.inr ⟨{ cls := .type "list", data := .seq vs.toArray }, if_pos rfl⟩)) (fun b u z => ?_) (fun b z => ?_) fun _ => hk
    · by_cases hb : b = a
      · exact .inr ⟨_, _, if_pos hb⟩
      · exact .inl (if_neg hb)
    · by_cases hb : b = a
      · cases (if_pos hb).symm.trans z
        subst hb
        exact ⟨ha, by rw [List.length_map]; exact hl, vs, _, rv, ha⟩
      · cases (if_neg hb).symm.trans z
    · by_cases hb : b = a
      · exact hb
      · exact absurd (if_neg hb) z
theorem walkG {l : PySem.W.OpenLaw} {n k : Nat} {q : Program} {loose : List Str} {XP : (Str → Option Value) → Heap → Prop} {YP : World → Heap → Prop} {d : DefRec} {K : Params → PySem.W.Frag} {mf : MF} {x : Str}
    (hn : l.most = some n) (hn2 : n ≤ sizeLine) (hdf : d.params.defaults = []) (hr : Room k callerA) (hY : ∀ (w : World) (h : Heap), YP w h → (K w.params).In h)
    (F : ∀ (w : World) (mg : Str → Option Value) (fa : Addr) (h : Heap), (K w.params).In h → h.Ns mainGlobals mg → mg d.name = some (.ref fa) →
      ∃ fd : FuncData, (∀ (s : Shared) (u : Value), BindsTo s fd ⟨[u], []⟩ [(x, u)]) ∧ ∀ base : Heap, (K w.params).In base → base.Ns mainGlobals mg → FnG l.prog w (K w.params) mg base k fa fd [x] (spN (K w.params) mg 1 mf))
    (hm : ∀ ns : List Int, ns.length ≤ n → ∃ C', mf [.lst (ns.map D.int)] [] = .ok (.bl true, C')) :
    PySem.W.WalkO q loose XP YP l.row.toRowW d [] (fun f vs => PySem.call f vs) := by
  refine Att.attach_call hn hdf fun w s₀ s₁ mg mb fa o pm cd doc a vs ns G Y ho hd hcd hmg hobj hints hlen hg => ?_
  obtain ⟨fd, hb, hF⟩ := F w mg fa _ (hY w _ Y) G.T.g hmg
  obtain ⟨C', hm⟩ := hm ns hlen
  exact law_end (hY w _ Y) G.T.g G.T.b G.T.builtins G.T.nolimit hg hobj hints (Nat.le_trans hlen hn2) hr hF hb hm

/-! freezing -/
def frzL (f : D → Store → Option (D × Store)) : List D → Store → Option (List D × Store)
  | [], C => some ([], C)
  | d :: ds, C => (f d C).bind fun p => (frzL f ds p.2).bind fun q => some (p.1 :: q.1, q.2)
def frz : Nat → D → Store → Option (D × Store)
  | 0, x, C => some (x, C)
  | n + 1, x, C => match x with
    | .cell k => match C[k]? with
      | some (.lst ds) => (frzL (frz n) ds (C.set k (.fz ds))).bind fun q => some (.lst q.1, q.2)
      | some (.fz ds) => (frzL (frz n) ds C).bind fun q => some (.lst q.1, q.2)
      | _ => none
    | .tup ds => (frzL (frz n) ds C).bind fun q => some (.tup q.1, q.2)
    | .lst ds => (frzL (frz n) ds C).bind fun q => some (.lst q.1, q.2)
    | x => some (x, C)
section
variable {K : PySem.W.Frag} {mg : Str → Option Value} {E : XK} {B F F' H : Hp} {r r' : List Addr} {C : Store} {Q : VK} {X : Cx} {e : Expr} {m : ME}
theorem frzL_ok {f : D → Store → Option (D × Store)} (hf : ∀ (F : Hp) (C C' : Store) (x x' : D) (v : V), Rel K B F r H C → Rep K F r x v → f x C = some (x', C') → ∃ F', Same F F' ∧ Rel K B F' r H C' ∧ Rep K F' r x' v) :
    ∀ (ds ds' : List D) (F : Hp) (C C' : Store) (vs : List V), Rel K B F r H C → Reps K F r ds vs → frzL f ds C = some (ds', C') → ∃ F', Same F F' ∧ Rel K B F' r H C' ∧ Reps K F' r ds' vs
  | [], ds', F, C, C', vs, hr, hd, h => by cases h; exact ⟨F, .refl F, hr, hd⟩
  | d :: ds, ds', F, C, C', vs, hr, hd, h => by
    obtain ⟨v, w, rfl, h1, h2⟩ := hd
    unfold frzL at h
    obtain ⟨⟨d1, C1⟩, k1, h⟩ := bind_some h
    obtain ⟨⟨d2, C2⟩, k2, h⟩ := bind_some h
    cases h
    obtain ⟨F1, q1, q2, q3⟩ := hf F C C1 d d1 v hr h1 k1
    obtain ⟨F2, q4, q5, q6⟩ := frzL_ok hf ds d2 F1 C1 C2 w q2 (h2.mono q1 (.refl _)) k2
    exact ⟨F2, q1.trans q4, q5, .cons (q3.mono q4 (.refl _)) q6⟩
theorem frz_ok : ∀ (n : Nat) (F : Hp) (C C' : Store) (x x' : D) (v : V), Rel K B F r H C → Rep K F r x v → frz n x C = some (x', C') → ∃ F', Same F F' ∧ Rel K B F' r H C' ∧ Rep K F' r x' v
  | 0, F, C, C', x, x', v, hr, hx, h => by cases h; exact ⟨F, .refl F, hr, hx⟩
  | n + 1, F, C, C', x, x', v, hr, hx, h => by
    have ih := frz_ok n
    cases x with
    | cell k =>
      have h : (match C[k]? with
      | some (.lst ds) => (frzL (frz n) ds (C.set k (.fz ds))).bind fun q => some (.lst q.1, q.2)
      | some (.fz ds) => (frzL (frz n) ds C).bind fun q => some (.lst q.1, q.2)
      | _ => none) = some (x', C') := h
      obtain ⟨a, rfl, h1⟩ := hx
      split at h
      · rename_i ds hc
        obtain ⟨⟨ds', C1⟩, k1, h⟩ := bind_some h
        cases h
        obtain ⟨h2, vs, h3, h4⟩ := hr.cells k _ a hc h1
        obtain ⟨q1, q2⟩ := hr.kill h1 h2 h3 h4
        obtain ⟨F', q3, q4, q5⟩ := frzL_ok ih ds ds' _ _ _ vs q1 (h4.mono q2 (.refl _)) k1
        exact ⟨F', q2.trans q3, q4, a, vs, rfl, .inl (.inl (q3 _ _ upd_same)), q5⟩
      · rename_i ds hc
        obtain ⟨⟨ds', C1⟩, k1, h⟩ := bind_some h
        cases h
        obtain ⟨vs, h3, h4⟩ := hr.cells k _ a hc h1
        obtain ⟨F', q3, q4, q5⟩ := frzL_ok ih ds ds' _ _ _ vs hr h4 k1
        exact ⟨F', q3, q4, a, vs, rfl, .inl (.inl (q3 _ _ h3)), q5⟩
      · cases h
    | tup ds =>
      obtain ⟨⟨ds', C1⟩, k1, h⟩ := bind_some (show ((frzL (frz n) ds C).bind fun q => some (.tup q.1, q.2)) = some (x', C') from h)
      cases h
      obtain ⟨a, vs, rfl, h1, h2⟩ := hx
      obtain ⟨F', q3, q4, q5⟩ := frzL_ok ih ds ds' _ _ _ vs hr h2 k1
      exact ⟨F', q3, q4, a, vs, rfl, Same.tup q3 h1, q5⟩
    | lst ds =>
      obtain ⟨⟨ds', C1⟩, k1, h⟩ := bind_some (show ((frzL (frz n) ds C).bind fun q => some (.lst q.1, q.2)) = some (x', C') from h)
      cases h
      obtain ⟨a, vs, rfl, h1, h2⟩ := hx
      obtain ⟨F', q3, q4, q5⟩ := frzL_ok ih ds ds' _ _ _ vs hr h2 k1
      exact ⟨F', q3, q4, a, vs, rfl, Same.seq q3 h1, q5⟩
    | non => cases h; exact ⟨F, .refl F, hr, hx⟩
    | bl b => cases h; exact ⟨F, .refl F, hr, hx⟩
    | int b => cases h; exact ⟨F, .refl F, hr, hx⟩
    | str b => cases h; exact ⟨F, .refl F, hr, hx⟩
    | edct => cases h; exact ⟨F, .refl F, hr, hx⟩
    | fn b => cases h; exact ⟨F, .refl F, hr, hx⟩
    | exc c f b => cases h; exact ⟨F, .refl F, hr, hx⟩
/-- frozen, the cells of the value's making let go -/
noncomputable def mFz (n : Nat) (m : ME) : ME := fun sl C => (m sl C).bind fun p => match frz n p.1 p.2 with
  | some q => fin C q.1 q.2
  | none => .no
theorem ne_fz (n : Nat) (he : NE X E e m) : NE X E e (mFz n m) := ⟨pe_imp he.pe fun s H Q q => by
    obtain ⟨B, F, r, sl, C, hr, hs, o⟩ := q
    refine ⟨B, F, r, sl, C, hr, hs, ?_⟩
    unfold mFz at o
    cases hm : m sl C with
    | ok p =>
      obtain ⟨d, C1⟩ := p
      rw [hm, R.bind_ok] at o
      intro F' r' H' v e1 e2 hr' hd
      simp only at o
      split at o
      · rename_i z hz
        obtain ⟨d2, C2⟩ := z
        obtain ⟨F2, q1, q2, q3⟩ := frz_ok n F' C1 C2 d d2 v hr' hd hz
        exact fin_ok hr (e1.trans q1) e2 q2 q3 o
      · exact False.elim o
    | ex y Cy => rw [hm] at o; exact o
    | no => rw [hm] at o; exact o⟩
end
end Nv

namespace Nv
open PySem PySem.Spec PyProof.Rows L2
section
variable {X : Cx} {E : XK} {a b c e : Expr} {es : List Expr} {m ma mb mc : ME} {mas : MG (List D)} {pos p1 : Pos}
/-- a op b op' c -/
def mCh (g g' : D → D → Store → RE) (ma mb mc : ME) : ME := fun sl C => (ma sl C).bind fun p => (mb sl p.2).bind fun q => (g p.1 q.1 q.2).bind fun t => match t.1 with
  | .bl true => (mc sl t.2).bind fun z => g' q.1 z.1 z.2
  | .bl false => .ok (.bl false, t.2)
  | _ => .no
theorem chain_ok {r1 r2 : R2} {g g' : D → D → Store → RE} (hg : OpN X.K X.mg E r1 g) (hg' : OpN X.K X.mg E r2 g') :
    ∀ s H Q, LG (Rep X.K) X.K X.mg E (mCh g g' ma mb mc) s H Q → tChain r1 r2 (LG (Rep X.K) X.K X.mg E ma) (LG (Rep X.K) X.K X.mg E mb) (LG (Rep X.K) X.K X.mg E mc) s H Q := fun s H Q q => by
  obtain ⟨B, F, r, sl, C, hr, hs, o⟩ := q
  refine ⟨B, F, r, sl, C, hr, hs, Out.bind (P := Rep X.K) o fun x C1 F1 r1 H1 v e1 e2 hr1 hx o1 => ?_⟩
  refine ⟨B, F1, r1, sl, C1, hr1, hs.mono e1 e2, Out.bind (P := Rep X.K) o1 fun y C2 F2 r2' H2 u e3 e4 hr2 hy o2 => ?_⟩
  refine hg B F2 r2' H2 C2 x y v u _ hr2 (hx.mono e3 e4) hy (Out.bind (P := Rep X.K) o2 fun z C3 F3 r3 H3 w e5 e6 hr3 hz o3 => ?_)
  cases z with
  | bl k =>
    refine ⟨k, hz, ?_⟩
    cases k with
    | false =>
      rw [if_neg Bool.false_ne_true]
      exact out_ok (d := .bl false) hr3 rfl o3
    | true =>
      rw [if_pos rfl]
      refine ⟨B, F3, r3, sl, C3, hr3, ((hs.mono e1 e2).mono e3 e4).mono e5 e6, Out.bind (P := Rep X.K) o3 fun t C4 F4 r4 H4 w4 e7 e8 hr4 ht o4 => ?_⟩
      exact hg' B F4 r4 H4 C4 y t u w4 Q hr4 ((hy.mono e5 e6).mono e7 e8) ht o4
  | _ => exact False.elim o3
theorem ne_ch {op op' : CmpOp} {r1 r2 : R2} {g g' : D → D → Store → RE} (ho : OpR X (compareOp op) r1) (ho' : OpR X (compareOp op') r2) (hg : OpN X.K X.mg E r1 g) (hg' : OpN X.K X.mg E r2 g') (ha : NE X E a ma) (hb : NE X E b mb) (hc : NE X E c mc) (hmk : lastMarks [op, op'] [b, c] = false := by with_unfolding_all rfl) :
    NE X E (.Compare a [op, op'] [b, c] pos) (mCh g g' ma mb mc) := ⟨pe_imp (pe_chain ho ho' ha.pe hb.pe hc.pe hmk) (chain_ok hg hg')⟩
/-- a constant of the module -/
def GlobC (mg : Str → Option Value) (K : PySem.W.Frag) (x : Str) (d : D) : Prop := ∃ u v, mg x = some u ∧ RelV v u ∧ ∀ F r, Rep K F r d v
theorem ne_glob {x : Str} {d : D} (h : GlobC X.mg X.K x d) (hg : Gl X x := by rfl) (hd : (x == ("__debug__" : Str)) = false := by decide) : NE X E (.Name x pos) (mC d) := by
  obtain ⟨u, v, h1, h2, h3⟩ := h
  exact ne_c (pe_glob hg h1 h2 hd) h3
end

/-! defs by their names -/
def Cal (P : Program) (w : World) (K : PySem.W.Frag) (mg : Str → Option Value) (base : Heap) (x : Str) (k n : Nat) (mf : MF) : Prop :=
  ∃ f fd ps, FnG P w K mg base k f fd ps (spN K mg n mf) ∧ mg x = some (.ref f) ∧ PySem.W.keepIn K (.ref f) = true ∧ L2.Binds K fd ps []
def DefAt (K : PySem.W.Frag) (mg : Str → Option Value) (x : Str) (st : Stmt) (ps : List Str) : Prop := ∃ f fd, Fun K x x st f fd ∧ mg x = some (.ref f) ∧ L2.Binds K fd ps []
section
variable {P : Program} {w : World} {K : PySem.W.Frag} {mg : Str → Option Value} {base : Heap}
theorem Cal.mono {x : Str} {j k n : Nat} {mf : MF} (h : Cal P w K mg base x j n mf) (hjk : j ≤ k) : Cal P w K mg base x k n mf := by
  obtain ⟨f, fd, ps, h1, h2⟩ := h
  exact ⟨f, fd, ps, h1.mono hjk, h2⟩
theorem Cal.of {x : Str} {st : Stmt} {N ps : List Str} {k : Nat} {u : MS} (h : DefAt K mg x st ps) (S : FnScope N ps (defScope st))
    (hb : ∀ (f : Addr) (cdv : Value) (A : Around) (outer : List Env) (s : Shared) (H : Hp) (E : XK), Room k (A.deeper (envOfC x (defScope st) s.heap.objs.size f cdv)) → A.guards = some [] →
      NSs (cxOf (L2.CX P w) P w K mg base N x (defScope st) f cdv A outer s H E) E (defBody st) u) : Cal P w K mg base x (k + 1) ps.length (runD N.length u) := by
  obtain ⟨f, fd, h1, h2, h3⟩ := h
  exact ⟨f, fd, ps, okD h1 S fun cdv A outer s H E hr hg => hb f cdv A outer s H E hr hg, h2, h1.kp, h3⟩
end
section
variable {X : Cx} {E : XK} {e : Expr} {es : List Expr} {mas : MG (List D)} {pos p1 : Pos}
theorem ne_cal {x : Str} {k n : Nat} {mf : MF} (h : Cal X.prog X.w X.K X.mg X.base x k n mf) (hr : Room k X.A) (hgd : X.A.guards = some []) (hx : Passes (L2.CX X.prog X.w) X E) (ha : NA X E (e :: es) mas) (hg : Gl X x := by rfl)
    (hdb : (x == ("__debug__" : Str)) = false := by decide) (he : starEach (e :: es) X.env = (false, eval e X.env) :: starEach es X.env := by rfl) (hpl : (backTo pos (starEach es X.env)).any (·.1) = false := by rfl) : NE X E (.Call (.Name x p1) (e :: es) [] pos) (mF n mf mas) := by
  obtain ⟨f, fd, ps, h1, h2, h3, h4⟩ := h
  exact ne_call h1 hr hgd h2 h3 h4 hx ha hg hdb he hpl
end
theorem Cal.zero {P : Program} {w : World} {K : PySem.W.Frag} {mg : Str → Option Value} {base : Heap} {x : Str} {st : Stmt} {ps : List Str} {k : Nat} (h : DefAt K mg x st ps) : Cal P w K mg base x k ps.length (fun _ _ => .no) := by
  obtain ⟨f, fd, h1, h2, h3⟩ := h
  exact ⟨f, fd, ps, ⟨spN_len, fun A outer s H args us vs Q E _ _ _ _ _ h => by
    obtain ⟨_, _, _, _, _, _, _, _, o⟩ := h
    exact False.elim o⟩, h2, h1.kp, h3⟩
theorem pass_cx {P : Program} {w : World} {K : PySem.W.Frag} {mg : Str → Option Value} {base : Heap} {N : List Str} {qual : Str} {scope : Scope} {f : Addr} {cd : Value} {A : Around} {outer : List Env} {s : Shared} {H : Hp} {E : XK} :
    Passes (L2.CX P w) (cxOf (L2.CX P w) P w K mg base N qual scope f cd A outer s H E) E := passes_call (takes_of rfl rfl rfl rfl) fun _ _ _ _ h => h
theorem own_cx {P : Program} {w : World} {K : PySem.W.Frag} {mg : Str → Option Value} {base : Heap} {N : List Str} {qual : Str} {scope : Scope} {f : Addr} {cd : Value} {A : Around} {outer : List Env} {s : Shared} {H : Hp} {E : XK} :
    PassesOwn (model P w) (cxOf (L2.CX P w) P w K mg base N qual scope f cd A outer s H E).A (cxOf (L2.CX P w) P w K mg base N qual scope f cd A outer s H E).env (cxOf (L2.CX P w) P w K mg base N qual scope f cd A outer s H E).xe := passes_of (X := cxOf (L2.CX P w) P w K mg base N qual scope f cd A outer s H E) rfl
end Nv

namespace Nv
open PySem PySem.Spec PyProof.Rows L2
/-! the cells that a block made go, and some names with them -/
def slOk (n : Nat) (sl : Sl) : Bool := sl.all fun o => match o with
  | some d => closedD n d
  | none => true
open Classical in
noncomputable def sGc (ks : List Nat) (u : MS) : MS := fun sl C => (u sl C).bind fun p => match p.1.1 with
  | .nx => if C.length ≤ p.2.length ∧ (∀ (i : Nat), i < C.length → p.2[i]? = C[i]? ∨ ∃ c, p.2[i]? = some c ∧ closedC C.length c = true) ∧ slOk C.length (wipeS p.1.2 ks) = true then .ok ((.nx, wipeS p.1.2 ks), p.2.take C.length) else .no
  | .ct => if C.length ≤ p.2.length ∧ (∀ (i : Nat), i < C.length → p.2[i]? = C[i]? ∨ ∃ c, p.2[i]? = some c ∧ closedC C.length c = true) ∧ slOk C.length (wipeS p.1.2 ks) = true then .ok ((.ct, wipeS p.1.2 ks), p.2.take C.length) else .no
  | _ => .ok p
section
variable {K : PySem.W.Frag} {mg : Str → Option Value} {E : XK} {B F F' : Hp} {r r' : List Addr} {H H' : Hp} {C C1 : Store} {De : Ends} {s : L2.St} {sl sl1 : Sl}
theorem wipeS_sub : ∀ (ks : List Nat) (sl : Sl) (i : Nat) (d : D), (wipeS sl ks)[i]? = some (some d) → sl[i]? = some (some d) := by
  intro ks
  induction ks with
  | nil => intro sl i d h; exact h
  | cons k ks ih =>
    intro sl i d h
    unfold wipeS at h
    by_cases hk : k = i
    · subst hk
      rw [List.getElem?_set] at h
      split at h
      · split at h <;> cases h
      · exact ih _ _ _ h
    · rw [List.getElem?_set_ne hk] at h
      exact ih _ _ _ h
theorem wipeS_len : ∀ (ks : List Nat) (sl : Sl), (wipeS sl ks).length = sl.length := by
  intro ks
  induction ks with
  | nil => intro sl; rfl
  | cons k ks ih => intro sl; unfold wipeS; rw [List.length_set, ih]
theorem slOk_get {n : Nat} {sl : Sl} {i : Nat} {d : D} (h : slOk n sl = true) (e : sl[i]? = some (some d)) : closedD n d = true := by
  unfold slOk at h
  rw [List.all_eq_true] at h
  exact h _ (List.mem_of_getElem? e)
theorem gc_core {ks : List Nat} (hr : Rel K B F r H C) (hn : C.length ≤ C1.length) (hc : ∀ (i : Nat), i < C.length → C1[i]? = C[i]? ∨ ∃ c, C1[i]? = some c ∧ closedC C.length c = true) (hsl : slOk C.length (wipeS sl1 ks) = true)
    (e1 : Same F F') (e2 : Ex r r') (hr' : Rel K B F' r' H' C1) : ∃ r2, Ex r r2 ∧ Rel K B F' r2 H' (C1.take C.length) ∧ ∀ s, Sls K F' r' sl1 s → Sls K F' r2 (wipeS sl1 ks) s := by
  have hcl : ∀ (i : Nat) (c : Cell), i < C.length → C1[i]? = some c → closedC C.length c = true := fun i c hi e => by
    rcases hc i hi with q | ⟨c', q, z⟩
    · rw [q] at e
      obtain ⟨a, _, k⟩ := hr.addrAt e
      rw [← hr.len]
      exact k.closed
    · rw [q] at e
      cases e
      exact z
  have p := hr'.pick (n := C.length) (ks := []) hn hcl (fun _ z => nomatch z) .nil
  rw [List.map_nil, List.append_nil, List.map_nil, List.append_nil] at p
  have hcut : ∀ (i : Nat) (a : Addr), i < C.length → r'[i]? = some a → (r'.take C.length)[i]? = some a := fun i a hi e => by
    rw [List.getElem?_take_of_lt hi]
    exact e
  refine ⟨r'.take C.length, fun i a e => ?_, p, fun s hs => ?_⟩
  · have hi : i < C.length := by rw [← hr.len]; exact (List.getElem?_eq_some_iff.mp e).1
    exact hcut i a hi (e2 i a e)
  · refine ⟨by rw [wipeS_len]; exact hs.1, fun i d e => ?_⟩
    obtain ⟨v, h1, h2⟩ := hs.2 i d (wipeS_sub _ _ _ _ e)
    exact ⟨v, h1, Rep.cut hcut (slOk_get hsl e) h2⟩
variable {X : Cx} {st : List Stmt} {u : MS}
theorem nss_gc (ks : List Nat) (h : NSs X E st u) : NSs X E st (sGc ks u) := ⟨pss_imp h.ps fun De s H q => by
    obtain ⟨B, F, r, sl, C, hr, hs, o⟩ := q
    refine ⟨B, F, r, sl, C, hr, hs, ?_⟩
    unfold sGc at o
    cases hu : u sl C with
    | ok p =>
      obtain ⟨⟨f, sl1⟩, C1⟩ := p
      rw [hu, R.bind_ok] at o
      cases f with
      | nx =>
        simp only at o
        split at o
        · rename_i hc
          obtain ⟨h1, h2, h3⟩ := hc
          intro F' r' H' k1 k2 k3 s' hs'
          obtain ⟨r2, g1, g2, g3⟩ := gc_core hr h1 h2 h3 k1 k2 k3
          exact o F' r2 H' k1 g1 g2 s' (g3 s' hs')
        · exact False.elim o
      | ct =>
        simp only at o
        split at o
        · rename_i hc
          obtain ⟨h1, h2, h3⟩ := hc
          intro F' r' H' k1 k2 k3 s' hs'
          obtain ⟨r2, g1, g2, g3⟩ := gc_core hr h1 h2 h3 k1 k2 k3
          exact o F' r2 H' k1 g1 g2 s' (g3 s' hs')
        · exact False.elim o
      | rt d => exact o
      | bk => exact o
    | ex x Cx => rw [hu] at o; exact o
    | no => rw [hu] at o; exact o⟩
end
/-! a def that leaves its cells where they are -/
def runK (n : Nat) (u : MS) : MF := fun ds C => (u (ds.map some ++ List.replicate (n - ds.length) none) C).bind fun p => match p.1.1 with
  | .nx => .ok (.non, p.2)
  | .rt d => .ok (d, p.2)
  | _ => .no
section
variable {P : Program} {w : World} {K : PySem.W.Frag} {mg : Str → Option Value} {base : Heap}
theorem okDK {x qual : Str} {st : Stmt} {f : Addr} {fd : FuncData} {N ps : List Str} {k : Nat} {u : MS} (F : Fun K x qual st f fd) (S : FnScope N ps (defScope st))
    (hb : ∀ (cdv : Value) (A : Around) (outer : List Env) (s : Shared) (H : Hp) (E : XK), Room k (A.deeper (envOfC qual (defScope st) s.heap.objs.size f cdv)) → A.guards = some [] →
      NSs (cxOf (L2.CX P w) P w K mg base N qual (defScope st) f cdv A outer s H E) E (defBody st) u) : FnG P w K mg base (k + 1) f fd ps (spN K mg ps.length (runK N.length u)) := by
  refine fnG_of F S spN_len fun cdv A outer s H vs Q E hr hg h => ⟨_, (hb cdv A outer s H E hr hg).ps, ?_⟩
  obtain ⟨B, F, r, C, ds, hr, hd, hl, o⟩ := h
  refine ⟨B, F, r, _, C, hr, Sls.start hd, ?_⟩
  unfold runK at o
  cases hu : u (ds.map some ++ List.replicate (N.length - ds.length) none) C with
  | ok p =>
    obtain ⟨⟨fl, sl'⟩, C'⟩ := p
    rw [hu, R.bind_ok] at o
    intro F' r' H' e1 e2 hr'
    cases fl with
    | nx => exact fun s' _ => o F' r' H' .non e1 e2 hr' rfl
    | rt d => exact fun v hv => o F' r' H' v e1 e2 hr' hv
    | bk => exact False.elim o
    | ct => exact False.elim o
  | ex y Cy => rw [hu] at o; exact o
  | no => rw [hu] at o; exact o
theorem Cal.ofK {x : Str} {st : Stmt} {N ps : List Str} {k : Nat} {u : MS} (h : DefAt K mg x st ps) (S : FnScope N ps (defScope st))
    (hb : ∀ (f : Addr) (cdv : Value) (A : Around) (outer : List Env) (s : Shared) (H : Hp) (E : XK), Room k (A.deeper (envOfC x (defScope st) s.heap.objs.size f cdv)) → A.guards = some [] →
      NSs (cxOf (L2.CX P w) P w K mg base N x (defScope st) f cdv A outer s H E) E (defBody st) u) : Cal P w K mg base x (k + 1) ps.length (runK N.length u) := by
  obtain ⟨f, fd, h1, h2, h3⟩ := h
  exact ⟨f, fd, ps, okDK h1 S fun cdv A outer s H E hr hg => hb f cdv A outer s H E hr hg, h2, h1.kp, h3⟩
end
end Nv

namespace Nv
open PySem PySem.Spec PyProof.Rows L2
section
variable {K : PySem.W.Frag} {mg : Str → Option Value} {E : XK} {B F H : Hp} {r : List Addr} {C : Store} {Q : VK} {X : Cx} {a b e : Expr} {es : List Expr} {m ma mb mo : ME} {mas : MG (List D)} {pos p1 p2 p3 : Pos}
/-! (a, b, ..) = a list -/
def gLstT (K : PySem.W.Frag) (n : Nat) (t : TGs) : TG := fun v σ H Q => ∃ a xs, v = .ref a ∧ SqL K H a xs ∧ xs.length = n ∧ t xs σ H Q
theorem pg_lst {es : List Expr} {k n : Nat} {t : TGs} (hc : X.calm = true) (h : PGs X es t) (hn : (assignEach es X.env).length = n := by rfl) (hst : (assignEach es X.env).findIdx? (·.1) = none := by rfl) : PG X (.Tuple es k pos) (gLstT X.K n t) :=
  ⟨fun pins s σ H v u Q I r hw => by
    obtain ⟨a, xs, rfl, hq, hl, hw⟩ := hw
    cases r
    obtain ⟨its, rv, p, hz⟩ := I.list hq
    have hlen := rv.length
    rw [assign_Tuple]
    refine wpAny_bind (wpAny_standAt ?_)
    unfold unpack
    rw [hst, show (assignEach es X.env).length = its.toArray.size from by rw [hn, List.size_toArray]; omega]
    refine wpAny_bind (wpAny_holding (PySem.W.kun_itemsOf (I.ok.hd hc) p.isList fun h' hx => ?_))
    have I1 : Inv X pins σ H { s with heap := h' } := I.kept (t' := s.toks) fun b o q => hx b o (Nat.ne_of_lt (Heap.lt_size q)) q
    exact h.run pins _ σ H xs its Q I1 rv hw⟩
/-! (a, b, ..) = a tuple or a list -/
theorem pg_or {tg : Expr} {t t' : TG} (h : PG X tg t) (h' : PG X tg t') : PG X tg (fun v σ H Q => t v σ H Q ∨ t' v σ H Q) := ⟨fun pins s σ H v u Q I r hw => hw.elim (h.run pins s σ H v u Q I r) (h'.run pins s σ H v u Q I r)⟩
def gmSq (n : Nat) (gs : List D → Sl → Store → R (Sl × Store)) : MT := fun d sl C => match tupOf d with
  | some ds => if ds.length = n then gs ds sl C else .no
  | none => match lstOf C d with
    | some ds => if ds.length = n then gs ds sl C else .no
    | none => .no
theorem ng_sq {own : List Nat} {tgs : List Expr} {k n : Nat} {gs : List D → Sl → Store → R (Sl × Store)} (hc : X.calm = true) (h : NGs X E own tgs gs) (hn : (assignEach tgs X.env).length = n := by rfl)
    (hst : (assignEach tgs X.env).findIdx? (·.1) = none := by rfl) : NG X E own (.Tuple tgs k pos) (gmSq n gs) := ⟨pg_imp (pg_or (pg_tup hc h.pg hn hst) (pg_lst hc h.pg hn hst)) fun v s H Q q => by
    obtain ⟨B, F, r, sl, C, d, hr, hs, hd, o⟩ := q
    unfold gmSq at o
    split at o
    · rename_i ds e
      split at o
      · rename_i hl
        obtain ⟨a, vs, rfl, h2, h3⟩ := tupOf_ok hr hd e
        exact .inl ⟨a, vs, rfl, h2, by rw [← h3.length]; exact hl, B, F, r, sl, C, ds, hr, hs, h3, o⟩
      · exact False.elim o
    · split at o
      · rename_i ds e
        split at o
        · rename_i hl
          obtain ⟨a, vs, rfl, h2, h3⟩ := lstOf_ok hr hd e
          exact .inr ⟨a, vs, rfl, h2, by rw [← h3.length]; exact hl, B, F, r, sl, C, ds, hr, hs, h3, o⟩
        · exact False.elim o
      · exact False.elim o⟩
/-! a constant of the module that is a tuple -/
theorem gc_tup {x : Str} {a : Addr} {od : Option Addr} {its : Array Value} {n : Nat} {osl : Array (Option Value)} {ds : List D} {vs : List V} (hm : mg x = some (.ref a)) (l : K.lookup a = some ⟨.type "tuple", od, .seq its n, osl⟩)
    (hz : its.size ≤ sizeLine) (hv : Vals vs its.toList) (hr : ∀ (F : Hp) (r : List Addr), Reps K F r ds vs) : GlobC mg K x (.tup ds) :=
  ⟨.ref a, .ref a, hm, rfl, fun F r => ⟨a, vs, rfl, .inr ⟨_, its, n, l, rfl, rfl, hz, hv⟩, hr F r⟩⟩
end
end Nv

namespace Nv
open PySem PySem.Spec PyProof.Rows L2
section
variable {K : PySem.W.Frag} {mg : Str → Option Value} {E : XK} {B F H : Hp} {r : List Addr} {C : Store} {Q : VK} {X : Cx} {a b e o value : Expr} {es : List Expr} {m ma mb mo mv : ME} {mas : MG (List D)} {pos p1 p2 p3 : Pos}
/-! dicts whose keys are tuples of whole numbers and texts, asked by a tuple that is written there -/
def keyOf : D → Option Key
  | .int i => some (.inl i)
  | .str x => some (.inr x)
  | _ => none
def keysOf : List D → Option (List Key)
  | [] => some []
  | d :: ds => (keyOf d).bind fun k => (keysOf ds).map (k :: ·)
theorem keyOf_ok {d : D} {v : V} {k : Key} (h : Rep K F r d v) (e : keyOf d = some k) : v = kV k := by
  cases d with
  | int i => cases e; exact h
  | str x => cases e; exact h
  | _ => cases e
theorem keysOf_ok : ∀ {ds : List D} {vs : List V} {ks : List Key}, Reps K F r ds vs → keysOf ds = some ks → vs = ks.map kV
  | [], _, _, h, e => by
    cases e
    exact h
  | d :: ds, _, _, h, e => by
    obtain ⟨v, w, rfl, h1, h2⟩ := h
    unfold keysOf at e
    cases ek : keyOf d with
    | none => rw [ek] at e; cases e
    | some k =>
      rw [ek, Option.bind_some] at e
      cases er : keysOf ds with
      | none => rw [er] at e; cases e
      | some ks =>
        rw [er] at e
        cases e
        rw [keyOf_ok h1 ek, keysOf_ok h2 er]
        rfl
section
variable {κ : Type} [DecidableEq κ]
def valD (kvs : List (κ × D)) (k : κ) : Option D := (kvs.find? fun kv => decide (kv.1 = k)).map (·.2)
def putD (kvs : List (κ × D)) (k : κ) (v : D) : List (κ × D) :=
  if (kvs.any fun kv => decide (kv.1 = k)) = true then kvs.map (fun kv => if kv.1 = k then (kv.1, v) else kv) else kvs ++ [(k, v)]
theorem val_ok {k : κ} : ∀ {kvs : List (κ × D)} {ws : List (κ × V)}, kvs.map (·.1) = ws.map (·.1) → Reps K F r (kvs.map (·.2)) (ws.map (·.2)) → ∀ {d : D}, valD kvs k = some d → ∃ v, valV ws k = some v ∧ Rep K F r d v
  | [], _, _, _, d, e => by cases e
  | kv :: kvs, [], h, _, _, _ => by cases h
  | kv :: kvs, w :: ws, h, hr, d, e => by
    obtain ⟨v, vs, e1, h1, h2⟩ := hr
    rw [List.map_cons, List.cons.injEq] at e1
    rw [List.map_cons, List.map_cons, List.cons.injEq] at h
    unfold valD valV at *
    rw [List.find?_cons] at e ⊢
    by_cases hk : kv.1 = k
    · rw [decide_eq_true hk] at e
      rw [decide_eq_true (h.1.symm.trans hk)]
      cases e
      exact ⟨w.2, rfl, by rw [e1.1]; exact h1⟩
    · rw [decide_eq_false hk] at e
      rw [decide_eq_false (fun q => hk (h.1.trans q))]
      exact val_ok h.2 (by rw [e1.2]; exact h2) e
theorem putD_keys {k : κ} {d : D} {v : V} {kvs : List (κ × D)} {ws : List (κ × V)} (h : kvs.map (·.1) = ws.map (·.1)) : (putD kvs k d).map (·.1) = (putK ws k v).map (·.1) := by
  have ha : (kvs.any fun kv => decide (kv.1 = k)) = (ws.any fun kv => decide (kv.1 = k)) := by
    rw [show (kvs.any fun kv => decide (kv.1 = k)) = (kvs.map (·.1)).any fun q => decide (q = k) from by rw [List.any_map]; rfl,
      show (ws.any fun kv => decide (kv.1 = k)) = (ws.map (·.1)).any fun q => decide (q = k) from by rw [List.any_map]; rfl, h]
  unfold putD putK
  rw [ha]
  split
  · rw [List.map_map, List.map_map]
    have e1 : ((·.1) ∘ fun kv : κ × D => if kv.1 = k then (kv.1, d) else kv) = (·.1) := funext fun kv => by
      show (if kv.1 = k then (kv.1, d) else kv).1 = kv.1
      split <;> rfl
    have e2 : ((·.1) ∘ fun kv : κ × V => if kv.1 = k then (kv.1, v) else kv) = (·.1) := funext fun kv => by
      show (if kv.1 = k then (kv.1, v) else kv).1 = kv.1
      split <;> rfl
    rw [e1, e2, h]
  · rw [List.map_append, List.map_append, h]
    rfl
theorem put_map {k : κ} {d : D} {v : V} (hd : Rep K F r d v) : ∀ {kvs : List (κ × D)} {ws : List (κ × V)}, kvs.map (·.1) = ws.map (·.1) → Reps K F r (kvs.map (·.2)) (ws.map (·.2)) →
    Reps K F r ((kvs.map fun kv => if kv.1 = k then (kv.1, d) else kv).map (·.2)) ((ws.map fun kv => if kv.1 = k then (kv.1, v) else kv).map (·.2))
  | [], [], _, _ => rfl
  | [], _ :: _, h, _ => by cases h
  | kv :: kvs, [], h, _ => by cases h
  | kv :: kvs, w :: ws, h, hr => by
    obtain ⟨x, xs, e1, h1, h2⟩ := hr
    rw [List.map_cons, List.cons.injEq] at e1
    rw [List.map_cons, List.map_cons, List.cons.injEq] at h
    refine ⟨(if w.1 = k then (w.1, v) else w).2, _, rfl, ?_, put_map hd h.2 (by rw [e1.2]; exact h2)⟩
    show Rep K F r (if kv.1 = k then (kv.1, d) else kv).2 (if w.1 = k then (w.1, v) else w).2
    by_cases hk : kv.1 = k
    · rw [if_pos hk, if_pos (h.1.symm.trans hk)]
      exact hd
    · rw [if_neg hk, if_neg (fun q => hk (h.1.trans q))]
      show Rep K F r kv.2 w.2
      rw [e1.1]
      exact h1
theorem putD_reps {k : κ} {d : D} {v : V} {kvs : List (κ × D)} {ws : List (κ × V)} (h : kvs.map (·.1) = ws.map (·.1)) (hr : Reps K F r (kvs.map (·.2)) (ws.map (·.2))) (hd : Rep K F r d v) :
    Reps K F r ((putD kvs k d).map (·.2)) ((putK ws k v).map (·.2)) := by
  have ha : (kvs.any fun kv => decide (kv.1 = k)) = (ws.any fun kv => decide (kv.1 = k)) := by
    rw [show (kvs.any fun kv => decide (kv.1 = k)) = (kvs.map (·.1)).any fun q => decide (q = k) from by rw [List.any_map]; rfl,
      show (ws.any fun kv => decide (kv.1 = k)) = (ws.map (·.1)).any fun q => decide (q = k) from by rw [List.any_map]; rfl, h]
  unfold putD putK
  rw [ha]
  split
  · exact put_map hd h hr
  · rw [List.map_append, List.map_append]
    exact hr.append ⟨v, [], rfl, hd, rfl⟩
end
/-- {} that will have tuples for keys -/
def mDNewT : ME := fun _ C => .ok (.cell C.length, C ++ [.dt []])
theorem ne_dnewT : NE X E (.Dict [] [] pos) mDNewT := ⟨pe_imp pe_dnewT fun s H Q q => by
    obtain ⟨B, F, r, sl, C, hr, hs, o⟩ := q
    intro p hp
    refine o F (r ++ [p]) _ _ (.refl _) (Ex.app r _) (hr.alloc hp ⟨hr.freeF hp, [], upd_same, rfl, rfl⟩) ⟨p, rfl, ?_⟩
    rw [← hr.len, List.getElem?_append_right (Nat.le_refl _)]
    simp⟩
def dtAt (C : Store) : D → Option (Nat × List (List Key × D))
  | .cell i => match C[i]? with
    | some (.dt kvs) => some (i, kvs)
    | _ => none
  | _ => none
theorem dtAt_ok {x : D} {v : V} {i : Nat} {kvs : List (List Key × D)} (hr : Rel K B F r H C) (hx : Rep K F r x v) (e : dtAt C x = some (i, kvs)) :
    ∃ a ws, v = .ref a ∧ r[i]? = some a ∧ F a = none ∧ H a = some (.dT ws) ∧ kvs.map (·.1) = ws.map (·.1) ∧ Reps K F r (kvs.map (·.2)) (ws.map (·.2)) := by
  unfold dtAt at e
  split at e
  · rename_i j
    split at e
    · rename_i ks ec
      cases e
      obtain ⟨a, rfl, ha⟩ := hx
      have hc := hr.cells _ _ a ec ha
      obtain ⟨h1, ws, h2, h3, h4⟩ := hc
      exact ⟨a, ws, rfl, ha, h1, h2, h3, h4⟩
    · cases e
  · cases e
/-- d[x, y] -/
def mDGetT (mo : ME) (mas : MG (List D)) : ME := fun sl C => (mo sl C).bind fun p => (mas sl p.2).bind fun q => match dtAt q.2 p.1, keysOf q.1 with
  | some (_, kvs), some ks => match valD kvs ks with
    | some d => if q.1.length ≤ sizeLine then .ok (d, q.2) else .no
    | none => .no
  | _, _ => .no
theorem ne_dgetT {x1 : Nat} (hu : X.A.units + 64 < cLine) (ho : NE X E o mo) (ha : NA X E es mas) (hs : NoSl (.Tuple es x1 p1) := by intro _ _; rfl) : NE X E (.Subscript o (.Tuple es x1 p1) pos) (mDGetT mo mas) :=
  ⟨pe_imp (pe_dget (show X.A.units + 1 < cLine by omega) ho.pe (pe_tup ha.pa) hs) fun s H Q q => by
    obtain ⟨B, F, r, sl, C, hr, hs, o⟩ := q
    refine ⟨B, F, r, sl, C, hr, hs, Out.bind (P := Rep X.K) o fun x C1 F1 r1 H1 v e1 e2 hr1 hx o1 => ?_⟩
    refine ⟨B, F1, r1, sl, C1, hr1, hs.mono e1 e2, Out.bind (P := Reps X.K) o1 fun y C2 F2 r2 H2 u e3 e4 hr2 hy o2 => ?_⟩
    have hx2 := hx.mono e3 e4
    simp only at o2
    split at o2
    · rename_i i kvs ks ed ek
      split at o2
      · rename_i d ev
        split at o2
        · rename_i hl
          obtain ⟨a, ws, rfl, h1, h2, h3, h4, h5⟩ := dtAt_ok hr2 hx2 ed
          obtain ⟨w, g1, g2⟩ := val_ok h4 h5 ev
          refine ⟨by rw [← hy.length]; exact hl, fun p hp => ⟨a, w, rfl, ?_, out_ok (hr2.junk hp) g2 o2⟩⟩
          have hap : a ≠ p := ne_of_none h3 hp
          rw [← g1]
          exact DGet.t (by rw [upd_ne hap]; exact h3) (by rw [upd_same, keysOf_ok hy ek])
        · exact False.elim o2
      · exact False.elim o2
    · exact False.elim o2⟩
/-- d[x, y] = v -/
def sDPutT (mv mo : ME) (mas : MG (List D)) : MS := fun sl C => (mv sl C).bind fun t => (mo sl t.2).bind fun p => (mas sl p.2).bind fun q => match dtAt q.2 p.1, keysOf q.1 with
  | some (i, kvs), some ks => if q.1.length ≤ sizeLine ∧ kvs.length < sizeLine then .ok ((.nx, sl), q.2.set i (.dt (putD kvs ks t.1))) else .no
  | _, _ => .no
theorem ns_dputT {x1 : Nat} (hu : X.A.units + 64 < cLine) (hv : NE X E value mv) (ho : NE X E o mo) (ha : NA X E es mas) (hs : swapsWith value (some (.Subscript o (.Tuple es x1 p1) p2)) pos.line X.env = pure false := by rfl) :
    NS X E (.Assign [.Subscript o (.Tuple es x1 p1) p2] value pos) (sDPutT mv mo mas) :=
  ⟨ps_imp (ps_dput (show X.A.units + 1 < cLine by omega) ho.pe (pe_tup ha.pa) hv.pe hs) fun De s H q => by
    obtain ⟨B, F, r, sl, C, hr, hs, o⟩ := q
    refine ⟨B, F, r, sl, C, hr, hs, OutS.bind (P := Rep X.K) o fun d C0 F0 r0 H0 z k1 k2 hr0 hd o0 => ?_⟩
    refine ⟨B, F0, r0, sl, C0, hr0, hs.mono k1 k2, OutS.bind (P := Rep X.K) o0 fun x C1 F1 r1 H1 v e1 e2 hr1 hx o1 => ?_⟩
    refine ⟨B, F1, r1, sl, C1, hr1, (hs.mono k1 k2).mono e1 e2, OutS.bind (P := Reps X.K) o1 fun y C2 F2 r2 H2 u e3 e4 hr2 hy o2 => ?_⟩
    have hx2 := hx.mono e3 e4
    have hd2 := (hd.mono e1 e2).mono e3 e4
    simp only at o2
    split at o2
    · rename_i i kvs ks ed ek
      split at o2
      · rename_i hl
        obtain ⟨a, ws, rfl, h1, h2, h3, h4, h5⟩ := dtAt_ok hr2 hx2 ed
        refine ⟨by rw [← hy.length]; exact hl.1, fun p hp => ⟨a, _, rfl, DPut.t (kvs := ws) (k := ks) ?_ ?_ ?_, ?_⟩⟩
        · rw [upd_ne (ne_of_none h3 hp)]; exact h3
        · rw [upd_same, keysOf_ok hy ek]
        · have := congrArg List.length h4
          rw [List.length_map, List.length_map] at this
          omega
        · refine OutS.next o2 ((hr2.junk hp).write h1 h2 ⟨h2, _, upd_same, putD_keys h4, putD_reps h4 h5 hd2⟩) (((hs.mono k1 k2).mono e1 e2).mono e3 e4)
      · exact False.elim o2
    · exact False.elim o2⟩
/-- len(d) -/
def gLenT (x : D) (C : Store) : RE := match dtAt C x with
  | some (_, kvs) => .ok (.int kvs.length, C)
  | none => .no
theorem lenTN : CallN K mg E rLenT (on1 gLenT) := on1N fun B F r H C x v Q hr hx o => by
  unfold gLenT at o
  split at o
  · rename_i i kvs e
    obtain ⟨a, ws, rfl, h1, h2, h3, h4, h5⟩ := dtAt_ok hr hx e
    refine ⟨a, ws, rfl, h3, ?_⟩
    have := congrArg List.length h4
    rw [List.length_map, List.length_map] at this
    rw [← this]
    exact out_ok (d := .int kvs.length) hr rfl o
  · exact False.elim o
end
end Nv

namespace Nv
open PySem PySem.Spec PyProof.Rows L2
theorem lstAt_lst {C : Store} {k : Nat} {ds : List D} (h : C[k]? = some (.lst ds)) : lstAt C k = some ds := by unfold lstAt; rw [h]
theorem mutAt_lst {C : Store} {k : Nat} {ds : List D} (h : C[k]? = some (.lst ds)) : mutAt C k = some ds := by unfold mutAt; rw [h]
theorem get_set_self {C : Store} {k : Nat} {c d : Cell} (h : C[k]? = some c) : (C.set k d)[k]? = some d := List.getElem?_set_self (List.getElem?_eq_some_iff.mp h).1
/-- all cells but k stay -/
def Upd (k : Nat) (C C' : Store) : Prop := C'.length = C.length ∧ ∀ i, i ≠ k → C'[i]? = C[i]?
theorem Upd.refl (k : Nat) (C : Store) : Upd k C C := ⟨rfl, fun _ _ => rfl⟩
theorem Upd.trans {k : Nat} {C C1 C2 : Store} (a : Upd k C C1) (b : Upd k C1 C2) : Upd k C C2 := ⟨b.1.trans a.1, fun i hi => (b.2 i hi).trans (a.2 i hi)⟩
theorem Upd.set (k : Nat) (C : Store) (c : Cell) : Upd k C (C.set k c) := ⟨by simp, fun i hi => List.getElem?_set_ne (Ne.symm hi)⟩
/-! fin -/
theorem closedD_mono {n m : Nat} (h : n ≤ m) (d : D) : closedD n d = true → closedD m d = true := closed_up h d
theorem closedDs_mono {n m : Nat} (h : n ≤ m) (ds : List D) : closedDs n ds = true → closedDs m ds = true := closeds_up h ds
@[simp] theorem closedDs_ints (n : Nat) : ∀ l : List Int, closedDs n (l.map D.int) = true
  | [] => rfl
  | x :: l => by simp [closedDs, closedD, closedDs_ints n l]
@[simp] theorem closedDs_strs (n : Nat) : ∀ l : List Str, closedDs n (l.map D.str) = true
  | [] => rfl
  | x :: l => by simp [closedDs, closedD, closedDs_strs n l]
@[simp] theorem closedDs_bls (n : Nat) : ∀ l : List Bool, closedDs n (l.map D.bl) = true
  | [] => rfl
  | x :: l => by simp [closedDs, closedD, closedDs_bls n l]
theorem fin_cond {C C' : Store} {k : Nat} {c : Cell} (u : Upd k C C') (hk : C'[k]? = some c ∧ closedC C.length c = true ∨ C.length ≤ k) : C.length ≤ C'.length ∧ ∀ (i : Nat), i < C.length → C'[i]? = C[i]? ∨ ∃ c, C'[i]? = some c ∧ closedC C.length c = true :=
  ⟨by rw [u.1]; exact Nat.le_refl _, fun i hi => by
    by_cases h : i = k
    · subst h
      rcases hk with hk | hk
      · exact .inr ⟨c, hk⟩
      · omega
    · exact .inl (u.2 i h)⟩
def flatR : D → Bool
  | .cell _ => false
  | .tup _ => false
  | _ => true
/-- a value that is no cell -/
theorem fin_val {C C' : Store} {d : D} (hc : C.length ≤ C'.length ∧ ∀ (i : Nat), i < C.length → C'[i]? = C[i]? ∨ ∃ c, C'[i]? = some c ∧ closedC C.length c = true) (hf : flatR d = true) (hd : closedD C.length d = true) :
    fin C d C' = .ok (d, C'.take C.length) := by
  unfold fin
  rw [if_pos hc]
  cases d with
  | cell k => cases hf
  | tup ds => cases hf
  | _ => simp only [hd, if_true]
theorem same_cond (C X : Store) : C.length ≤ (C ++ X).length ∧ ∀ (i : Nat), i < C.length → (C ++ X)[i]? = C[i]? ∨ ∃ c, (C ++ X)[i]? = some c ∧ closedC C.length c = true :=
  ⟨by simp, fun i hi => .inl (List.getElem?_append_left hi)⟩
theorem fin_pure {C : Store} (X : Store) {d : D} (hf : flatR d = true) (hd : closedD 0 d = true) : fin C d (C ++ X) = .ok (d, C) := by
  rw [fin_val (same_cond C X) hf (closedD_mono (Nat.zero_le _) d hd), List.take_left']
  rfl
theorem fin_pure0 {C : Store} {d : D} (hf : flatR d = true) (hd : closedD 0 d = true) : fin C d C = .ok (d, C) := by
  have := fin_pure (C := C) [] hf hd
  rwa [List.append_nil] at this
/-- the cell that comes at C's end -/
theorem fin_cell {C : Store} {X Y : Store} {c : Cell} (hc : closedC 0 c = true) : fin C (.cell (C.length + X.length)) (C ++ X ++ c :: Y) = .ok (.cell C.length, C ++ [c]) := by
  have hcl : closedC C.length c = true := by
    cases c with
    | lst ds => exact closedDs_mono (Nat.zero_le _) ds hc
    | dk ds => exact closedDs_mono (Nat.zero_le _) _ hc
    | dt ds => exact closedDs_mono (Nat.zero_le _) _ hc
    | fz ds => exact closedDs_mono (Nat.zero_le _) ds hc
    | dn ds => exact closedDs_mono (Nat.zero_le _) _ hc
    | obj c ds => exact closedDs_mono (Nat.zero_le _) _ hc
    | lk ds => exact closedDs_mono (Nat.zero_le _) _ hc
  have e : C ++ X ++ c :: Y = C ++ (X ++ c :: Y) := by simp
  unfold fin
  rw [e, if_pos (same_cond C _)]
  have e2 : (C ++ (X ++ c :: Y))[C.length + X.length]? = some c := by
    rw [List.getElem?_append_right (by omega), List.getElem?_append_right (by omega)]
    simp
  simp only [e2, hcl, if_true]
  rw [if_neg (by omega), List.take_left']
  rfl
theorem fin_cell0 {C : Store} {c : Cell} (hc : closedC 0 c = true) : fin C (.cell C.length) (C ++ [c]) = .ok (.cell C.length, C ++ [c]) := by
  have := fin_cell (C := C) (X := []) (Y := []) hc
  simpa using this
/-! frozen results -/
theorem frzL_id {f : D → Store → Option (D × Store)} (C : Store) : ∀ ds : List D, (∀ d ∈ ds, f d C = some (d, C)) → frzL f ds C = some (ds, C)
  | [], _ => rfl
  | d :: ds, h => by
    unfold frzL
    rw [h d List.mem_cons_self, Option.bind_some, frzL_id C ds fun x hx => h x (List.mem_cons_of_mem _ hx)]
    rfl
theorem closed_mem {n : Nat} : ∀ {ds : List D} {d : D}, closedDs n ds = true → d ∈ ds → closedD n d = true
  | x :: ds, d, h, hm => by
    unfold closedDs at h
    rw [Bool.and_eq_true] at h
    rcases List.mem_cons.mp hm with rfl | hm
    · exact h.1
    · exact closed_mem h.2 hm
theorem frz_id : ∀ (n : Nat) (C : Store) (d : D), closedD 0 d = true → frz n d C = some (d, C)
  | 0, _, _, _ => rfl
  | n + 1, C, d, h => by
    cases d with
    | cell k => simp [closedD] at h
    | tup ds =>
      show (frzL (frz n) ds C).bind _ = _
      rw [frzL_id C ds fun x hx => frz_id n C x (closed_mem h hx)]
      rfl
    | lst ds =>
      show (frzL (frz n) ds C).bind _ = _
      rw [frzL_id C ds fun x hx => frz_id n C x (closed_mem h hx)]
      rfl
    | _ => rfl
end Nv

namespace Nv
open PySem PySem.Spec PyProof.Rows L2
/-! what holds of a mirror's end -/
def W {S : Type} (o : R (S × Store)) (Q : S → Store → Prop) : Prop := ∃ a C, o = .ok (a, C) ∧ Q a C
def WS (o : RS) (Q : Fl → Sl → Store → Prop) : Prop := ∃ f sl C, o = .ok ((f, sl), C) ∧ Q f sl C
section
variable {S S2 : Type} {Q : S → Store → Prop} {QD : D → Store → Prop} {QB : Bool → Store → Prop} {QL : List D → Store → Prop} {QS : Fl → Sl → Store → Prop} {sl : Sl} {C C1 C2 : Store} {m ma mb mc : ME} {t ta tb : MG Bool} {mas : MG (List D)} {u u1 u2 : MS}
theorem W.ok {a : S} (h : Q a C) : W (.ok (a, C)) Q := ⟨a, C, rfl, h⟩
theorem W.of {o : R (S × Store)} {a : S} (e : o = .ok (a, C)) (h : Q a C) : W o Q := ⟨a, C, e, h⟩
theorem W.imp {o : R (S × Store)} {Q' : S → Store → Prop} (h : W o Q) (hq : ∀ a C, Q a C → Q' a C) : W o Q' := by
  obtain ⟨a, C, e, q⟩ := h
  exact ⟨a, C, e, hq a C q⟩
theorem W.bind {o : R (S2 × Store)} {k : S2 × Store → R (S × Store)} (h : W o fun a C => W (k (a, C)) Q) : W (o.bind k) Q := by
  obtain ⟨a, C, e, b, C', e', q⟩ := h
  exact ⟨b, C', by rw [e]; exact e', q⟩
theorem W.bindS {o : R (S2 × Store)} {k : S2 × Store → RS} (h : W o fun a C => WS (k (a, C)) QS) : WS (o.bind k) QS := by
  obtain ⟨a, C, e, f, sl, C', e', q⟩ := h
  exact ⟨f, sl, C', by rw [e]; exact e', q⟩
theorem WS.bindS {o : RS} {k : (Fl × Sl) × Store → RS} (h : WS o fun f sl C => WS (k ((f, sl), C)) QS) : WS (o.bind k) QS := by
  obtain ⟨f, sl, C, e, g, sl', C', e', q⟩ := h
  exact ⟨g, sl', C', by rw [e]; exact e', q⟩
theorem WS.bind {o : RS} {k : (Fl × Sl) × Store → R (S × Store)} (h : WS o fun f sl C => W (k ((f, sl), C)) Q) : W (o.bind k) Q := by
  obtain ⟨f, sl, C, e, b, C', e', q⟩ := h
  exact ⟨b, C', by rw [e]; exact e', q⟩
theorem WS.ok {f : Fl} (h : QS f sl C) : WS (.ok ((f, sl), C)) QS := ⟨f, sl, C, rfl, h⟩
theorem WS.imp {o : RS} {Q' : Fl → Sl → Store → Prop} (h : WS o QS) (hq : ∀ f sl C, QS f sl C → Q' f sl C) : WS o Q' := by
  obtain ⟨f, sl, C, e, q⟩ := h
  exact ⟨f, sl, C, e, hq f sl C q⟩
/-! expressions -/
theorem w_var {i : Nat} {d : D} (e : sl[i]? = some (some d)) (h : QD d C) : W (mVar i sl C) QD := ⟨d, C, by unfold mVar; rw [e], h⟩
theorem w_c {d : D} (h : QD d C) : W (mC d sl C) QD := ⟨d, C, rfl, h⟩
theorem w_2 {g : D → D → Store → RE} (h : W (ma sl C) fun x C1 => W (mb sl C1) fun y C2 => W (g x y C2) QD) : W (m2 g ma mb sl C) QD := W.bind (h.imp fun _ _ h => W.bind h)
theorem w_1 {g : D → Store → RE} (h : W (ma sl C) fun x C1 => W (g x C1) QD) : W (m1 g ma sl C) QD := W.bind h
theorem w_T (h : W (m sl C) fun x C1 => ∃ b, x = .bl b ∧ QB b C1) : W (mT m sl C) QB := W.bind (h.imp fun x C h => by
  obtain ⟨b, rfl, q⟩ := h
  exact W.ok q)
theorem w_tAnd (h : W (ta sl C) fun b C1 => if b = true then W (tb sl C1) QB else QB false C1) : W (tAndM ta tb sl C) QB := W.bind (h.imp fun b C h => by
  cases b with
  | true => exact h
  | false => exact W.ok h)
theorem w_tOr (h : W (ta sl C) fun b C1 => if b = true then QB true C1 else W (tb sl C1) QB) : W (tOrM ta tb sl C) QB := W.bind (h.imp fun b C h => by
  cases b with
  | false => exact h
  | true => exact W.ok h)
theorem w_tNot (h : W (ta sl C) fun b C1 => QB (!b) C1) : W (tNotM ta sl C) QB := W.bind (h.imp fun b C h => W.ok h)
theorem w_and (h : W (ma sl C) fun x C1 => ∃ b, x = .bl b ∧ if b = true then W (mb sl C1) QD else QD (.bl false) C1) : W (mAnd ma mb sl C) QD := W.bind (h.imp fun x C h => by
  obtain ⟨b, rfl, h⟩ := h
  cases b with
  | true => exact h
  | false => exact W.ok h)
theorem w_or (h : W (ma sl C) fun x C1 => ∃ b, x = .bl b ∧ if b = true then QD (.bl true) C1 else W (mb sl C1) QD) : W (mOr ma mb sl C) QD := W.bind (h.imp fun x C h => by
  obtain ⟨b, rfl, h⟩ := h
  cases b with
  | false => exact h
  | true => exact W.ok h)
theorem w_not (h : W (ma sl C) fun x C1 => ∃ b, x = .bl b ∧ QD (.bl (!b)) C1) : W (mNot ma sl C) QD := W.bind (h.imp fun x C h => by
  obtain ⟨b, rfl, h⟩ := h
  exact W.ok h)
theorem w_if (h : W (t sl C) fun b C1 => if b = true then W (ma sl C1) QD else W (mb sl C1) QD) : W (mIf t ma mb sl C) QD := W.bind (h.imp fun b C h => by
  cases b with
  | true => exact h
  | false => exact h)
theorem w_ch {g g' : D → D → Store → RE} (h : W (ma sl C) fun x C1 => W (mb sl C1) fun y C2 => W (g x y C2) fun z C3 => ∃ b, z = .bl b ∧ if b = true then W (mc sl C3) fun w C4 => W (g' y w C4) QD else QD (.bl false) C3) : W (mCh g g' ma mb mc sl C) QD :=
  W.bind (h.imp fun _ _ h => W.bind (h.imp fun _ _ h => W.bind (h.imp fun z C3 h => by
    obtain ⟨b, rfl, h⟩ := h
    cases b with
    | true => exact W.bind h
    | false => exact W.ok h)))
theorem w_aNil (h : QL [] C) : W (aNil sl C) QL := W.ok h
theorem w_aCons (h : W (ma sl C) fun x C1 => W (mas sl C1) fun xs C2 => QL (x :: xs) C2) : W (aCons ma mas sl C) QL := W.bind (h.imp fun _ _ h => W.bind (h.imp fun _ _ h => W.ok h))
theorem w_newF {ds : List D} (h : QD (.lst ds) C) : W (newL false ds C) QD := W.ok h
theorem w_newC {ds : List D} (h : QD (.cell C.length) (C ++ [.lst ds])) : W (newL true ds C) QD := W.ok h
theorem w_lst {c : Bool} (h : W (mas sl C) fun xs C1 => xs.length ≤ sizeLine ∧ W (newL c xs C1) QD) : W (mLst c mas sl C) QD := W.bind (h.imp fun xs C1 h => by
  simp only [if_pos h.1]
  exact h.2)
theorem w_tup (h : W (mas sl C) fun xs C1 => xs.length ≤ sizeLine ∧ QD (.tup xs) C1) : W (mTup mas sl C) QD := W.bind (h.imp fun xs C1 h => by
  simp only [if_pos h.1]
  exact W.ok h.2)
theorem w_cb {g : List D → Store → RE} (h : W (mas sl C) fun xs C1 => W (g xs C1) QD) : W (mCB g mas sl C) QD := W.bind h
theorem w_F {n : Nat} {mf : MF} (h : W (mas sl C) fun xs C1 => xs.length = n ∧ W (mf xs C1) QD) : W (mF n mf mas sl C) QD := W.bind (h.imp fun xs C1 h => by
  simp only [if_pos h.1]
  exact h.2)
theorem w_rep {c : Bool} (h : W (mas sl C) fun xs C1 => xs.length ≤ sizeLine ∧ W (mb sl C1) fun y C2 => ∃ k, y = .int k ∧ lowI k = true ∧ xs.length * k.toNat ≤ sizeLine ∧ W (newL c (List.replicate k.toNat xs).flatten C2) QD) : W (mRep c mas mb sl C) QD :=
  W.bind (h.imp fun xs C1 h => by
    simp only [if_pos h.1]
    refine W.bind (h.2.imp fun y C2 h => ?_)
    obtain ⟨k, rfl, h1, h2, h3⟩ := h
    simp only [intOf, if_pos (And.intro h1 h2)]
    exact h3)
theorem w_sl {c : Bool} {ml mh : MG (Option Int)} (h : W (ma sl C) fun x C1 => W (ml sl C1) fun l C2 => W (mh sl C2) fun u C3 => W (gSl c x l u C3) QD) : W (mSl c ma ml mh sl C) QD := W.bind (h.imp fun _ _ h => W.bind (h.imp fun _ _ h => W.bind h))
theorem w_oNone {QO : Option Int → Store → Prop} (h : QO none C) : W (oNone sl C) QO := W.ok h
theorem w_oSome {QO : Option Int → Store → Prop} (h : W (m sl C) fun x C1 => ∃ i, x = .int i ∧ QO (some i) C1) : W (oSome m sl C) QO := W.bind (h.imp fun x C1 h => by
  obtain ⟨i, rfl, h⟩ := h
  exact W.ok h)
theorem w_mt {chk : Store → D → Bool} {g : D → List D → Store → RE} (h : W (ma sl C) fun x C1 => chk C1 x = true ∧ W (mas sl C1) fun xs C2 => W (g x xs C2) QD) : W (mMt chk g ma mas sl C) QD := W.bind (h.imp fun x C1 h => by
  simp only [if_pos h.1]
  exact W.bind h.2)
theorem w_mt0 {chk : Store → D → Bool} {g : D → List D → Store → RE} (h : W (ma sl C) fun x C1 => chk C1 x = true ∧ W (g x [] C1) QD) : W (mMt0 chk g ma sl C) QD := W.bind (h.imp fun x C1 h => by
  simp only [if_pos h.1]
  exact h.2)
/-! statements -/
theorem w_nil (h : QS .nx sl C) : WS (sNil sl C) QS := WS.ok h
def thenS (u2 : MS) (QS : Fl → Sl → Store → Prop) : Fl → Sl → Store → Prop := fun f sl C => match f with
  | .nx => WS (u2 sl C) QS
  | f => QS f sl C
theorem w_seq (h : WS (u1 sl C) (thenS u2 QS)) : WS (sSeq u1 u2 sl C) QS := WS.bindS (h.imp fun f sl C h => by
  cases f with
  | nx => exact h
  | rt d => exact WS.ok h
  | bk => exact WS.ok h
  | ct => exact WS.ok h)
theorem w_then (h : WS (u2 sl C) QS) : thenS u2 QS .nx sl C := h
theorem w_thenR {d : D} (h : QS (.rt d) sl C) : thenS u2 QS (.rt d) sl C := h
theorem w_thenB (h : QS .bk sl C) : thenS u2 QS .bk sl C := h
theorem w_thenC (h : QS .ct sl C) : thenS u2 QS .ct sl C := h
theorem w_bk (h : QS .bk sl C) : WS (sBk sl C) QS := WS.ok h
theorem w_ct (h : QS .ct sl C) : WS (sCt sl C) QS := WS.ok h
theorem w_drop (h : W (m sl C) fun _ C1 => QS .nx sl C1) : WS (sDrop m sl C) QS := W.bindS (h.imp fun _ _ h => WS.ok h)
theorem w_ret (h : W (m sl C) fun x C1 => QS (.rt x) sl C1) : WS (sRet m sl C) QS := W.bindS (h.imp fun _ _ h => WS.ok h)
theorem w_retN (h : QS (.rt .non) sl C) : WS (sRetN sl C) QS := WS.ok h
theorem w_sif (h : W (t sl C) fun b C1 => if b = true then WS (u1 sl C1) QS else WS (u2 sl C1) QS) : WS (sIf t u1 u2 sl C) QS := W.bindS (h.imp fun b C h => by
  cases b with
  | true => exact h
  | false => exact h)
theorem w_asg {g : MT} (h : W (m sl C) fun x C1 => W (g x sl C1) fun sl2 C2 => QS .nx sl2 C2) : WS (sAsg m g sl C) QS := W.bindS (h.imp fun _ _ h => W.bindS (h.imp fun _ _ h => WS.ok h))
theorem w_gmN {i : Nat} {d : D} {Q : Sl → Store → Prop} (h : Q (sl.set i (some d)) C) : W (gmN i d sl C) Q := W.ok h
theorem w_gmNil {Q : Sl → Store → Prop} (h : Q sl C) : W (gmNil [] sl C) Q := W.ok h
theorem w_gmCons {g : MT} {gs : List D → Sl → Store → R (Sl × Store)} {d : D} {ds : List D} {Q : Sl → Store → Prop} (h : W (g d sl C) fun sl1 C1 => W (gs ds sl1 C1) Q) : W (gmCons g gs (d :: ds) sl C) Q := W.bind h
theorem w_gmTup {n : Nat} {gs : List D → Sl → Store → R (Sl × Store)} {ds : List D} {Q : Sl → Store → Prop} (hl : ds.length = n) (h : W (gs ds sl C) Q) : W (gmTup n gs (.tup ds) sl C) Q := by
  unfold gmTup tupOf
  simp only [if_pos hl]
  exact h
theorem w_par {i j : Nat} (h : W (mas sl C) fun xs C1 => ∃ x y, xs = [x, y] ∧ QS .nx ((sl.set i (some x)).set j (some y)) C1) : WS (sPar i j mas sl C) QS := W.bindS (h.imp fun xs C1 h => by
  obtain ⟨x, y, rfl, h⟩ := h
  exact WS.ok h)
theorem w_aug {i : Nat} {g : D → D → Store → RE} {x : D} (e : sl[i]? = some (some x)) (h : W (m sl C) fun y C1 => W (g x y C1) fun z C2 => QS .nx (sl.set i (some z)) C2) : WS (sAug i g m sl C) QS := by
  unfold sAug
  rw [e]
  exact W.bindS (h.imp fun _ _ h => W.bindS (h.imp fun _ _ h => WS.ok h))
theorem w_gmSub {mo mi : ME} {d : D} {Q : Sl → Store → Prop} (h : W (mo sl C) fun o C1 => W (mi sl C1) fun i C2 => W (gSet o i d C2) fun _ C3 => Q sl C3) : W (gmSub mo mi d sl C) Q := W.bind (h.imp fun _ _ h => W.bind (h.imp fun _ _ h => W.bind (h.imp fun _ _ h => W.ok h)))
/-! operations -/
theorem w_addI {c : Bool} {i j : Int} (h : QD (.int (i + j)) C) : W (gAdd c (.int i) (.int j) C) QD := W.ok h
theorem w_addL {c : Bool} {a b : List D} (hl : a.length + b.length ≤ sizeLine) (h : W (newL c (a ++ b) C) QD) : W (gAdd c (.lst a) (.lst b) C) QD := by
  show W (if a.length + b.length ≤ sizeLine then newL c (a ++ b) C else .no) QD
  rw [if_pos hl]
  exact h
theorem w_subI {i j : Int} (h : QD (.int (i - j)) C) : W (gSub (.int i) (.int j) C) QD := W.ok h
theorem w_negI {i : Int} (h : QD (.int (-i)) C) : W (gNeg (.int i) C) QD := W.ok h
theorem w_mulI {i j : Int} (hs : smallI i = true ∨ smallI j = true ∨ (bigI i = true ∧ bigI j = true)) (h : QD (.int (i * j)) C) : W (gMul (.int i) (.int j) C) QD := by
  refine W.of (a := .int (i * j)) (C := C) ?_ h
  show (if (smallI i || smallI j || (bigI i && bigI j)) = true then R.ok (D.int (i * j), C) else .no) = _
  rw [if_pos]
  rcases hs with h | h | ⟨h1, h2⟩
  · rw [h]; simp
  · rw [h]; simp
  · rw [h1, h2]; simp
theorem w_divI {i j : Int} (h0 : 0 < j) (h1 : j ≤ 10 ^ 60) (h : QD (.int (i / j)) C) : W (gDiv (.int i) (.int j) C) QD := by
  refine W.of (a := .int (i / j)) (C := C) ?_ h
  show (if 0 < j ∧ j ≤ 10 ^ 60 then R.ok (D.int (i / j), C) else .no) = _
  rw [if_pos ⟨h0, h1⟩]
theorem w_modI {i j : Int} (h0 : 0 < j) (h : QD (.int (i % j)) C) : W (gMod (.int i) (.int j) C) QD := by
  refine W.of (a := .int (i % j)) (C := C) ?_ h
  show (if 0 < j then R.ok (D.int (i % j), C) else .no) = _
  rw [if_pos h0]
theorem w_powI {i j : Int} (h0 : 0 ≤ j) (h1 : j ≤ 1000) (h2 : -powLine < i) (h3 : i < powLine) (h : QD (.int (i ^ j.toNat)) C) : W (gPow (.int i) (.int j) C) QD := by
  refine W.of (a := .int (i ^ j.toNat)) (C := C) ?_ h
  show (if 0 ≤ j ∧ j ≤ 1000 ∧ -powLine < i ∧ i < powLine then R.ok (D.int (i ^ j.toNat), C) else .no) = _
  rw [if_pos ⟨h0, h1, h2, h3⟩]
theorem w_ltI {i j : Int} (h : QD (.bl (decide (i < j))) C) : W (gLt (.int i) (.int j) C) QD := W.ok h
theorem w_leI {i j : Int} (h : QD (.bl (decide (i ≤ j))) C) : W (gLe (.int i) (.int j) C) QD := W.ok h
theorem w_gtI {i j : Int} (h : QD (.bl (decide (j < i))) C) : W (gGt (.int i) (.int j) C) QD := W.ok h
theorem w_geI {i j : Int} (h : QD (.bl (decide (j ≤ i))) C) : W (gGe (.int i) (.int j) C) QD := W.ok h
theorem w_eqI {i j : Int} (h : QD (.bl (decide (i = j))) C) : W (gEq (.int i) (.int j) C) QD := by
  refine W.of (a := .bl (decide (i = j))) (C := C) ?_ h
  show (if (SeqAt.shaped (.int i) && SeqAt.shaped (.int j)) = true then R.ok (D.bl (PyData.eqv (.int i) (.int j)), C) else .no) = _
  have e : (SeqAt.shaped (.int i) && SeqAt.shaped (.int j)) = true := rfl
  simp only [e, if_true]
  show R.ok (D.bl (i == j), C) = _
  rw [show (i == j) = decide (i = j) from by rw [Bool.eq_iff_iff]; simp]
theorem w_neI {i j : Int} (h : QD (.bl (!decide (i = j))) C) : W (gNe (.int i) (.int j) C) QD := by
  refine W.of (a := .bl (!decide (i = j))) (C := C) ?_ h
  show (if (SeqAt.shaped (.int i) && SeqAt.shaped (.int j)) = true then R.ok (D.bl (!PyData.eqv (.int i) (.int j)), C) else .no) = _
  have e : (SeqAt.shaped (.int i) && SeqAt.shaped (.int j)) = true := rfl
  simp only [e, if_true]
  show R.ok (D.bl (!(i == j)), C) = _
  rw [show (i == j) = decide (i = j) from by rw [Bool.eq_iff_iff]; simp]
theorem w_eqS {i j : Str} (h : QD (.bl (decide (i = j))) C) : W (gEq (.str i) (.str j) C) QD := W.ok h
theorem w_neS {i j : Str} (h : QD (.bl (!decide (i = j))) C) : W (gNe (.str i) (.str j) C) QD := W.ok h
/-- of values -/
theorem w_eqP {x y : D} {p q : PyData} (hx : toP C x = some p) (hy : toP C y = some q) (hp : SeqAt.shaped p = true) (hq : SeqAt.shaped q = true) (hn : ∀ a, x ≠ .str a) (h : QD (.bl (PyData.eqv p q)) C) : W (gEq x y C) QD := by
  refine W.of (a := .bl (PyData.eqv p q)) (C := C) ?_ h
  unfold gEq
  split
  · exact absurd rfl (hn _)
  · unfold gEq0
    simp only [hx, hy, hp, hq]
    rfl
theorem w_neP {x y : D} {p q : PyData} (hx : toP C x = some p) (hy : toP C y = some q) (hp : SeqAt.shaped p = true) (hq : SeqAt.shaped q = true) (hn : ∀ a, x ≠ .str a) (h : QD (.bl (!PyData.eqv p q)) C) : W (gNe x y C) QD := by
  refine W.of (a := .bl (!PyData.eqv p q)) (C := C) ?_ h
  unfold gNe
  split
  · exact absurd rfl (hn _)
  · unfold gNe0
    simp only [hx, hy, hp, hq]
    rfl
theorem w_eqB {a b : Bool} (h : QD (.bl (decide (a = b))) C) : W (gEq (.bl a) (.bl b) C) QD := by
  refine w_eqP rfl rfl rfl rfl (fun a e => by cases e) ?_
  have : PyData.eqv (.bool a) (.bool b) = decide (a = b) := by cases a <;> cases b <;> decide
  rwa [this]
theorem w_neB {a b : Bool} (h : QD (.bl (!decide (a = b))) C) : W (gNe (.bl a) (.bl b) C) QD := by
  refine w_neP rfl rfl rfl rfl (fun a e => by cases e) ?_
  have : PyData.eqv (.bool a) (.bool b) = decide (a = b) := by cases a <;> cases b <;> decide
  rwa [this]
theorem w_ixL {ds : List D} {i : Int} {d : D} (e : atI ds i = some d) (h : QD d C) : W (gIx (.lst ds) (.int i) C) QD := by
  refine W.of (a := d) (C := C) ?_ h
  show (match (some ds).bind (fun ds => atI ds i) with
      | some d => R.ok (d, C)
      | none => .no) = _
  rw [Option.bind_some, e]
theorem w_ixT {ds : List D} {i : Int} {d : D} (e : atI ds i = some d) (h : QD d C) : W (gIx (.tup ds) (.int i) C) QD := by
  refine W.of (a := d) (C := C) ?_ h
  show (match (some ds).bind (fun ds => atI ds i) with
      | some d => R.ok (d, C)
      | none => .no) = _
  rw [Option.bind_some, e]
theorem w_ixC {k : Nat} {ds : List D} {i : Int} {d : D} (hk : C[k]? = some (.lst ds)) (e : atI ds i = some d) (h : QD d C) : W (gIx (.cell k) (.int i) C) QD := by
  refine W.of (a := d) (C := C) ?_ h
  show (match (lstAt C k).bind (fun ds => atI ds i) with
      | some d => R.ok (d, C)
      | none => .no) = _
  rw [lstAt_lst hk, Option.bind_some, e]
theorem w_set {k n : Nat} {ds : List D} {i : Int} {d : D} {Q : Unit → Store → Prop} (hk : C[k]? = some (.lst ds)) (e : ixN ds.length i = some n) (h : Q () (C.set k (.lst (ds.set n d)))) : W (gSet (.cell k) (.int i) d C) Q := by
  refine W.of (a := ()) (C := C.set k (.lst (ds.set n d))) ?_ h
  show (match (mutAt C k).map (fun ds => (k, ds)), some i with
    | some (k, xs), some j => match ixN xs.length j with
      | some n => R.ok ((), C.set k (.lst (xs.set n d)))
      | none => .no
    | _, _ => .no) = _
  rw [mutAt_lst hk]
  simp only [Option.map_some, e]
theorem w_append {k : Nat} {ds : List D} {d : D} (hk : C[k]? = some (.lst ds)) (hl : ds.length < sizeLine) (h : QD .non (C.set k (.lst (ds ++ [d])))) : W (gAppend (.cell k) [d] C) QD := by
  refine W.of (a := .non) (C := C.set k (.lst (ds ++ [d]))) ?_ h
  show (match (mutAt C k).map (fun ds => (k, ds)), [d] with
    | some (i, xs), [y] => if xs.length < sizeLine then R.ok (D.non, C.set i (.lst (xs ++ [y]))) else .no
    | _, _ => .no) = _
  rw [mutAt_lst hk]
  simp only [Option.map_some, if_pos hl]
theorem w_chkC {k : Nat} {ds : List D} (hk : C[k]? = some (.lst ds)) : isL C (.cell k) = true := by
  unfold isL
  show (lstAt C k).isSome = true
  rw [lstAt_lst hk]
  rfl
theorem w_lenL {ds : List D} (h : QD (.int ds.length) C) : W (on1 gLen [.lst ds] C) QD := W.ok h
theorem w_lenT {ds : List D} (h : QD (.int ds.length) C) : W (on1 gLen [.tup ds] C) QD := W.ok h
theorem w_lenC {k : Nat} {ds : List D} (hk : C[k]? = some (.lst ds)) (h : QD (.int ds.length) C) : W (on1 gLen [.cell k] C) QD := by
  refine W.of (a := .int ds.length) (C := C) ?_ h
  show (match lstAt C k with
    | some ds => R.ok (D.int ds.length, C)
    | none => .no) = _
  rw [lstAt_lst hk]
theorem w_max2 {i j : Int} (h : QD (.int (max i j)) C) : W (on2 gMax2 [.int i, .int j] C) QD := W.ok h
theorem w_min2 {i j : Int} (h : QD (.int (min i j)) C) : W (on2 gMin2 [.int i, .int j] C) QD := W.ok h
theorem w_intI {i : Int} (h : QD (.int i) C) : W (on1 gInt [.int i] C) QD := W.ok h
theorem w_intB {b : Bool} (h : QD (.int (if b then 1 else 0)) C) : W (on1 gInt [.bl b] C) QD := W.ok h
theorem w_rg {c : Bool} {i j : Int} (hl : (lowI i && lowI j) = true) (h : W (newL c (rangeD i j) C) QD) : W (gRg c (.int i) (.int j) C) QD := by
  show W (if (lowI i && lowI j) = true then newL c (rangeD i j) C else .no) QD
  rw [if_pos hl]
  exact h
/-! a def -/
theorem w_run {n : Nat} {ds : List D} (h : WS (u (ds.map some ++ List.replicate (n - ds.length) none) C) fun f _ C' => match f with
    | .nx => W (fin C .non C') QD
    | .rt d => W (fin C d C') QD
    | _ => False) : W (runD n u ds C) QD := WS.bind (h.imp fun f sl C' h => by
  cases f with
  | nx => exact h
  | rt d => exact h
  | bk => exact h.elim
  | ct => exact h.elim)
end
end Nv

namespace Nv
open PySem PySem.Spec PyProof.Rows L2
/-! more steps -/
section
variable {S S2 : Type} {Q : S → Store → Prop} {QD : D → Store → Prop} {QB : Bool → Store → Prop} {QL : List D → Store → Prop} {QS : Fl → Sl → Store → Prop} {sl : Sl} {C C1 C2 : Store} {m ma mb mc : ME} {t ta tb : MG Bool} {mas : MG (List D)} {u u1 u2 : MS}
theorem ite_t {A B : Prop} {b : Bool} (e : b = true) (h : A) : if b = true then A else B := by rw [if_pos e]; exact h
theorem ite_f {A B : Prop} {b : Bool} (e : b = false) (h : B) : if b = true then A else B := by rw [if_neg (by rw [e]; decide)]; exact h
theorem bl_b {b : Bool} {P : Bool → Prop} (h : P b) : ∃ b', D.bl b = .bl b' ∧ P b' := ⟨b, rfl, h⟩
theorem int_i {i : Int} {P : Int → Prop} (h : P i) : ∃ i', D.int i = .int i' ∧ P i' := ⟨i, rfl, h⟩
theorem par_2 {x y : D} {P : D → D → Prop} (h : P x y) : ∃ x' y', [x, y] = [x', y'] ∧ P x' y' := ⟨x, y, rfl, h⟩
theorem fin_set1 {k : Nat} {c : Cell} {d : D} (hc : closedC C.length c = true) (hf : flatR d = true) (hd : closedD 0 d = true) (h : QD d (C.set k c)) : W (fin C d (C.set k c)) QD := by
  by_cases hk : k < C.length
  · refine W.of (fin_val (fin_cond (k := k) (Upd.set k C c) (.inl ⟨List.getElem?_set_self hk, hc⟩)) hf (closedD_mono (Nat.zero_le _) d hd)) ?_
    rw [show C.length = (C.set k c).length by simp, List.take_length]
    exact h
  · refine W.of (fin_val (fin_cond (k := k) (c := c) (Upd.set k C c) (.inr (Nat.le_of_not_lt hk))) hf (closedD_mono (Nat.zero_le _) d hd)) ?_
    rw [show C.length = (C.set k c).length by simp, List.take_length]
    exact h
theorem fin_same {d : D} (hf : flatR d = true) (hd : closedD 0 d = true) (h : QD d C) : W (fin C d C) QD := W.of (fin_pure0 hf hd) h
end
end Nv

namespace Nv
open PySem PySem.Spec PyProof.Rows L2
section
variable {QD : D → Store → Prop} {QS : Fl → Sl → Store → Prop} {QK : Wk → Store → Prop} {sl : Sl} {C : Store} {m : ME} {t : MG Bool} {mas : MG (List D)} {u : MS} {g : MT} {gd : Gd} {ds : List D} {c : Bool} {own : List Nat} {mi : MI}
def forQ (P : Sl → Store → Prop) (QS : Fl → Sl → Store → Prop) : Fl → Sl → Store → Prop := fun f sl C => match f with
  | .nx => P sl C
  | .ct => P sl C
  | .bk => QS .nx sl C
  | .rt d => QS (.rt d) sl C
theorem w_forM (Inv : Nat → Sl → Store → Prop) (hg : ∀ i sl C, Inv i sl C → okG gd C)
    (step : ∀ i d sl C, ds[i]? = some d → Inv i sl C → W (g d sl C) fun sl1 C1 => WS (u sl1 C1) (forQ (Inv (i + 1)) QS))
    (hend : ∀ sl C, Inv ds.length sl C → QS .nx sl C) (h0 : Inv 0 sl C) : WS (forM g u gd ds sl C) QS := by
  suffices h : ∀ (n : Nat) (es : List D) sl C, es = ds.drop n → n ≤ ds.length → Inv n sl C → WS (forM g u gd es sl C) QS from h 0 ds sl C rfl (Nat.zero_le _) h0
  intro n es
  induction es generalizing n with
  | nil =>
    intro sl C e hn hi
    have : n = ds.length := by
      have := congrArg List.length e
      simp at this
      omega
    subst this
    unfold forM
    rw [if_pos (hg _ _ _ hi)]
    exact WS.ok (hend _ _ hi)
  | cons d es ih =>
    intro sl C e hn hi
    have hd : ds[n]? = some d := by
      have := congrArg (fun l => l[0]?) e
      simp at this
      exact this.symm
    have hn2 : n < ds.length := (List.getElem?_eq_some_iff.mp hd).1
    have he : es = ds.drop (n + 1) := by
      have := congrArg List.tail e
      simpa using this
    unfold forM
    rw [if_pos (hg _ _ _ hi)]
    refine W.bindS ((step n d sl C hd hi).imp fun sl1 C1 h => WS.bindS (h.imp fun f sl2 C2 h => ?_))
    cases f with
    | nx => exact ih (n + 1) sl2 C2 he hn2 h
    | ct => exact ih (n + 1) sl2 C2 he hn2 h
    | bk => exact WS.ok h
    | rt d => exact WS.ok h
theorem w_sFor (h : W (mi sl C) fun k C1 => WS (forM g u k.2 k.1 sl C1) QS) : WS (sFor mi g u sl C) QS := W.bindS (h.imp fun _ _ h => h)
theorem w_iLst (h : W (m sl C) fun x C1 => ∃ k, lstG C1 x = some k ∧ QK k C1) : W (iLst m sl C) QK := W.bind (h.imp fun x C1 h => by
  obtain ⟨k, e, h⟩ := h
  simp only [e]
  exact W.ok h)
theorem w_iRg1 (h : W (mas sl C) fun xs C1 => ∃ j, xs = [.int j] ∧ lowI j = true ∧ QK (rgD 0 j, []) C1) : W (iRg1 mas sl C) QK := W.bind (h.imp fun x C1 h => by
  obtain ⟨j, rfl, e, h⟩ := h
  simp only [e, if_true]
  exact W.ok h)
theorem w_iEn (h : W (mas sl C) fun xs C1 => ∃ x, xs = [x] ∧ ∃ k, lstG C1 x = some k ∧ QK (enumD 0 k.1, k.2) C1) : W (iEn mas sl C) QK := W.bind (h.imp fun x C1 h => by
  obtain ⟨x, rfl, k, e, h⟩ := h
  simp only [e]
  exact W.ok h)
theorem w_iZp (h : W (mas sl C) fun xs C1 => ∃ x y, xs = [x, y] ∧ ∃ k, lstG C1 x = some k ∧ ∃ l, lstG C1 y = some l ∧ QK (pairs k.1 l.1, k.2 ++ l.2) C1) : W (iZp mas sl C) QK := W.bind (h.imp fun x C1 h => by
  obtain ⟨x, y, rfl, k, e, l, e2, h⟩ := h
  simp only [e, e2]
  exact W.ok h)
theorem w_iTp (h : W (m sl C) fun x C1 => ∃ ds, x = .tup ds ∧ QK (ds, []) C1) : W (iTp m sl C) QK := W.bind (h.imp fun x C1 h => by
  obtain ⟨ds, rfl, h⟩ := h
  exact W.ok h)
theorem tup_t {ds : List D} {P : List D → Prop} (h : P ds) : ∃ ds', D.tup ds = .tup ds' ∧ P ds' := ⟨ds, rfl, h⟩
theorem lstG_l {ds : List D} {P : Wk → Prop} (h : P (ds, [])) : ∃ k, lstG C (.lst ds) = some k ∧ P k := ⟨_, rfl, h⟩
theorem lstG_c {k : Nat} {ds : List D} {P : Wk → Prop} (hk : C[k]? = some (.lst ds)) (h : P (ds, [(k, ds)])) : ∃ k', lstG C (.cell k) = some k' ∧ P k' := ⟨(ds, [(k, ds)]), by unfold lstG; simp only [hk], h⟩
theorem one_1 {x : D} {P : D → Prop} (h : P x) : ∃ x', [x] = [x'] ∧ P x' := ⟨x, rfl, h⟩
theorem one_i {i : Int} {P : Int → Prop} (h : P i) : ∃ i', [D.int i] = [.int i'] ∧ P i' := ⟨i, rfl, h⟩
theorem le0 : ([] : List D).length ≤ sizeLine := by simp [sizeLine]
theorem le1 {a0 : D} : [a0].length ≤ sizeLine := by simp [sizeLine]
theorem le2 {a0 a1 : D} : [a0, a1].length ≤ sizeLine := by simp [sizeLine]
theorem le3 {a0 a1 a2 : D} : [a0, a1, a2].length ≤ sizeLine := by simp [sizeLine]
theorem le4 {a0 a1 a2 a3 : D} : [a0, a1, a2, a3].length ≤ sizeLine := by simp [sizeLine]
theorem le5 {a0 a1 a2 a3 a4 : D} : [a0, a1, a2, a3, a4].length ≤ sizeLine := by simp [sizeLine]
theorem le6 {a0 a1 a2 a3 a4 a5 : D} : [a0, a1, a2, a3, a4, a5].length ≤ sizeLine := by simp [sizeLine]
theorem le7 {a0 a1 a2 a3 a4 a5 a6 : D} : [a0, a1, a2, a3, a4, a5, a6].length ≤ sizeLine := by simp [sizeLine]
theorem le8 {a0 a1 a2 a3 a4 a5 a6 a7 : D} : [a0, a1, a2, a3, a4, a5, a6, a7].length ≤ sizeLine := by simp [sizeLine]
theorem len_and {l : List D} {n : Nat} {P : Prop} (h : l.length = n) (p : P) : l.length = n ∧ P := ⟨h, p⟩
theorem le_and {l : List D} {n : Nat} {P : Prop} (h : l.length ≤ n) (p : P) : l.length ≤ n ∧ P := ⟨h, p⟩
theorem low_and {i : Int} {P : Prop} (h : lowI i = true) (p : P) : lowI i = true ∧ P := ⟨h, p⟩
theorem isL_and {x : D} {P : Prop} (h : isL C x = true) (p : P) : isL C x = true ∧ P := ⟨h, p⟩
theorem isS_and {x : D} {P : Prop} (h : isS C x = true) (p : P) : isS C x = true ∧ P := ⟨h, p⟩
theorem W.calm {S : Type} {Q : S → Store → Prop} {o : R (S × Store)} (h : W o Q) : W (R.calm o) Q := by
  obtain ⟨a, C, rfl, q⟩ := h
  exact ⟨a, C, rfl, q⟩
theorem w_lcM {Q : List D → Store → Prop} (Inv : Nat → List D → Store → Prop) (hg : ∀ i acc C, Inv i acc C → okG gd C)
    (step : ∀ i d acc C, ds[i]? = some d → Inv i acc C → W (g d sl C) fun sl1 C1 => W (t sl1 C1) fun b C2 => if b = true then W (m sl1 C2) fun e C3 => Inv (i + 1) (acc ++ [e]) C3 else Inv (i + 1) acc C2)
    (hend : ∀ zs C, Inv ds.length zs C → Q zs C) (h0 : Inv 0 [] C) : W (lcM g t m gd sl ds C) Q := by
  suffices h : ∀ (n : Nat) (es acc : List D) C, es = ds.drop n → n ≤ ds.length → Inv n acc C → W (lcM g t m gd sl es C) fun zs C' => Q (acc ++ zs) C' by
    have := h 0 ds [] C rfl (Nat.zero_le _) h0
    simpa using this
  intro n es
  induction es generalizing n with
  | nil =>
    intro acc C e hn hi
    have : n = ds.length := by
      have := congrArg List.length e
      simp at this
      omega
    subst this
    unfold lcM
    rw [if_pos (hg _ _ _ hi)]
    refine W.ok ?_
    rw [List.append_nil]
    exact hend _ _ hi
  | cons d es ih =>
    intro acc C e hn hi
    have hd : ds[n]? = some d := by
      have := congrArg (fun l => l[0]?) e
      simp at this
      exact this.symm
    have hn2 : n < ds.length := (List.getElem?_eq_some_iff.mp hd).1
    have he : es = ds.drop (n + 1) := by
      have := congrArg List.tail e
      simpa using this
    unfold lcM
    rw [if_pos (hg _ _ _ hi)]
    refine W.bind ((step n d acc C hd hi).imp fun sl1 C1 h => W.bind (h.imp fun b C2 h => ?_))
    cases b with
    | false => exact ih (n + 1) acc C2 he hn2 h
    | true =>
      refine W.bind (W.imp h fun e C3 h => W.bind ((ih (n + 1) (acc ++ [e]) C3 he hn2 h).imp fun zs C4 h => W.ok ?_))
      simpa using h
theorem w_mLc (h : W (mi sl C) fun k C1 => k.1.length ≤ sizeLine ∧ W (lcM g t m k.2 (wipeS sl own) k.1 C1) fun zs C2 => W (newL c zs C2) QD) : W (mLc c own mi g t m sl C) QD := W.bind (h.imp fun k C1 h => by
  simp only [if_pos h.1]
  exact W.bind (W.calm h.2))
theorem w_tTrue {QB : Bool → Store → Prop} (h : QB true C) : W (tTrue sl C) QB := W.ok h
/-- a comprehension that maps, with no store in play -/
theorem w_lcMap {Q : List D → Store → Prop} {f : Nat → D → D} (step : ∀ i d, ds[i]? = some d → W (g d sl C) fun sl1 C1 => W (m sl1 C1) fun e C3 => e = f i d ∧ C3 = C) (q : Q (ds.mapIdx f) C) : W (lcM g tTrue m [] sl ds C) Q := by
  refine w_lcM (fun i acc C' => C' = C ∧ acc = (ds.take i).mapIdx f) (fun _ _ _ _ => okG_nil _) (fun i d acc C' hd h => ?_) (fun zs C' h => ?_) ⟨rfl, rfl⟩
  · obtain ⟨rfl, rfl⟩ := h
    refine (step i d hd).imp fun sl1 C1 h => w_tTrue ?_
    rw [if_pos rfl]
    refine h.imp fun e C3 h => ?_
    obtain ⟨rfl, rfl⟩ := h
    refine ⟨rfl, ?_⟩
    have hl := (List.getElem?_eq_some_iff.mp hd).1
    rw [List.take_succ, hd]
    simp [List.mapIdx_append, Nat.min_eq_left (Nat.le_of_lt hl)]
  · obtain ⟨rfl, rfl⟩ := h
    rwa [List.take_length]
theorem rgD_get {n i : Nat} {d : D} (h : (rgD 0 n)[i]? = some d) : i < n ∧ d = .int i := by
  unfold rgD at h
  rw [List.getElem?_map, Option.map_eq_some_iff] at h
  obtain ⟨a, h1, rfl⟩ := h
  rw [List.getElem?_eq_some_iff] at h1
  obtain ⟨h2, h3⟩ := h1
  rw [List.getElem_range] at h3
  rw [List.length_range] at h2
  subst h3
  exact ⟨by omega, by simp⟩
theorem rgD_len (n : Nat) : (rgD 0 n).length = n := by simp [rgD]
theorem ixN_int {i : Int} {m : Nat} (h0 : 0 ≤ i) (h : i < m) : ixN m i = some i.toNat := by
  unfold ixN
  rw [if_pos h0, if_pos h]
theorem ixN_nat {n m : Nat} (h : n < m) : ixN m (n : Int) = some n := by
  rw [ixN_int (by omega) (by omega)]
  simp
theorem atI_nat {ds : List D} {n : Nat} {d : D} (h : ds[n]? = some d) : atI ds (n : Int) = some d := by
  have hl := (List.getElem?_eq_some_iff.mp h).1
  unfold atI
  rw [ixN_nat hl, Option.bind_some, h]
theorem cl_nil {n : Nat} : ∀ c ∈ ([] : Store), closedC n c = true := fun c h => nomatch h
theorem cl_cons {n : Nat} {c : Cell} {C : Store} (h : closedC n c = true) (t : ∀ c ∈ C, closedC n c = true) : ∀ d ∈ c :: C, closedC n d = true := fun d hd => by
  rcases List.mem_cons.mp hd with rfl | hd
  · exact h
  · exact t d hd
theorem app_cond {C1 X : Store} (hl : C1.length = C.length) (hc : ∀ c ∈ C1, closedC C.length c = true) : C.length ≤ (C1 ++ X).length ∧ ∀ (i : Nat), i < C.length → (C1 ++ X)[i]? = C[i]? ∨ ∃ c, (C1 ++ X)[i]? = some c ∧ closedC C.length c = true := ⟨by simp; omega, fun i hi => by
    have h1 : i < C1.length := by omega
    exact .inr ⟨C1[i], by rw [List.getElem?_append_left h1, List.getElem?_eq_getElem h1], hc _ (List.getElem_mem h1)⟩⟩
theorem app_take {C1 X : Store} (hl : C1.length = C.length) : (C1 ++ X).take C.length = C1 := by rw [← hl, List.take_left]
theorem fin_fz {C1 X : Store} {d : D} (hl : C1.length = C.length) (hc : ∀ c ∈ C1, closedC C.length c = true) (hf : ∀ a b, d ≠ .tup [.cell a, .cell b]) (hd : closedD 0 d = true) (h : QD d C1) : W (fin C d (C1 ++ X)) QD := by
  refine W.of (a := d) (C := C1) ?_ h
  unfold fin
  rw [if_pos (app_cond hl hc)]
  split
  · simp [closedD] at hd
  · rename_i a b
    exact absurd rfl (hf a b)
  · rw [if_pos (closedD_mono (Nat.zero_le _) d hd), app_take hl]
theorem w_fz2 {n : Nat} (h : W (m sl C) fun d C1 => ∃ (xs ys : List D) (C' : Store), d = .tup [.cell C.length, .cell (C.length + 1)] ∧ C1 = C' ++ [.lst xs, .lst ys] ∧ C'.length = C.length ∧ (∀ c ∈ C', closedC C.length c = true) ∧ closedDs 0 xs = true ∧ closedDs 0 ys = true ∧ QD (.tup [.lst xs, .lst ys]) C') : W (mFz (n + 2) m sl C) QD := by
  refine W.bind (h.imp fun d C1 h => ?_)
  obtain ⟨xs, ys, C', rfl, rfl, hl, hc, h1, h2, q⟩ := h
  have e1 : (C' ++ [Cell.lst xs, Cell.lst ys])[C.length]? = some (.lst xs) := by rw [← hl]; simp
  have e2 : (C' ++ [Cell.lst xs, Cell.lst ys]).set C.length (.fz xs) = C' ++ [.fz xs, .lst ys] := by rw [← hl]; simp
  have e3 : (C' ++ [Cell.fz xs, Cell.lst ys])[C.length + 1]? = some (.lst ys) := by rw [← hl, List.getElem?_append_right (by omega)]; simp
  have e4 : (C' ++ [Cell.fz xs, Cell.lst ys]).set (C.length + 1) (.fz ys) = C' ++ [.fz xs, .fz ys] := by rw [← hl, List.set_append_right _ _ (by omega)]; simp
  have f1 : frz (n + 1) (.cell C.length) (C' ++ [Cell.lst xs, Cell.lst ys]) = some (.lst xs, C' ++ [.fz xs, .lst ys]) := by
    unfold frz
    simp only [e1, e2]
    rw [frzL_id _ xs fun x hx => frz_id n _ x (closed_mem h1 hx)]
    rfl
  have f2 : frz (n + 1) (.cell (C.length + 1)) (C' ++ [Cell.fz xs, Cell.lst ys]) = some (.lst ys, C' ++ [.fz xs, .fz ys]) := by
    unfold frz
    simp only [e3, e4]
    rw [frzL_id _ ys fun x hx => frz_id n _ x (closed_mem h2 hx)]
    rfl
  have f3 : frz (n + 2) (.tup [.cell C.length, .cell (C.length + 1)]) (C' ++ [Cell.lst xs, Cell.lst ys]) = some (.tup [.lst xs, .lst ys], C' ++ [.fz xs, .fz ys]) := by
    show (frzL (frz (n + 1)) _ _).bind _ = _
    unfold frzL
    rw [f1, Option.bind_some]
    unfold frzL
    rw [f2, Option.bind_some]
    rfl
  simp only [f3]
  refine fin_fz hl hc (fun a b e => by cases e) ?_ q
  show (closedDs 0 xs && (closedDs 0 ys && true)) = true
  rw [h1, h2]
  rfl
theorem w_fz1 {n : Nat} (h : W (m sl C) fun d C1 => ∃ (xs : List D) (C' : Store), d = .cell C.length ∧ C1 = C' ++ [.lst xs] ∧ C'.length = C.length ∧ (∀ c ∈ C', closedC C.length c = true) ∧ closedDs 0 xs = true ∧ QD (.lst xs) C') : W (mFz (n + 1) m sl C) QD := by
  refine W.bind (h.imp fun d C1 h => ?_)
  obtain ⟨xs, C', rfl, rfl, hl, hc, h1, q⟩ := h
  have e1 : (C' ++ [Cell.lst xs])[C.length]? = some (.lst xs) := by rw [← hl]; simp
  have e2 : (C' ++ [Cell.lst xs]).set C.length (.fz xs) = C' ++ [.fz xs] := by rw [← hl]; simp
  have f1 : frz (n + 1) (.cell C.length) (C' ++ [Cell.lst xs]) = some (.lst xs, C' ++ [.fz xs]) := by
    unfold frz
    simp only [e1, e2]
    rw [frzL_id _ xs fun x hx => frz_id n _ x (closed_mem h1 hx)]
    rfl
  simp only [f1]
  exact fin_fz hl hc (fun a b e => by cases e) h1 q
/-- both ways of a choice at once -/
theorem w_ifC {x y : D} {b : Bool} {sl1 sl2 : Sl} {Q : D → Store → Prop} (h : ∀ z, (b = true ∧ z = x ∨ b = false ∧ z = y) → Q z C) : if b = true then W (mC x sl1 C) Q else W (mC y sl2 C) Q := by
  cases b with
  | true => exact w_c (h x (.inl ⟨rfl, rfl⟩))
  | false => exact w_c (h y (.inr ⟨rfl, rfl⟩))
theorem w_ite {A B : Prop} {b : Bool} (h1 : b = true → A) (h2 : b = false → B) : if b = true then A else B := by
  cases b with
  | true => exact h1 rfl
  | false => exact h2 rfl
theorem setI_map (l : List Int) (n : Nat) (x : Int) : (l.map D.int).set n (.int x) = (l.set n x).map D.int := by simp
/-! kinds, sums, equal values -/
theorem w_isiT {T t : String} {x : D} (ht : tyC C x = some t) (hb : isB t T = true) (q : QD (.bl true) C) : W (gIsi T x C) QD := by
  refine W.of (a := .bl true) (C := C) ?_ q
  unfold gIsi
  rw [ht]
  simp only [hb]
theorem w_isiF {T t : String} {x : D} (ht : tyC C x = some t) (hb : isB t T = false) (q : QD (.bl false) C) : W (gIsi T x C) QD := by
  refine W.of (a := .bl false) (C := C) ?_ q
  unfold gIsi
  rw [ht]
  simp only [hb]
theorem w_isiLT {T : List String} {t : String} {x : D} (ht : tyC C x = some t) (hb : T.any (isB t) = true) (q : QD (.bl true) C) : W (gIsiL T x C) QD := by
  refine W.of (a := .bl true) (C := C) ?_ q
  unfold gIsiL
  rw [ht]
  simp only [hb]
theorem w_isiLF {T : List String} {t : String} {x : D} (ht : tyC C x = some t) (hb : T.any (isB t) = false) (q : QD (.bl false) C) : W (gIsiL T x C) QD := by
  refine W.of (a := .bl false) (C := C) ?_ q
  unfold gIsiL
  rw [ht]
  simp only [hb]
theorem w_all {bs : List Bool} (q : QD (.bl (bs.all id)) C) : W (on1 gAll [.lst (bs.map D.bl)] C) QD := by
  refine W.of (a := .bl (bs.all id)) (C := C) ?_ q
  show (match (some (bs.map D.bl)).bind blsOf with
    | some bs => R.ok (D.bl (bs.all id), C)
    | none => .no) = _
  rw [Option.bind_some, blsOf_map]
theorem toPs_int (C : Store) : ∀ l : List Int, toPs C (l.map D.int) = some (l.map PyData.int)
  | [] => rfl
  | x :: l => by
    show (match toP C (.int x), toPs C (l.map D.int) with
      | some p, some ps => some (p :: ps)
      | _, _ => none) = _
    rw [toPs_int C l]
    rfl
theorem toP_ints (C : Store) (l : List Int) : toP C (.lst (l.map D.int)) = some (.list (l.map PyData.int)) := by
  show (toPs C (l.map D.int)).map PyData.list = _
  rw [toPs_int]
  rfl
theorem depth_ints : ∀ l : List Int, PyData.depthAll (l.map PyData.int) = 0
  | [] => rfl
  | x :: l => by
    show max 0 (PyData.depthAll (l.map PyData.int)) = 0
    rw [depth_ints l]
    rfl
theorem lay_ints : ∀ l : List Int, PyData.canLayAll0 (l.map PyData.int) = true
  | [] => rfl
  | x :: l => by
    show (true && PyData.canLayAll0 (l.map PyData.int)) = true
    rw [lay_ints l]
    rfl
theorem shaped_ints (l : List Int) : SeqAt.shaped (.list (l.map PyData.int)) = true := by
  show (PyData.canLayAll0 (l.map PyData.int) && decide (PyData.depthAll (l.map PyData.int) + 1 ≤ 64)) = true
  rw [lay_ints, depth_ints]
  rfl
theorem eqvAll_ints : ∀ l m : List Int, PyData.eqvAll (l.map PyData.int) (m.map PyData.int) = decide (l = m)
  | [], [] => rfl
  | [], _ :: _ => rfl
  | _ :: _, [] => rfl
  | x :: l, y :: m => by
    show ((x == y) && PyData.eqvAll (l.map PyData.int) (m.map PyData.int)) = _
    rw [eqvAll_ints l m, Bool.eq_iff_iff]
    simp
theorem w_eqLI {l m : List Int} (q : QD (.bl (decide (l = m))) C) : W (gEq (.lst (l.map D.int)) (.lst (m.map D.int)) C) QD := by
  refine w_eqP (toP_ints _ _) (toP_ints _ _) (shaped_ints _) (shaped_ints _) (fun a e => by cases e) ?_
  show QD (.bl (PyData.eqvAll _ _)) C
  rwa [eqvAll_ints]
/-! comprehensions over literals and ranges -/
theorem w_lcNil {Q : List D → Store → Prop} (h : Q [] C) : W (lcM g t m [] sl [] C) Q := by
  unfold lcM
  rw [if_pos (okG_nil _)]
  exact W.ok h
theorem w_lcCons {Q : List D → Store → Prop} {d : D} (h : W (g d sl C) fun sl1 C1 => W (t sl1 C1) fun b C2 => if b = true then W (m sl1 C2) fun e C3 => W (lcM g t m [] sl ds C3) fun zs C4 => Q (e :: zs) C4 else W (lcM g t m [] sl ds C2) Q) : W (lcM g t m [] sl (d :: ds) C) Q := by
  unfold lcM
  rw [if_pos (okG_nil _)]
  refine W.bind (h.imp fun sl1 C1 h => W.bind (h.imp fun b C2 h => ?_))
  cases b with
  | false => exact h
  | true => exact W.bind (W.imp h fun e C3 h => W.bind (h.imp fun zs C4 h => W.ok h))
theorem mapIdx_const {A B : Type} (b : B) (l : List A) : (l.mapIdx fun _ _ => b) = List.replicate l.length b := by
  apply List.ext_getElem
  · simp
  · intro i h1 h2
    simp
theorem w_lcTrue {Q : List D → Store → Prop} (step : ∀ (i : Nat) (d : D), ds[i]? = some d → W (g d sl C) fun sl1 C1 => W (m sl1 C1) fun e C3 => e = .bl true ∧ C3 = C) (q : Q ((List.replicate ds.length true).map D.bl) C) : W (lcM g tTrue m [] sl ds C) Q := by
  refine w_lcMap (f := fun _ _ => .bl true) step ?_
  rw [mapIdx_const]
  rwa [List.map_replicate] at q
theorem all_true (n : Nat) : (List.replicate n true).all id = true := by simp
theorem w_lcMapIx {Q : List D → Store → Prop} {f : Nat → D} (step : ∀ (i : Nat) (d : D), ds[i]? = some d → W (g d sl C) fun sl1 C1 => W (m sl1 C1) fun e C3 => e = f i ∧ C3 = C) (q : Q ((List.range ds.length).map f) C) : W (lcM g tTrue m [] sl ds C) Q := by
  refine w_lcMap (f := fun i _ => f i) step ?_
  have e : (ds.mapIdx fun i _ => f i) = (List.range ds.length).map f := by
    apply List.ext_getElem
    · simp
    · intro i h1 h2
      simp
  rwa [e]
theorem w_lcTrueG {Q : List D → Store → Prop} (hg : okG gd C) (step : ∀ (i : Nat) (d : D), ds[i]? = some d → W (g d sl C) fun sl1 C1 => W (m sl1 C1) fun e C3 => e = .bl true ∧ C3 = C) (q : Q ((List.replicate ds.length true).map D.bl) C) : W (lcM g tTrue m gd sl ds C) Q := by
  refine w_lcM (fun i acc C' => C' = C ∧ acc = (List.replicate i true).map D.bl) (fun _ _ _ h => h.1 ▸ hg) (fun i d acc C' hd h => ?_) (fun zs C' h => ?_) ⟨rfl, rfl⟩
  · obtain ⟨rfl, rfl⟩ := h
    refine (step i d hd).imp fun sl1 C1 h => w_tTrue ?_
    rw [if_pos rfl]
    refine h.imp fun e C3 h => ?_
    obtain ⟨rfl, rfl⟩ := h
    refine ⟨rfl, ?_⟩
    rw [List.replicate_succ', List.map_append]
    rfl
  · obtain ⟨rfl, rfl⟩ := h
    exact q
theorem pairsGet {xs ys : List D} {i : Nat} {d : D} (h : (pairs xs ys)[i]? = some d) : ∃ a b, d = .tup [a, b] ∧ xs[i]? = some a ∧ ys[i]? = some b := by
  unfold pairs at h
  rw [List.getElem?_zipWith] at h
  cases hx : xs[i]? with
  | none => rw [hx] at h; simp at h
  | some a =>
    cases hy : ys[i]? with
    | none => rw [hx, hy] at h; simp at h
    | some b =>
      rw [hx, hy] at h
      exact ⟨a, b, (Option.some.inj h).symm, rfl, rfl⟩
theorem pairsLen (xs ys : List D) : (pairs xs ys).length = min xs.length ys.length := by simp [pairs]
/-- a list that stands in a cell or is frozen -/
inductive IsLst (C : Store) : D → List D → Prop where
  | f (ds : List D) : IsLst C (.lst ds) ds
  | c (k : Nat) (ds : List D) (h : C[k]? = some (.lst ds)) : IsLst C (.cell k) ds
theorem IsLst.ty {x : D} {ds : List D} (h : IsLst C x ds) : tyC C x = some "list" := by
  cases h with
  | f => rfl
  | c k ds h => unfold tyC; simp only [h]
theorem IsLst.len {x : D} {ds : List D} (h : IsLst C x ds) (q : QD (.int ds.length) C) : W (on1 gLen [x] C) QD := by
  cases h with
  | f => exact w_lenL q
  | c k ds h => exact w_lenC h q
theorem IsLst.it {x : D} {ds : List D} (h : IsLst C x ds) : ∃ g, lstG C x = some (ds, g) ∧ okG g C := by
  cases h with
  | f => exact ⟨[], rfl, okG_nil _⟩
  | c k ds h => exact ⟨[(k, ds)], by unfold lstG; simp only [h], fun p hp => by cases List.mem_singleton.mp hp; exact h⟩
theorem okG.app {g1 g2 : Gd} (h1 : okG g1 C) (h2 : okG g2 C) : okG (g1 ++ g2) C := fun p hp => (List.mem_append.mp hp).elim (h1 p) (h2 p)
/-! repr of small things -/
def smI (i : Int) : Prop := -999999999999 ≤ i ∧ i ≤ 999999999999
theorem short_int {i : Int} (h : smI i) : PyData.intsShort 13 (.int i) = true := by
  simp only [PyData.intsShort, decide_eq_true_eq]
  have h1 := h.1
  have h2 := h.2
  exact PyData.shown_int_le2 (by omega) (by omega)
theorem log_int {i : Int} (h : smI i) : i.natAbs.log2 < 40 := by
  by_cases h0 : i.natAbs = 0
  · rw [h0]; decide
  · rw [Nat.log2_lt h0]
    have := h.1
    have := h.2
    omega
theorem show_ints : ∀ {l : List Int}, (∀ x ∈ l, smI x) → PyData.showableAll (l.map PyData.int) = true
  | [], _ => rfl
  | x :: l, h => by
    show (decide (x.natAbs.log2 < 1920) && PyData.showableAll (l.map PyData.int)) = true
    rw [show_ints fun y hy => h y (List.mem_cons_of_mem _ hy), decide_eq_true (Nat.lt_trans (log_int (h x List.mem_cons_self)) (by decide))]
    rfl
theorem toP_two (xs ys : List Int) : toP C (.tup [.lst (xs.map D.int), .lst (ys.map D.int)]) = some (.tuple [.list (xs.map PyData.int), .list (ys.map PyData.int)]) := by
  show (match toP C (.lst (xs.map D.int)), (match toP C (.lst (ys.map D.int)), (some [] : Option (List PyData)) with
    | some p, some ps => some (p :: ps)
    | _, _ => none) with
    | some p, some ps => some (p :: ps)
    | _, _ => none).map PyData.tuple = _
  rw [toP_ints, toP_ints]
  rfl
theorem w_isC {x y : D} {b : Bool} (e : gIs x y C = .ok (.bl b, C)) (q : QD (.bl b) C) : W (gIs x y C) QD := W.of e q
theorem w_isNotC {x y : D} {b : Bool} (e : gIsNot x y C = .ok (.bl b, C)) (q : QD (.bl b) C) : W (gIsNot x y C) QD := W.of e q
/-! stores of closed cells -/
def ClS (C : Store) : Prop := ∀ c ∈ C, closedC 0 c = true
theorem closedC_mono {n m : Nat} (h : n ≤ m) (c : Cell) (hc : closedC n c = true) : closedC m c = true := by
  cases c with
  | lst ds => exact closedDs_mono h ds hc
  | dk ds => exact closedDs_mono h _ hc
  | dt ds => exact closedDs_mono h _ hc
  | fz ds => exact closedDs_mono h ds hc
  | dn ds => exact closedDs_mono h _ hc
  | obj c ds => exact closedDs_mono h _ hc
  | lk ds => exact closedDs_mono h _ hc
theorem ClS.at {C : Store} (h : ClS C) (n : Nat) : ∀ c ∈ C, closedC n c = true := fun c hc => closedC_mono (Nat.zero_le _) c (h c hc)
theorem ClS.nil : ClS [] := fun c h => nomatch h
theorem ClS.cons {C : Store} {c : Cell} (h : closedC 0 c = true) (t : ClS C) : ClS (c :: C) := cl_cons h t
theorem ClS.app {C X : Store} (h : ClS C) (t : ClS X) : ClS (C ++ X) := fun c hc => (List.mem_append.mp hc).elim (h c) (t c)
theorem ClS.set {C : Store} {k : Nat} {c : Cell} (h : ClS C) (hc : closedC 0 c = true) : ClS (C.set k c) := fun d hd => by
  rcases List.mem_or_eq_of_mem_set hd with hd | rfl
  · exact h d hd
  · exact hc
theorem ClS.one {c : Cell} (h : closedC 0 c = true) : ClS [c] := cl_cons h cl_nil
theorem w_slL {ds : List D} {c : Bool} {a b : Option Int} (q : W (newL c (cutD ds a b) C) QD) : W (gSl c (.lst ds) a b C) QD := q
/-! targets, reversed slices, counts, whiles -/
theorem w_gmSqT {n : Nat} {gs : List D → Sl → Store → R (Sl × Store)} {Q : Sl → Store → Prop} (hl : ds.length = n) (h : W (gs ds sl C) Q) : W (gmSq n gs (.tup ds) sl C) Q := by
  unfold gmSq tupOf
  simp only [if_pos hl]
  exact h
theorem w_gmSqL {n : Nat} {gs : List D → Sl → Store → R (Sl × Store)} {Q : Sl → Store → Prop} (hl : ds.length = n) (h : W (gs ds sl C) Q) : W (gmSq n gs (.lst ds) sl C) Q := by
  unfold gmSq tupOf lstOf
  simp only [if_pos hl]
  exact h
theorem w_iRg2 (h : W (mas sl C) fun xs C1 => ∃ i j, xs = [.int i, .int j] ∧ (lowI i && lowI j) = true ∧ QK (rgD i j, []) C1) : W (iRg2 mas sl C) QK := W.bind (h.imp fun x C1 h => by
  obtain ⟨i, j, rfl, e, h⟩ := h
  simp only [e, if_true]
  exact W.ok h)
theorem w_iRg3 (h : W (mas sl C) fun xs C1 => ∃ i j, xs = [.int i, .int j, .int (-1)] ∧ (lowI i && lowI j) = true ∧ QK (rgDown i j, []) C1) : W (iRg3 mas sl C) QK := W.bind (h.imp fun x C1 h => by
  obtain ⟨i, j, rfl, e, h⟩ := h
  simp only [e, and_self, if_true]
  exact W.ok h)
/-! dicts with tuples for keys -/
theorem w_dnewT (h : QD (.cell C.length) (C ++ [.dt []])) : W (mDNewT sl C) QD := W.ok h
theorem w_dgetT {mo : ME} (h : W (mo sl C) fun x C1 => W (mas sl C1) fun ys C2 => ∃ i kvs ks d, x = .cell i ∧ C2[i]? = some (.dt kvs) ∧ keysOf ys = some ks ∧ valD kvs ks = some d ∧ ys.length ≤ sizeLine ∧ QD d C2) : W (mDGetT mo mas sl C) QD :=
  W.bind (h.imp fun x C1 h => W.bind (h.imp fun ys C2 h => by
    obtain ⟨i, kvs, ks, d, rfl, h1, h2, h3, h4, q⟩ := h
    have e : dtAt C2 (.cell i) = some (i, kvs) := by unfold dtAt; simp only [h1]
    simp only [e, h2, h3, if_pos h4]
    exact W.ok q))
theorem w_dputT {mv mo : ME} (h : W (mv sl C) fun d C0 => W (mo sl C0) fun x C1 => W (mas sl C1) fun ys C2 => ∃ i kvs ks, x = .cell i ∧ C2[i]? = some (.dt kvs) ∧ keysOf ys = some ks ∧ ys.length ≤ sizeLine ∧ kvs.length < sizeLine ∧ QS .nx sl (C2.set i (.dt (putD kvs ks d)))) : WS (sDPutT mv mo mas sl C) QS :=
  W.bindS (h.imp fun d C0 h => W.bindS (h.imp fun x C1 h => W.bindS (h.imp fun ys C2 h => by
    obtain ⟨i, kvs, ks, rfl, h1, h2, h4, h5, q⟩ := h
    have e : dtAt C2 (.cell i) = some (i, kvs) := by unfold dtAt; simp only [h1]
    simp only [e, h2, if_pos (And.intro h4 h5)]
    exact WS.ok q)))
theorem w_lenT2 {i : Nat} {kvs : List (List Key × D)} (h1 : C[i]? = some (.dt kvs)) (q : QD (.int kvs.length) C) : W (on1 gLenT [.cell i] C) QD := by
  have e : dtAt C (.cell i) = some (i, kvs) := by unfold dtAt; simp only [h1]
  refine W.of (a := .int kvs.length) (C := C) ?_ q
  show gLenT (.cell i) C = _
  unfold gLenT
  simp only [e]
end
end Nv

namespace Nv
open PySem PySem.Spec PyProof.Rows L2
/-! stores that end in known cells -/
section
variable {A X : Store} {k i : Nat} {c d : Cell}
theorem at_app : (A ++ X)[A.length + k]? = X[k]? := by rw [List.getElem?_append_right (by omega)]; simp
theorem at_app0 : (A ++ X)[A.length]? = X[0]? := by rw [List.getElem?_append_right (by omega)]; simp
theorem at_lo (h : A[i]? = some c) : (A ++ X)[i]? = some c := by rw [List.getElem?_append_left (List.getElem?_eq_some_iff.mp h).1, h]
theorem set_app : (A ++ X).set (A.length + k) c = A ++ X.set k c := by rw [List.set_append_right _ _ (by omega)]; simp
theorem set_app0 : (A ++ X).set A.length c = A ++ X.set 0 c := by rw [List.set_append_right _ _ (by omega)]; simp
end
section
variable {QD : D → Store → Prop} {QB : Bool → Store → Prop} {QL : List D → Store → Prop} {QS : Fl → Sl → Store → Prop} {QK : Wk → Store → Prop} {sl : Sl} {C A X : Store} {m : ME} {t : MG Bool} {mas : MG (List D)} {u : MS} {g : MT} {gd : Gd} {ds : List D} {c : Bool} {own : List Nat} {mi : MI}
/-! lists that are cells or frozen -/
theorem IsLst.ix {x : D} {i : Int} {d : D} (h : IsLst C x ds) (e : atI ds i = some d) (q : QD d C) : W (gIx x (.int i) C) QD := by
  cases h with
  | f => exact w_ixL e q
  | c k ds h => exact w_ixC h e q
theorem IsLst.app {x : D} (h : IsLst C x ds) : IsLst (C ++ X) x ds := by
  cases h with
  | f => exact .f _
  | c k ds h => exact .c _ _ (at_lo h)
theorem IsLst.isL {x : D} (h : IsLst C x ds) : isL C x = true := by
  cases h with
  | f => rfl
  | c k ds h => exact w_chkC h
theorem IsLst.list {x : D} (h : IsLst C x ds) (q : W (newL c ds C) QD) : W (on1 (gList c) [x] C) QD := by
  have e : seqOf C x = some ds := by
    cases h with
    | f => rfl
    | c k ds h => exact lstAt_lst h
  show W (match seqOf C x with
    | some ds => newL c ds C
    | none => .no) QD
  rw [e]
  exact q
/-! data alike: lists may be cells -/
inductive Alk (C : Store) : Nat → D → D → Prop
  | int (n : Nat) (i : Int) : Alk C (n + 1) (.int i) (.int i)
  | str (n : Nat) (i : Str) : Alk C (n + 1) (.str i) (.str i)
  | bl (n : Nat) (i : Bool) : Alk C (n + 1) (.bl i) (.bl i)
  | non (n : Nat) : Alk C (n + 1) .non .non
  | lst (n : Nat) (x y : D) (xs ys : List D) (hx : IsLst C x xs) (hy : IsLst C y ys) (hl : xs.length = ys.length) (ll : ys.length ≤ 1000000) (h : ∀ (i : Nat) (a b : D), xs[i]? = some a → ys[i]? = some b → Alk C n a b) : Alk C (n + 1) x y
  | tup (n : Nat) (xs ys : List D) (hl : xs.length = ys.length) (ll : ys.length ≤ 1000000) (h : ∀ (i : Nat) (a b : D), xs[i]? = some a → ys[i]? = some b → Alk C n a b) : Alk C (n + 1) (.tup xs) (.tup ys)
theorem Alk.map {A : Type} {f : A → D} {n : Nat} {x y : D} {l : List A} (h : ∀ a ∈ l, Alk C n (f a) (f a)) (hx : IsLst C x (l.map f)) (hy : IsLst C y (l.map f)) (ll : l.length ≤ 1000000) : Alk C (n + 1) x y := by
  refine .lst _ _ _ _ _ hx hy rfl (by simpa using ll) fun i a b ha hb => ?_
  rw [ha] at hb
  cases hb
  rw [List.getElem?_map, Option.map_eq_some_iff] at ha
  obtain ⟨z, hz, rfl⟩ := ha
  exact h z (List.mem_of_getElem? hz)
theorem Alk.ints {n : Nat} {x y : D} {l : List Int} (hx : IsLst C x (l.map D.int)) (hy : IsLst C y (l.map D.int)) (ll : l.length ≤ 1000000) : Alk C (n + 2) x y := Alk.map (fun a _ => .int _ a) hx hy ll
theorem forall2 {P : D → D → Prop} {a b : D} {xs ys : List D} (h : P a b) (t : ∀ (i : Nat) (a b : D), xs[i]? = some a → ys[i]? = some b → P a b) : ∀ (i : Nat) (x y : D), (a :: xs)[i]? = some x → (b :: ys)[i]? = some y → P x y := by
  intro i x y hx hy
  cases i with
  | zero => cases hx; cases hy; exact h
  | succ i => exact t i x y hx hy
theorem forall0 {P : D → D → Prop} : ∀ (i : Nat) (x y : D), ([] : List D)[i]? = some x → ([] : List D)[i]? = some y → P x y := fun i x y h => nomatch h
theorem Alk.tup2 {n : Nat} {a b a' b' : D} (h1 : Alk C n a a') (h2 : Alk C n b b') : Alk C (n + 1) (.tup [a, b]) (.tup [a', b']) := .tup _ _ _ rfl (by simp) (forall2 h1 (forall2 h2 forall0))
theorem Alk.lst2 {n : Nat} {a b a' b' : D} (h1 : Alk C n a a') (h2 : Alk C n b b') : Alk C (n + 1) (.lst [a, b]) (.lst [a', b']) := .lst _ _ _ _ _ (.f _) (.f _) rfl (by simp) (forall2 h1 (forall2 h2 forall0))
theorem Alk.lst3 {n : Nat} {a b c a' b' c' : D} (h1 : Alk C n a a') (h2 : Alk C n b b') (h3 : Alk C n c c') : Alk C (n + 1) (.lst [a, b, c]) (.lst [a', b', c']) := .lst _ _ _ _ _ (.f _) (.f _) rfl (by simp) (forall2 h1 (forall2 h2 (forall2 h3 forall0)))
/-! what repr shows -/
structure Shw (x : D) (w dp : Nat) (p : PyData) : Prop where
  to : ∀ C, toP C x = some p
  sh : p.showable = true
  la : p.canLay0 = true
  de : p.depth ≤ dp
  we : p.weight ≤ w
  si : p.intsShort 13 = true
theorem toPs_map {A : Type} {f : A → D} {p : A → PyData} (h : ∀ a C, toP C (f a) = some (p a)) (C : Store) : ∀ l : List A, toPs C (l.map f) = some (l.map p)
  | [] => rfl
  | x :: l => by
    show (match toP C (f x), toPs C (l.map f) with
      | some p, some ps => some (p :: ps)
      | _, _ => none) = _
    rw [h, toPs_map h C l]
    rfl
theorem Shw.int {i : Int} (h : smI i) : Shw (.int i) 41 0 (.int i) where
  to := fun _ => rfl
  sh := by
    have := show_ints (l := [i]) (fun x hx => by cases List.mem_singleton.mp hx; exact h)
    have this : ((PyData.int i).showable && true) = true := this
    rwa [Bool.and_true] at this
  la := rfl
  de := Nat.le_refl _
  we := by
    show (if i == 0 then 0 else i.natAbs.log2 + 1) ≤ 41
    have := log_int h
    split <;> omega
  si := short_int h
theorem depthAll_le {n : Nat} : ∀ {l : List PyData}, (∀ x ∈ l, x.depth ≤ n) → PyData.depthAll l ≤ n
  | [], _ => Nat.zero_le _
  | x :: l, h => by
    show max x.depth (PyData.depthAll l) ≤ n
    exact Nat.max_le.mpr ⟨h x List.mem_cons_self, depthAll_le fun y hy => h y (List.mem_cons_of_mem _ hy)⟩
theorem weightAll_le {n : Nat} : ∀ {l : List PyData}, (∀ x ∈ l, x.weight ≤ n) → PyData.weightAll l ≤ (n + 1) * l.length
  | [], _ => Nat.le_refl _
  | x :: l, h => by
    show x.weight + 1 + PyData.weightAll l ≤ (n + 1) * (l.length + 1)
    have h1 := h x List.mem_cons_self
    have h2 := weightAll_le fun y hy => h y (List.mem_cons_of_mem x hy)
    rw [Nat.mul_succ]
    omega
theorem showAll {l : List PyData} (h : ∀ x ∈ l, x.showable = true) : PyData.showableAll l = true := by
  induction l with
  | nil => rfl
  | cons x l ih =>
    show (x.showable && PyData.showableAll l) = true
    rw [h x List.mem_cons_self, ih fun y hy => h y (List.mem_cons_of_mem _ hy)]
    rfl
theorem layAll {l : List PyData} (h : ∀ x ∈ l, x.canLay0 = true) : PyData.canLayAll0 l = true := by
  induction l with
  | nil => rfl
  | cons x l ih =>
    show (x.canLay0 && PyData.canLayAll0 l) = true
    rw [h x List.mem_cons_self, ih fun y hy => h y (List.mem_cons_of_mem _ hy)]
    rfl
theorem shortAll {l : List PyData} (h : ∀ x ∈ l, x.intsShort 13 = true) : PyData.intsShortAll 13 l = true := by
  induction l with
  | nil => rfl
  | cons x l ih =>
    show (x.intsShort 13 && PyData.intsShortAll 13 l) = true
    rw [h x List.mem_cons_self, ih fun y hy => h y (List.mem_cons_of_mem _ hy)]
    rfl
theorem Shw.map {A : Type} {f : A → D} {p : A → PyData} {l : List A} {w dp : Nat} (hp : ∀ a C, toP C (f a) = some (p a)) (h : ∀ a ∈ l, Shw (f a) w dp (p a)) : Shw (.lst (l.map f)) ((w + 1) * l.length) (dp + 1) (.list (l.map p)) where
  to := fun C => by
    show (toPs C (l.map f)).map PyData.list = _
    rw [toPs_map hp]
    rfl
  sh := showAll fun x hx => by obtain ⟨a, ha, rfl⟩ := List.mem_map.mp hx; exact (h a ha).sh
  la := layAll fun x hx => by obtain ⟨a, ha, rfl⟩ := List.mem_map.mp hx; exact (h a ha).la
  de := Nat.succ_le_succ (depthAll_le fun x hx => by obtain ⟨a, ha, rfl⟩ := List.mem_map.mp hx; exact (h a ha).de)
  we := by
    have := weightAll_le (n := w) (l := l.map p) fun x hx => by obtain ⟨a, ha, rfl⟩ := List.mem_map.mp hx; exact (h a ha).we
    rw [List.length_map] at this
    exact this
  si := shortAll fun x hx => by obtain ⟨a, ha, rfl⟩ := List.mem_map.mp hx; exact (h a ha).si
theorem Shw.ints {l : List Int} (h : ∀ x ∈ l, smI x) : Shw (.lst (l.map D.int)) (42 * l.length) 1 (.list (l.map PyData.int)) := Shw.map (fun _ _ => rfl) fun a ha => Shw.int (h a ha)
theorem Shw.tup2 {a b : D} {p q : PyData} {w1 w2 d1 d2 : Nat} (h1 : Shw a w1 d1 p) (h2 : Shw b w2 d2 q) : Shw (.tup [a, b]) (w1 + w2 + 2) (max d1 d2 + 1) (.tuple [p, q]) where
  to := fun C => by
    show (match toP C a, (match toP C b, (some [] : Option (List PyData)) with
      | some p, some ps => some (p :: ps)
      | _, _ => none) with
      | some p, some ps => some (p :: ps)
      | _, _ => none).map PyData.tuple = _
    rw [h1.to, h2.to]
    rfl
  sh := by show (p.showable && (q.showable && true)) = true; rw [h1.sh, h2.sh]; rfl
  la := by show (p.canLay0 && (q.canLay0 && true)) = true; rw [h1.la, h2.la]; rfl
  de := by
    show max p.depth (max q.depth 0) + 1 ≤ _
    have := h1.de
    have := h2.de
    omega
  we := by
    show p.weight + 1 + (q.weight + 1 + 0) ≤ _
    have := h1.we
    have := h2.we
    omega
  si := by show (p.intsShort 13 && (q.intsShort 13 && true)) = true; rw [h1.si, h2.si]; rfl
theorem Shw.lst2 {a b : D} {p q : PyData} {w1 w2 d1 d2 : Nat} (h1 : Shw a w1 d1 p) (h2 : Shw b w2 d2 q) : Shw (.lst [a, b]) (w1 + w2 + 2) (max d1 d2 + 1) (.list [p, q]) where
  to := fun C => by
    show (match toP C a, (match toP C b, (some [] : Option (List PyData)) with
      | some p, some ps => some (p :: ps)
      | _, _ => none) with
      | some p, some ps => some (p :: ps)
      | _, _ => none).map PyData.list = _
    rw [h1.to, h2.to]
    rfl
  sh := by show (p.showable && (q.showable && true)) = true; rw [h1.sh, h2.sh]; rfl
  la := by show (p.canLay0 && (q.canLay0 && true)) = true; rw [h1.la, h2.la]; rfl
  de := by
    show max p.depth (max q.depth 0) + 1 ≤ _
    have := h1.de
    have := h2.de
    omega
  we := by
    show p.weight + 1 + (q.weight + 1 + 0) ≤ _
    have := h1.we
    have := h2.we
    omega
  si := by show (p.intsShort 13 && (q.intsShort 13 && true)) = true; rw [h1.si, h2.si]; rfl
/-- the store as it was, then new cells; two of them come out -/
theorem fin_two0 {Y : Store} {a b : Cell} {j k : Nat} (hk : Y[j]? = some a) (hk2 : Y[k]? = some b) (hjk : j ≠ k) (ha : closedC 0 a = true) (hb : closedC 0 b = true) (h : QD (.tup [.cell C.length, .cell (C.length + 1)]) (C ++ [a, b])) :
    W (fin C (.tup [.cell (C.length + j), .cell (C.length + k)]) (C ++ Y)) QD := by
  refine W.of (a := .tup [.cell C.length, .cell (C.length + 1)]) (C := C ++ [a, b]) ?_ h
  unfold fin
  rw [if_pos (same_cond C Y)]
  simp only [at_app, hk, hk2]
  rw [if_pos ⟨by omega, by omega, by omega, closedC_mono (Nat.zero_le _) _ ha, closedC_mono (Nat.zero_le _) _ hb⟩, List.take_left' rfl]
/-- .. one of them -/
theorem fin_one0 {Y : Store} {a : Cell} {k : Nat} (hk : Y[k]? = some a) (ha : closedC 0 a = true) (h : QD (.cell C.length) (C ++ [a])) : W (fin C (.cell (C.length + k)) (C ++ Y)) QD := by
  refine W.of (a := .cell C.length) (C := C ++ [a]) ?_ h
  unfold fin
  rw [if_pos (same_cond C Y)]
  simp only [at_app, hk]
  rw [if_neg (by omega), if_pos (closedC_mono (Nat.zero_le _) _ ha), List.take_left' rfl]
theorem w_forNil (h : QS .nx sl C) : WS (forM g u [] [] sl C) QS := by
  unfold forM
  rw [if_pos (okG_nil _)]
  exact WS.ok h
theorem w_forCons {d : D} (h : W (g d sl C) fun sl1 C1 => WS (u sl1 C1) (forQ (fun sl2 C2 => WS (forM g u [] ds sl2 C2) QS) QS)) : WS (forM g u [] (d :: ds) sl C) QS := by
  unfold forM
  rw [if_pos (okG_nil _)]
  refine W.bindS (h.imp fun sl1 C1 h => WS.bindS (h.imp fun f sl2 C2 h => ?_))
  cases f with
  | nx => exact h
  | ct => exact h
  | bk => exact WS.ok h
  | rt d => exact WS.ok h
theorem w_forq {P : Sl → Store → Prop} (h : P sl C) : forQ P QS .nx sl C := h
theorem w_forqC {P : Sl → Store → Prop} (h : P sl C) : forQ P QS .ct sl C := h
theorem w_forqR {P : Sl → Store → Prop} {d : D} (h : QS (.rt d) sl C) : forQ P QS (.rt d) sl C := h
theorem w_forqB {P : Sl → Store → Prop} (h : QS .nx sl C) : forQ P QS .bk sl C := h
theorem w_inT {neg : Bool} {x : Str} {l : List Str} (q : QD (.bl (if neg then !(l.any fun y => y == x) else l.any fun y => y == x)) C) : W (gIn neg (.str x) (.tup (l.map D.str)) C) QD := by
  refine W.of (a := .bl _) (C := C) ?_ q
  have h1 : (l.map D.str).all flatD = true := by simp [flatD]
  have h2 : inF (.str x) (l.map D.str) = l.any fun y => y == x := by
    unfold inF
    rw [List.any_map]
    rfl
  show (if (flatD (.str x) && (l.map D.str).all flatD) = true then R.ok (D.bl (if neg then !inF (.str x) (l.map D.str) else inF (.str x) (l.map D.str)), C) else .no) = _
  rw [h1, h2]
  rfl
theorem low_of {i : Int} (h1 : -1000000 ≤ i) (h2 : i ≤ 1000000) : lowI i = true := by
  unfold lowI
  rw [Bool.and_eq_true]
  exact ⟨decide_eq_true (by omega), decide_eq_true (by omega)⟩
theorem len_le {l : List D} (h : l.length ≤ 10000000) : l.length ≤ sizeLine := Nat.le_trans h (by decide)
theorem atI_map {A : Type} {f : A → D} {l : List A} {i : Int} {x : A} (h0 : 0 ≤ i) (h : l[i.toNat]? = some x) : atI (l.map f) i = some (f x) := by
  have hl := (List.getElem?_eq_some_iff.mp h).1
  unfold atI
  rw [ixN_int h0 (by simp; omega), Option.bind_some, List.getElem?_map, h]
  rfl
theorem atI_last {A : Type} {f : A → D} {l : List A} {x : A} (h : l.getLast? = some x) : atI (l.map f) (-1) = some (f x) := by
  have hl : 0 < l.length := by cases l with
    | nil => cases h
    | cons a l => simp
  unfold atI ixN
  rw [if_neg (by decide), if_pos (by simp; omega)]
  rw [show ((-1 : Int) + ((l.map f).length : Int)).toNat = l.length - 1 from by simp; omega]
  rw [Option.bind_some, List.getElem?_map, ← List.getLast?_eq_getElem?, h]
  rfl
/-! a cut of a list -/
theorem cutD_map {A : Type} (f : A → D) (l : List A) (a b : Option Int) : cutD (l.map f) a b = ((l.drop (HT.sIx l.length 0 a)).take (HT.sIx l.length l.length b - HT.sIx l.length 0 a)).map f := by
  unfold cutD
  rw [List.length_map, ← List.map_drop, ← List.map_take]
theorem closedDs_map {A : Type} {f : A → D} {n : Nat} (h : ∀ a, closedD n (f a) = true) : ∀ l : List A, closedDs n (l.map f) = true
  | [] => rfl
  | x :: l => by
    show (closedD n (f x) && closedDs n (l.map f)) = true
    rw [h, closedDs_map h l]
    rfl
/-! and, or of values with no effect -/
theorem w_andV {ma mb : ME} {a b : Bool} (h : W (ma sl C) fun x C1 => x = .bl a ∧ C1 = C) (h2 : W (mb sl C) fun x C1 => x = .bl b ∧ C1 = C) (q : QD (.bl (a && b)) C) : W (mAnd ma mb sl C) QD := by
  refine w_and (h.imp fun x C1 h => ?_)
  obtain ⟨rfl, rfl⟩ := h
  refine ⟨a, rfl, ?_⟩
  cases a with
  | true => rw [if_pos rfl]; exact h2.imp fun x C1 h => by obtain ⟨rfl, rfl⟩ := h; exact q
  | false => rw [if_neg Bool.false_ne_true]; exact q
theorem w_orV {ma mb : ME} {a b : Bool} (h : W (ma sl C) fun x C1 => x = .bl a ∧ C1 = C) (h2 : W (mb sl C) fun x C1 => x = .bl b ∧ C1 = C) (q : QD (.bl (a || b)) C) : W (mOr ma mb sl C) QD := by
  refine w_or (h.imp fun x C1 h => ?_)
  obtain ⟨rfl, rfl⟩ := h
  refine ⟨a, rfl, ?_⟩
  cases a with
  | true => rw [if_pos rfl]; exact q
  | false => rw [if_neg Bool.false_ne_true]; exact h2.imp fun x C1 h => by obtain ⟨rfl, rfl⟩ := h; exact q
theorem w_tAndV {ta tb : MG Bool} {a b : Bool} (h : W (ta sl C) fun x C1 => x = a ∧ C1 = C) (h2 : W (tb sl C) fun x C1 => x = b ∧ C1 = C) (q : QB (a && b) C) : W (tAndM ta tb sl C) QB := by
  refine w_tAnd (h.imp fun x C1 h => ?_)
  obtain ⟨rfl, rfl⟩ := h
  cases x with
  | true => rw [if_pos rfl]; exact h2.imp fun x C1 h => by obtain ⟨rfl, rfl⟩ := h; exact q
  | false => rw [if_neg Bool.false_ne_true]; exact q
theorem w_tOrV {ta tb : MG Bool} {a b : Bool} (h : W (ta sl C) fun x C1 => x = a ∧ C1 = C) (h2 : W (tb sl C) fun x C1 => x = b ∧ C1 = C) (q : QB (a || b) C) : W (tOrM ta tb sl C) QB := by
  refine w_tOr (h.imp fun x C1 h => ?_)
  obtain ⟨rfl, rfl⟩ := h
  cases x with
  | true => rw [if_pos rfl]; exact q
  | false => rw [if_neg Bool.false_ne_true]; exact h2.imp fun x C1 h => by obtain ⟨rfl, rfl⟩ := h; exact q
/-! equal pairs of lists -/
theorem eqv_two (a b c d : List Int) : PyData.eqv (.tuple [.list (a.map PyData.int), .list (b.map PyData.int)]) (.tuple [.list (c.map PyData.int), .list (d.map PyData.int)]) = (decide (a = c) && decide (b = d)) := by
  show (PyData.eqvAll _ _ && (PyData.eqvAll _ _ && true)) = _
  rw [eqvAll_ints, eqvAll_ints, Bool.and_true]
theorem shaped_two (a b : List Int) : SeqAt.shaped (.tuple [.list (a.map PyData.int), .list (b.map PyData.int)]) = true := by
  show ((PyData.canLayAll0 _ && (PyData.canLayAll0 _ && true)) && decide (max (PyData.depthAll _ + 1) (max (PyData.depthAll _ + 1) 0) + 1 ≤ 64)) = true
  rw [lay_ints, lay_ints, depth_ints, depth_ints]
  decide
theorem w_eqSt {a b c d : List Int} (q : QD (.bl (decide (a = c) && decide (b = d))) C) : W (gEq (.tup [.lst (a.map D.int), .lst (b.map D.int)]) (.tup [.lst (c.map D.int), .lst (d.map D.int)]) C) QD := by
  refine w_eqP (toP_two _ _) (toP_two _ _) (shaped_two _ _) (shaped_two _ _) (fun a e => by cases e) ?_
  rwa [eqv_two]
/-! ends with closed values -/
theorem fin_closed1 {C1 Y : Store} {d : D} (hl : C1.length = C.length) (hc : ClS C1) (hd : closedD 0 d = true) (h : QD d C1) : W (fin C d (C1 ++ Y)) QD := by
  refine W.of (a := d) (C := C1) ?_ h
  unfold fin
  rw [if_pos (app_cond hl (hc.at _))]
  split
  · simp [closedD] at hd
  · simp [closedD, closedDs] at hd
  · rw [if_pos (closedD_mono (Nat.zero_le _) d hd), app_take hl]
theorem fin_closed {Y : Store} {d : D} (hd : closedD 0 d = true) (h : QD d C) : W (fin C d (C ++ Y)) QD := by
  refine W.of (a := d) (C := C) ?_ h
  unfold fin
  rw [if_pos (same_cond C Y)]
  split
  · simp [closedD] at hd
  · simp [closedD, closedDs] at hd
  · rw [if_pos (closedD_mono (Nat.zero_le _) d hd), List.take_left' rfl]
theorem fin_closed0 {d : D} (hd : closedD 0 d = true) (h : QD d C) : W (fin C d C) QD := by
  have := fin_closed (Y := []) hd h
  rwa [List.append_nil] at this
theorem fin_closed10 {C1 : Store} {d : D} (hl : C1.length = C.length) (hc : ClS C1) (hd : closedD 0 d = true) (h : QD d C1) : W (fin C d C1) QD := by
  have := fin_closed1 (Y := []) hl hc hd h
  rwa [List.append_nil] at this
/-- a value without cells stays as it is; the new cells go -/
theorem w_fzV {n : Nat} (h : W (m sl C) fun d C' => ∃ C1 Y, C' = C1 ++ Y ∧ C1.length = C.length ∧ ClS C1 ∧ closedD 0 d = true ∧ QD d C1) : W (mFz n m sl C) QD := by
  refine W.bind (h.imp fun d C' h => ?_)
  obtain ⟨C1, Y, rfl, hl, hc, hd, q⟩ := h
  simp only [frz_id n _ d hd]
  exact fin_closed1 hl hc hd q
/-! blocks whose cells go -/
def gcQ (n : Nat) (ks : List Nat) (QS : Fl → Sl → Store → Prop) : Fl → Sl → Store → Prop := fun f sl1 C1 => match f with
  | .nx => ∃ C2 Y, C1 = C2 ++ Y ∧ C2.length = n ∧ ClS C2 ∧ slOk n (wipeS sl1 ks) = true ∧ QS .nx (wipeS sl1 ks) C2
  | .ct => ∃ C2 Y, C1 = C2 ++ Y ∧ C2.length = n ∧ ClS C2 ∧ slOk n (wipeS sl1 ks) = true ∧ QS .ct (wipeS sl1 ks) C2
  | f => QS f sl1 C1
theorem w_gc {ks : List Nat} (h : WS (u sl C) (gcQ C.length ks QS)) : WS (sGc ks u sl C) QS := WS.bindS (WS.imp h fun f sl1 C1 h => by
  cases f with
  | nx =>
    obtain ⟨C2, Y, rfl, hl, hc, hs, q⟩ := h
    have e : C.length ≤ (C2 ++ Y).length ∧ (∀ (i : Nat), i < C.length → (C2 ++ Y)[i]? = C[i]? ∨ ∃ c, (C2 ++ Y)[i]? = some c ∧ closedC C.length c = true) ∧ slOk C.length (wipeS sl1 ks) = true := ⟨(app_cond hl (hc.at _)).1, (app_cond hl (hc.at _)).2, hs⟩
    simp only [if_pos e]
    refine WS.ok ?_
    rw [app_take hl]
    exact q
  | ct =>
    obtain ⟨C2, Y, rfl, hl, hc, hs, q⟩ := h
    have e : C.length ≤ (C2 ++ Y).length ∧ (∀ (i : Nat), i < C.length → (C2 ++ Y)[i]? = C[i]? ∨ ∃ c, (C2 ++ Y)[i]? = some c ∧ closedC C.length c = true) ∧ slOk C.length (wipeS sl1 ks) = true := ⟨(app_cond hl (hc.at _)).1, (app_cond hl (hc.at _)).2, hs⟩
    simp only [if_pos e]
    refine WS.ok ?_
    rw [app_take hl]
    exact q
  | rt d => exact WS.ok h
  | bk => exact WS.ok h)
theorem gc_nil {ks : List Nat} (hs : slOk 0 (wipeS sl ks) = true) (q : QS .nx (wipeS sl ks) []) : gcQ ([] : Store).length ks QS .nx sl C := ⟨[], C, rfl, rfl, ClS.nil, hs, q⟩
theorem gc_r {n : Nat} {ks : List Nat} {d : D} (q : QS (.rt d) sl C) : gcQ n ks QS (.rt d) sl C := q
theorem gc_b {n : Nat} {ks : List Nat} (q : QS .bk sl C) : gcQ n ks QS .bk sl C := q
theorem w_scut {QS' : Fl → Sl → Store → Prop} {o : RS} (h : WS o QS') (k : ∀ f sl C, QS' f sl C → QS f sl C) : WS o QS := WS.imp h k
theorem w_runK {n : Nat} {ds : List D} (h : WS (u (ds.map some ++ List.replicate (n - ds.length) none) C) fun f _ C' => match f with
    | .nx => QD .non C'
    | .rt d => QD d C'
    | _ => False) : W (runK n u ds C) QD := WS.bind (h.imp fun f sl C' h => by
  cases f with
  | nx => exact W.ok h
  | rt d => exact W.ok h
  | bk => exact h.elim
  | ct => exact h.elim)
theorem fin_one1 {C1 Y : Store} {a : Cell} {j : Nat} (hl : C1.length = C.length) (hc : ClS C1) (hk : Y[j]? = some a) (ha : closedC 0 a = true) (h : QD (.cell C.length) (C1 ++ [a])) : W (fin C (.cell (C1.length + j)) (C1 ++ Y)) QD := by
  refine W.of (a := .cell C.length) (C := C1 ++ [a]) ?_ h
  unfold fin
  rw [if_pos (app_cond hl (hc.at _))]
  simp only [at_app, hk]
  rw [if_neg (by omega), if_pos (closedC_mono (Nat.zero_le _) _ ha), app_take hl]
theorem fin_two1 {C1 Y : Store} {a b : Cell} {j k : Nat} (hl : C1.length = C.length) (hc : ClS C1) (hk : Y[j]? = some a) (hk2 : Y[k]? = some b) (hjk : j ≠ k) (ha : closedC 0 a = true) (hb : closedC 0 b = true) (h : QD (.tup [.cell C.length, .cell (C.length + 1)]) (C1 ++ [a, b])) :
    W (fin C (.tup [.cell (C1.length + j), .cell (C1.length + k)]) (C1 ++ Y)) QD := by
  refine W.of (a := .tup [.cell C.length, .cell (C.length + 1)]) (C := C1 ++ [a, b]) ?_ h
  unfold fin
  rw [if_pos (app_cond hl (hc.at _))]
  simp only [at_app, hk, hk2]
  rw [if_pos ⟨by omega, by omega, by omega, closedC_mono (Nat.zero_le _) _ ha, closedC_mono (Nat.zero_le _) _ hb⟩, app_take hl]
/-- a list of numbers, each of an effect upon the store -/
theorem w_lcEff {Q : List D → Store → Prop} (P : Store → Prop) (B : Nat → Int → Prop) (hg : ∀ C, P C → okG gd C)
    (step : ∀ i d C, ds[i]? = some d → P C → W (g d sl C) fun sl1 C1 => W (m sl1 C1) fun e C2 => ∃ x, e = .int x ∧ B i x ∧ P C2)
    (h0 : P C) (q : ∀ (xs : List Int) C', xs.length = ds.length → (∀ i x, xs[i]? = some x → B i x) → P C' → Q (xs.map D.int) C') : W (lcM g tTrue m gd sl ds C) Q := by
  refine w_lcM (fun i acc C' => ∃ xs : List Int, acc = xs.map D.int ∧ xs.length = i ∧ (∀ j x, xs[j]? = some x → B j x) ∧ P C') (fun _ _ _ h => hg _ h.choose_spec.2.2.2) (fun i d acc C' hd h => ?_) (fun zs C' h => ?_) ⟨[], rfl, rfl, (fun _ _ h => nomatch h), h0⟩
  · obtain ⟨xs, rfl, hl, hB, hP⟩ := h
    refine (step i d C' hd hP).imp fun sl1 C1 h => w_tTrue ?_
    rw [if_pos rfl]
    refine W.imp h fun e C2 h => ?_
    obtain ⟨x, rfl, hx, hP2⟩ := h
    refine ⟨xs ++ [x], by simp, by simp [hl], fun j y hj => ?_, hP2⟩
    by_cases hji : j < xs.length
    · rw [List.getElem?_append_left hji] at hj
      exact hB j y hj
    · rw [List.getElem?_append_right (by omega)] at hj
      cases hk : j - xs.length with
      | zero =>
        rw [hk] at hj
        cases hj
        have : j = i := by omega
        subst this
        exact hx
      | succ n => rw [hk] at hj; simp at hj
  · obtain ⟨xs, rfl, hl, hB, hP⟩ := h
    exact q xs C' hl hB hP
theorem rgD_length (a b : Int) : (rgD a b).length = (b - a).toNat := by simp [rgD]
theorem rgDown_length (a b : Int) : (rgDown a b).length = (a - b).toNat := by simp [rgDown]
theorem ite_cut {S : Type} {b : Bool} {o1 o2 : R (S × Store)} {Q : S → Store → Prop} (Q' : S → Store → Prop) (h1 : b = true → W o1 Q') (h2 : b = false → W o2 Q') (k : ∀ a C, Q' a C → Q a C) : if b = true then W o1 Q else W o2 Q := by
  cases b with
  | true => exact (h1 rfl).imp k
  | false => exact (h2 rfl).imp k
/-- frozen: a pair of new lists -/
theorem w_fzS {n : Nat} (h : W (m sl C) fun d C1 => ∃ (xs ys : List D), d = .tup [.cell C.length, .cell (C.length + 1)] ∧ C1 = C ++ [.lst xs, .lst ys] ∧ closedDs 0 xs = true ∧ closedDs 0 ys = true ∧ QD (.tup [.lst xs, .lst ys]) C) : W (mFz (n + 2) m sl C) QD := by
  refine W.bind (h.imp fun d C1 h => ?_)
  obtain ⟨xs, ys, rfl, rfl, h1, h2, q⟩ := h
  have e1 : (C ++ [Cell.lst xs, Cell.lst ys])[C.length]? = some (.lst xs) := at_app0
  have e2 : (C ++ [Cell.lst xs, Cell.lst ys]).set C.length (.fz xs) = C ++ [.fz xs, .lst ys] := set_app0
  have e3 : (C ++ [Cell.fz xs, Cell.lst ys])[C.length + 1]? = some (.lst ys) := at_app
  have e4 : (C ++ [Cell.fz xs, Cell.lst ys]).set (C.length + 1) (.fz ys) = C ++ [.fz xs, .fz ys] := set_app
  have f1 : frz (n + 1) (.cell C.length) (C ++ [Cell.lst xs, Cell.lst ys]) = some (.lst xs, C ++ [.fz xs, .lst ys]) := by
    unfold frz
    simp only [e1, e2]
    rw [frzL_id _ xs fun x hx => frz_id n _ x (closed_mem h1 hx)]
    rfl
  have f2 : frz (n + 1) (.cell (C.length + 1)) (C ++ [Cell.fz xs, Cell.lst ys]) = some (.lst ys, C ++ [.fz xs, .fz ys]) := by
    unfold frz
    simp only [e3, e4]
    rw [frzL_id _ ys fun x hx => frz_id n _ x (closed_mem h2 hx)]
    rfl
  have f3 : frz (n + 2) (.tup [.cell C.length, .cell (C.length + 1)]) (C ++ [Cell.lst xs, Cell.lst ys]) = some (.tup [.lst xs, .lst ys], C ++ [.fz xs, .fz ys]) := by
    show (frzL (frz (n + 1)) _ _).bind _ = _
    unfold frzL
    rw [f1, Option.bind_some]
    unfold frzL
    rw [f2, Option.bind_some]
    rfl
  simp only [f3]
  refine fin_closed ?_ q
  show (closedDs 0 xs && (closedDs 0 ys && true)) = true
  rw [h1, h2]
  rfl
/-- .. one new list -/
theorem w_fzL {n : Nat} (h : W (m sl C) fun d C1 => ∃ (xs : List D), d = .cell C.length ∧ C1 = C ++ [.lst xs] ∧ closedDs 0 xs = true ∧ QD (.lst xs) C) : W (mFz (n + 1) m sl C) QD := by
  refine W.bind (h.imp fun d C1 h => ?_)
  obtain ⟨xs, rfl, rfl, h1, q⟩ := h
  have e1 : (C ++ [Cell.lst xs])[C.length]? = some (.lst xs) := at_app0
  have e2 : (C ++ [Cell.lst xs]).set C.length (.fz xs) = C ++ [.fz xs] := set_app0
  have f1 : frz (n + 1) (.cell C.length) (C ++ [Cell.lst xs]) = some (.lst xs, C ++ [.fz xs]) := by
    unfold frz
    simp only [e1, e2]
    rw [frzL_id _ xs fun x hx => frz_id n _ x (closed_mem h1 hx)]
    rfl
  simp only [f1]
  exact fin_closed h1 q
end
theorem w_gmNn {i : Nat} {d : D} {sl sl' : Sl} {C : Store} {Q : Sl → Store → Prop} (e : sl.set i (some d) = sl') (h : Q sl' C) : W (gmN i d sl C) Q := by
  subst e
  exact w_gmN h
theorem w_runn {n : Nat} {u : MS} {ds : List D} {C : Store} {sl' : Sl} {QD : D → Store → Prop} (e : ds.map some ++ List.replicate (n - ds.length) none = sl') (h : WS (u sl' C) fun f _ C' => match f with
    | .nx => W (fin C .non C') QD
    | .rt d => W (fin C d C') QD
    | _ => False) : W (runD n u ds C) QD := by
  subst e
  exact w_run h
theorem w_runKn {n : Nat} {u : MS} {ds : List D} {C : Store} {sl' : Sl} {QD : D → Store → Prop} (e : ds.map some ++ List.replicate (n - ds.length) none = sl') (h : WS (u sl' C) fun f _ C' => match f with
    | .nx => QD .non C'
    | .rt d => QD d C'
    | _ => False) : W (runK n u ds C) QD := by
  subst e
  exact w_runK h
theorem gc_niln {QS : Fl → Sl → Store → Prop} {sl sl' : Sl} {C : Store} {ks : List Nat} (e : wipeS sl ks = sl') (hs : slOk 0 sl' = true) (q : QS .nx sl' []) : gcQ ([] : Store).length ks QS .nx sl C := by
  subst e
  exact gc_nil hs q
theorem w_parn {i j : Nat} {mas : MG (List D)} {sl : Sl} {C : Store} {QS : Fl → Sl → Store → Prop} (h : W (mas sl C) fun xs C1 => ∃ x y, xs = [x, y] ∧ ∃ sl', (sl.set i (some x)).set j (some y) = sl' ∧ QS .nx sl' C1) : WS (sPar i j mas sl C) QS :=
  w_par (h.imp fun xs C1 h => by
    obtain ⟨x, y, rfl, sl', rfl, q⟩ := h
    exact ⟨x, y, rfl, q⟩)
theorem slset_i {sl sl' : Sl} {P : Sl → Prop} (e : sl = sl') (h : P sl') : ∃ s, sl = s ∧ P s := ⟨sl', e, h⟩
end Nv

namespace Nv
open PySem PySem.Spec PyProof.Rows L2
section
variable {QD : D → Store → Prop} {QS : Fl → Sl → Store → Prop} {sl : Sl} {C : Store} {m : ME} {t : MG Bool} {u : MS} {g : MT} {gd : Gd} {ds : List D} {A : Type} {φ : A → D}
/-- a comprehension over a list told by things: maps -/
theorem w_lcA {l : List A} {f : A → D} {Q : List D → Store → Prop} (hg : okG gd C) (step : ∀ (i : Nat) (a : A), l[i]? = some a → W (g (φ a) sl C) fun sl1 C1 => W (m sl1 C1) fun e C3 => e = f a ∧ C3 = C) (q : Q (l.map f) C) : W (lcM g tTrue m gd sl (l.map φ) C) Q := by
  refine w_lcM (fun i acc C' => C' = C ∧ acc = (l.take i).map f) (fun _ _ _ h => h.1 ▸ hg) (fun i d acc C' hd h => ?_) (fun zs C' h => ?_) ⟨rfl, rfl⟩
  · obtain ⟨rfl, rfl⟩ := h
    rw [List.getElem?_map, Option.map_eq_some_iff] at hd
    obtain ⟨a, ha, rfl⟩ := hd
    refine (step i a ha).imp fun sl1 C1 h => w_tTrue ?_
    rw [if_pos rfl]
    refine h.imp fun e C3 h => ?_
    obtain ⟨rfl, rfl⟩ := h
    exact ⟨rfl, by rw [List.take_succ, ha]; simp⟩
  · obtain ⟨rfl, rfl⟩ := h
    rw [List.length_map, List.take_length]
    exact q
theorem lt0 : ([] : List D).length < sizeLine := by simp [sizeLine]
theorem lt1 {a : D} : [a].length < sizeLine := by simp [sizeLine]
theorem lt1a {a : D} : (([] : List D) ++ [a]).length < sizeLine := by simp [sizeLine]
end
end Nv

namespace Nv
open PySem PySem.Spec PyProof.Rows L2
/-! calls by keywords alone -/
/-- the keywords' values in the parameters' order -/
def pmV {A : Type} (pm : List Nat) : List A → List A → List A
  | [], ws => if ws.length = pm.length then pm.filterMap (fun i : Nat => ws[i]?) else []
  | _ :: _, _ => []
theorem pmV_nil {A : Type} (pm : List Nat) (ws : List A) : pmV pm [] ws = if ws.length = pm.length then pm.filterMap (fun i : Nat => ws[i]?) else [] := rfl
def DefAtK (K : PySem.W.Frag) (mg : Str → Option Value) (x : Str) (st : Stmt) (ps ks : List Str) (pm : List Nat) : Prop := ∃ f fd, Fun K x x st f fd ∧ mg x = some (.ref f) ∧ KBinds K fd ps ks (pmV pm) (pmV pm)
def CalK (P : Program) (w : World) (K : PySem.W.Frag) (mg : Str → Option Value) (base : Heap) (x : Str) (k n : Nat) (ks : List Str) (pm : List Nat) (mf : MF) : Prop :=
  ∃ f fd ps, FnG P w K mg base k f fd ps (spN K mg n mf) ∧ mg x = some (.ref f) ∧ PySem.W.keepIn K (.ref f) = true ∧ KBinds K fd ps ks (pmV pm) (pmV pm)
section
variable {P : Program} {w : World} {K : PySem.W.Frag} {mg : Str → Option Value} {base : Heap}
theorem CalK.of {x : Str} {st : Stmt} {N ps ks : List Str} {pm : List Nat} {k : Nat} {u : MS} (h : DefAtK K mg x st ps ks pm) (S : FnScope N ps (defScope st))
    (hb : ∀ (f : Addr) (cdv : Value) (A : Around) (outer : List Env) (s : Shared) (H : Hp) (E : XK), Room k (A.deeper (envOfC x (defScope st) s.heap.objs.size f cdv)) → A.guards = some [] →
      NSs (cxOf (L2.CX P w) P w K mg base N x (defScope st) f cdv A outer s H E) E (defBody st) u) : CalK P w K mg base x (k + 1) ps.length ks pm (runD N.length u) := by
  obtain ⟨f, fd, h1, h2, h3⟩ := h
  exact ⟨f, fd, ps, okD h1 S fun cdv A outer s H E hr hg => hb f cdv A outer s H E hr hg, h2, h1.kp, h3⟩
theorem CalK.ofK {x : Str} {st : Stmt} {N ps ks : List Str} {pm : List Nat} {k : Nat} {u : MS} (h : DefAtK K mg x st ps ks pm) (S : FnScope N ps (defScope st))
    (hb : ∀ (f : Addr) (cdv : Value) (A : Around) (outer : List Env) (s : Shared) (H : Hp) (E : XK), Room k (A.deeper (envOfC x (defScope st) s.heap.objs.size f cdv)) → A.guards = some [] →
      NSs (cxOf (L2.CX P w) P w K mg base N x (defScope st) f cdv A outer s H E) E (defBody st) u) : CalK P w K mg base x (k + 1) ps.length ks pm (runK N.length u) := by
  obtain ⟨f, fd, h1, h2, h3⟩ := h
  exact ⟨f, fd, ps, okDK h1 S fun cdv A outer s H E hr hg => hb f cdv A outer s H E hr hg, h2, h1.kp, h3⟩
end
section
variable {X : Cx} {E : XK} {pos p : Pos} {f : Addr} {fd : FuncData} {ps : List Str} {k : Nat} {x : Str}
structure NKs (X : Cx) (E : XK) (kws : List Keyword) (m : MG (List D)) : Prop where
  pk : PK X kws (LG (Reps X.K) X.K X.mg E m)
theorem nk_nil : NKs X E [] aNil := ⟨⟨fun pos pins s σ H Q I h => pk_nil.run pos pins s σ H Q I (by
  obtain ⟨B, F, r, sl, C, hr, hs, o⟩ := h
  exact o F r H [] (.refl _) (.refl _) hr .nil)⟩⟩
theorem nk_cons {nm : Option Str} {e : Expr} {kpos : Pos} {kws : List Keyword} {ma : ME} {mas : MG (List D)} (ha : NE X E e ma) (hr : NKs X E kws mas) : NKs X E (⟨nm, e, kpos⟩ :: kws) (aCons ma mas) :=
  ⟨⟨fun pos pins s σ H Q I h => (pk_cons ha.pe hr.pk).run pos pins s σ H Q I (by
    obtain ⟨B, F, r, sl, C, hr, hs, o⟩ := h
    refine ⟨B, F, r, sl, C, hr, hs, Out.bind (P := Rep X.K) o fun x C1 F1 r1 H1 v e1 e2 hr1 hx o1 => ?_⟩
    refine ⟨B, F1, r1, sl, C1, hr1, hs.mono e1 e2, Out.bind (P := Reps X.K) o1 fun y C2 F2 r2 H2 w e3 e4 hr2 hy o2 => ?_⟩
    exact o2 F2 r2 H2 (v :: w) (.refl _) (.refl _) hr2 (.cons (hx.mono e3 e4) hy))⟩⟩
def mFK (n : Nat) (pm : List Nat) (mf : MF) (mas : MG (List D)) : ME := fun sl C => (mas sl C).bind fun p => if (pmV pm [] p.1).length = n then mf (pmV pm [] p.1) p.2 else .no
end
theorem w_FK {n : Nat} {pm : List Nat} {mf : MF} {mas : MG (List D)} {sl : Sl} {C : Store} {QD : D → Store → Prop} (h : W (mas sl C) fun xs C1 => ∃ ys, pmV pm [] xs = ys ∧ ys.length = n ∧ W (mf ys C1) QD) : W (mFK n pm mf mas sl C) QD := W.bind (h.imp fun xs C1 h => by
  obtain ⟨ys, rfl, hl, q⟩ := h
  simp only [if_pos hl]
  exact q)
theorem pm_i {pm : List Nat} {xs ys : List D} {P : List D → Prop} (e : pmV pm [] xs = ys) (h : P ys) : ∃ zs, pmV pm [] xs = zs ∧ P zs := ⟨ys, e, h⟩
end Nv

namespace Nv
open PySem PySem.Spec PyProof.Rows L2
section
variable {K : PySem.W.Frag} {mg : Str → Option Value} {E : XK} {B F H : Hp} {r : List Addr} {C : Store} {Q : VK} {X : Cx} {a b e o i value kx vx tg it : Expr} {es : List Expr} {m ma mb mo mv mi mk : ME} {mas : MG (List D)} {pos p1 p2 p3 : Pos}
open Classical in
end
/-! reasoning -/
section
variable {QD : D → Store → Prop} {QS : Fl → Sl → Store → Prop} {sl : Sl} {C : Store} {m mo mi mv : ME} {mas : MG (List D)} {n : Nat}
end
end Nv

namespace Nv
open PySem PySem.Spec PyProof.Rows L2
section
variable {X : Cx}
end
section
variable {K : PySem.W.Frag} {mg : Str → Option Value} {E : XK} {X : Cx} {tg it elt : Expr} {pos p1 p2 : Pos}
open Classical in
end
section
variable {X : Cx}
end
section
variable {K : PySem.W.Frag} {mg : Str → Option Value} {E : XK} {X : Cx} {a : Expr} {ma : ME} {pos p1 p2 q1 : Pos}
end
/-! reasoning -/
section
variable {QD : D → Store → Prop} {sl : Sl} {C : Store} {m : ME} {A : Type} {φ : A → D}
end
end Nv

namespace Nv
open PySem PySem.Spec PyProof.Rows L2
/-! a list comprehension of two fors -/
open Classical in
open Classical in
section
variable {K : PySem.W.Frag} {mg : Str → Option Value} {E : XK} {X : Cx} {tg it tg1 it1 elt : Expr} {pos : Pos}
end
section
variable {C : Store} {QD : D → Store → Prop} {sl : Sl} {m : ME} {A : Type} {φ : A → D}
end
end Nv

namespace Nv
open PySem PySem.Spec PyProof.Rows L2
section
variable {K : PySem.W.Frag} {mg : Str → Option Value} {E : XK}
end
section
variable {C : Store} {QD : D → Store → Prop}
end
end Nv

namespace Nv
open PySem PySem.Spec PyProof.Rows L2
section
variable {K : PySem.W.Frag} {mg : Str → Option Value} {E : XK} {B F H : Hp} {r : List Addr} {C : Store} {Q : VK} {X : Cx} {a b c e o i value : Expr} {es : List Expr} {m ma mb mo mv mi : ME} {mas : MG (List D)} {pos p1 p2 p3 : Pos}
def gExtend (x : D) (ds : List D) (C : Store) : RE := match cellOf C x, ds with
  | some (i, xs), [y] => match cellOf C y with
    | some (_, ys) => if xs.length + ys.length ≤ sizeLine then .ok (.non, C.set i (.lst (xs ++ ys))) else .no
    | none => .no
  | _, _ => .no
theorem extendN : MtN K mg E rExtend gExtend := by
  intro B F r H C x v ds vs Q hr hx hd o
  unfold gExtend at o
  split at o
  · rename_i i xs y e
    obtain ⟨a, zs, rfl, h1, h2, h3, h4⟩ := cellOf_ok hr hx e
    obtain ⟨u, w, rfl, h5, h6⟩ := hd
    cases (show w = [] from h6)
    split at o
    · rename_i j ys e2
      obtain ⟨a2, zs2, rfl, k1, k2, k3, k4⟩ := cellOf_ok hr h5 e2
      split at o
      · rename_i hl
        exact ⟨a, a2, zs, zs2, rfl, rfl, h3, k3, by rw [← h4.length, ← k4.length]; exact hl, setc_ok (x := x) (v := .non) (ds := xs) (d := .non) hr h1 h2 (h4.append k4) rfl o⟩
      · exact False.elim o
    · exact False.elim o
  · exact False.elim o
end
/-! their steps -/
section
variable {QD : D → Store → Prop} {QS : Fl → Sl → Store → Prop} {sl : Sl} {C : Store}
theorem w_extend {k j : Nat} {ds es : List D} (hk : C[k]? = some (.lst ds)) (hj : C[j]? = some (.lst es)) (hl : ds.length + es.length ≤ sizeLine) (h : QD .non (C.set k (.lst (ds ++ es)))) : W (gExtend (.cell k) [.cell j] C) QD := by
  refine W.of (a := .non) (C := C.set k (.lst (ds ++ es))) ?_ h
  show (match (mutAt C k).map (fun ds => (k, ds)), [D.cell j] with
    | some (i, xs), [y] => match cellOf C y with
      | some (_, ys) => if xs.length + ys.length ≤ sizeLine then R.ok (D.non, C.set i (.lst (xs ++ ys))) else .no
      | none => .no
    | _, _ => .no) = _
  have e : cellOf C (.cell j) = some (j, es) := by
    show (mutAt C j).map (fun ds => (j, ds)) = _
    rw [mutAt_lst hj]
    rfl
  rw [mutAt_lst hk]
  simp only [Option.map_some, e, if_pos hl]
end
end Nv

namespace Nv
open PySem PySem.Spec PyProof.Rows L2
/-! dicts whose keys are tuples that nest (whole numbers, truths, None) -/
mutual
def NkV (K : PySem.W.Frag) (H : Hp) : NestedKey → V → Prop
  | .none, v => v = .non
  | .num i, v => v = .int i ∨ ∃ b : Bool, v = .bl b ∧ i = if b = true then 1 else 0
  | .text x, v => v = .str x
  | .tup ks, v => ∃ a vs, v = .ref a ∧ SqT K H a vs ∧ NksV K H ks vs
def NksV (K : PySem.W.Frag) (H : Hp) : List NestedKey → List V → Prop
  | [], vs => vs = []
  | k :: ks, vs => ∃ v w, vs = v :: w ∧ NkV K H k v ∧ NksV K H ks w
end
section
variable {X : Cx} {pins : List (Addr × Obj)} {σ : L2.St} {H : Hp} {s : Shared} {a b : Addr} {k : NestedKey} {xs : List (NestedKey × Addr × V)}
mutual
theorem nk_is (I : L2.Inv X pins σ H s) : ∀ (k : NestedKey) {v : V} {u : Value}, NkV X.K H k v → RelV v u → NestedIs s.heap k u
  | .none, _, _, h, r => by
    cases (show _ = V.non from h)
    cases (show _ = Value.none from r)
    exact .none
  | .num i, _, _, h, r => by
    rcases h with rfl | ⟨b, rfl, e⟩
    · obtain ⟨t, rfl⟩ := r
      exact .int i t
    · cases (show _ = Value.bool b from r)
      exact .bool e
  | .text x, _, _, h, r => by
    cases (show _ = V.str x from h)
    obtain ⟨t, rfl⟩ := r
    exact .text x t
  | .tup ks, _, _, h, r => by
    obtain ⟨a, vs, rfl, h1, h2⟩ := h
    cases (show _ = Value.ref a from r)
    obtain ⟨its, rv, ⟨o, e1, e2, n, e3⟩, _⟩ := I.tuple h1
    exact .tup e1 e2 e3 (nks_is I ks h2 (by simpa using rv))
theorem nks_is (I : L2.Inv X pins σ H s) : ∀ (ks : List NestedKey) {vs : List V} {us : List Value}, NksV X.K H ks vs → Vals vs us → NestedAll s.heap ks us
  | [], _, _, h, r => by
    cases (show _ = [] from h)
    cases r
    exact .nil
  | k :: ks, _, _, h, r => by
    obtain ⟨v, w, rfl, h1, h2⟩ := h
    cases r with
    | cons r1 r2 => exact .cons (nk_is I k h1 r1) (nks_is I ks h2 r2)
end
abbrev NdR : List (NestedKey × Addr × V) → List (NestedKey × Addr × Value) → Prop := Paired fun x y => x.1 = y.1 ∧ x.2.1 = y.2.1 ∧ RelV x.2.2 y.2.2
theorem NdR.all {Pr : NestedKey → Addr → Prop} : ∀ {xs : List (NestedKey × Addr × V)} {ys : List (NestedKey × Addr × Value)}, NdR xs ys → (∀ x ∈ xs, Pr x.1 x.2.1) → ∀ y ∈ ys, Pr y.1 y.2.1
  | _, _, .nil, _, _, h => nomatch h
  | _, _, .cons hxy r, hx, y, h => by
    rcases List.mem_cons.mp h with rfl | h
    · rw [← hxy.1, ← hxy.2.1]
      exact hx _ List.mem_cons_self
    · exact NdR.all r (fun x hx' => hx x (List.mem_cons_of_mem _ hx')) y h
def valN (xs : List (NestedKey × Addr × V)) (k : NestedKey) : Option V := (xs.find? fun x => decide (x.1 = k)).map (·.2.2)
theorem NdR.val (k : NestedKey) : ∀ {xs : List (NestedKey × Addr × V)} {ys : List (NestedKey × Addr × Value)}, NdR xs ys → RelO (valN xs k) ((atKey ys k).map (·.2))
  | _, _, .nil => trivial
  | x :: xs, y :: ys, .cons h r => by
    have ih := NdR.val k r
    unfold valN atKey at *
    rw [List.find?_cons, List.find?_cons]
    by_cases hk : x.1 = k
    · rw [decide_eq_true hk, decide_eq_true (h.1.symm.trans hk)]
      exact h.2.2
    · rw [decide_eq_false hk, decide_eq_false fun z => hk (h.1.trans z)]
      exact ih
def putN (xs : List (NestedKey × Addr × V)) (k : NestedKey) (b : Addr) (v : V) : List (NestedKey × Addr × V) :=
  if (valN xs k).isSome = true then xs.map (fun x => if x.1 = k then (x.1, x.2.1, v) else x) else xs ++ [(k, b, v)]
theorem NdR.mapPut {k : NestedKey} {v : V} {u : Value} (rv : RelV v u) : ∀ {xs : List (NestedKey × Addr × V)} {ys : List (NestedKey × Addr × Value)}, NdR xs ys → NdR (xs.map fun x => if x.1 = k then (x.1, x.2.1, v) else x) (ys.map (putAt k u))
  | _, _, .nil => .nil
  | x :: xs, y :: ys, .cons h r => by
    rw [List.map_cons, List.map_cons]
    refine .cons ?_ (NdR.mapPut rv r)
    unfold putAt
    by_cases hk : x.1 = k
    · rw [if_pos hk, if_pos (h.1.symm.trans hk)]
      exact ⟨h.1, h.2.1, rv⟩
    · rw [if_neg hk, if_neg fun z => hk (h.1.trans z)]
      exact h
theorem NdR.put {k : NestedKey} {v : V} {u : Value} (rv : RelV v u) {ys : List (NestedKey × Addr × Value)} (r : NdR xs ys) : NdR (putN xs k b v) (storedH ys k b u) := by
  have e : (valN xs k).isSome = (atKey ys k).isSome := by
    have := (r.val k).isSome_eq
    rwa [Option.isSome_map] at this
  unfold putN storedH
  rw [e]
  split
  · exact r.mapPut rv
  · exact Paired.snoc r ⟨rfl, rfl, rv⟩
end
section
variable {X : Cx} {pins : List (Addr × Obj)} {σ : L2.St} {H : Hp} {s : Shared} {a : Addr} {y v : V} {u r : Value} {o : Option V} {A : Around} {E : Value → Shared → Prop}
end
section
variable {X : Cx} {o i e f value : Expr} {pos pos' tpos cpos apos : Pos} {td ty tv tx : TE}
end
end Nv

namespace Nv
open PySem PySem.Spec PyProof.Rows L2
section
variable {K : PySem.W.Frag} {mg : Str → Option Value} {E : XK} {B F H : Hp} {r : List Addr} {C : Store} {Q : VK} {X : Cx} {a b e o i f value : Expr} {es : List Expr} {m ma mb mo mv mi mz : ME} {mas : MG (List D)} {pos p1 p2 p3 : Pos}
mutual
theorem rep_nk (hF : Same F H) : ∀ (d : D) {k : NestedKey} {v : V}, keyN d = some k → Rep K F r d v → NkV K H k v
  | .non, _, _, e, h => by cases e; exact h
  | .bl b, _, _, e, h => by cases e; exact .inr ⟨b, h, rfl⟩
  | .int i, _, _, e, h => by cases e; exact .inl h
  | .tup ds, k, _, e, h => by
    have e : (keysN ds).map NestedKey.tup = some k := e
    cases g : keysN ds with
    | none => rw [g] at e; cases e
    | some ks =>
      rw [g] at e
      cases e
      obtain ⟨a, vs, rfl, h1, h2⟩ := h
      exact ⟨a, vs, rfl, Same.tup hF h1, reps_nk hF ds g h2⟩
  | .str _, _, _, e, _ => nomatch e
  | .lst _, _, _, e, _ => nomatch e
  | .cell _, _, _, e, _ => nomatch e
  | .edct, _, _, e, _ => nomatch e
  | .fn _, _, _, e, _ => nomatch e
  | .exc _ _ _, _, _, e, _ => nomatch e
theorem reps_nk (hF : Same F H) : ∀ (ds : List D) {ks : List NestedKey} {vs : List V}, keysN ds = some ks → Reps K F r ds vs → NksV K H ks vs
  | [], _, _, e, h => by cases e; exact h
  | d :: ds, ks, _, e, h => by
    have e : (keyN d).bind (fun k => (keysN ds).map (k :: ·)) = some ks := e
    cases g : keyN d with
    | none => rw [g] at e; cases e
    | some k =>
      rw [g, Option.bind_some] at e
      cases g2 : keysN ds with
      | none => rw [g2] at e; cases e
      | some ks' =>
        rw [g2] at e
        cases e
        obtain ⟨v, w, rfl, h1, h2⟩ := h
        exact ⟨v, w, rfl, rep_nk hF d g h1, reps_nk hF ds g2 h2⟩
end
inductive NPs (X : Cx) (E : XK) : List (Option Expr) → List Expr → List (ME × ME) → Prop
  | nil : NPs X E [] [] []
  | cons {k v : Expr} {ks : List (Option Expr)} {vs : List Expr} {mk mv : ME} {rs : List (ME × ME)} (hk : NE X E k mk) (hv : NE X E v mv) (hr : NPs X E ks vs rs) : NPs X E (some k :: ks) (v :: vs) ((mk, mv) :: rs)
theorem NPs.sh {ks : List (Option Expr)} {vs : List Expr} {rs : List (ME × ME)} (h : NPs X E ks vs rs) : ks.all (·.isSome) = true ∧ ks.length = vs.length := by
  induction h with
  | nil => exact ⟨rfl, rfl⟩
  | cons hk hv hr ih => exact ⟨by simpa using ih.1, by simp [ih.2]⟩
end
/-! their steps -/
section
variable {QD : D → Store → Prop} {QS : Fl → Sl → Store → Prop} {sl : Sl} {C : Store} {m mo mi mv mz : ME}
end
end Nv

namespace Nv
open PySem PySem.Spec PyProof.Rows L2
/-! set(a list of whole numbers), and such a set in order -/
section
variable {P : Program} {w : World} {Ar : Around} {Ex : Value → Shared → Prop} {st : Shared}
set_option maxHeartbeats 8000000 in
end
section
variable {X : Cx}
end
section
variable {K : PySem.W.Frag} {mg : Str → Option Value} {E : XK} {X : Cx} {a tg it elt : Expr} {ma : ME} {pos p1 p2 q1 : Pos}
open Classical in
end
section
variable {QD : D → Store → Prop} {C : Store}
end
end Nv

namespace Nv
open PySem PySem.Spec PyProof.Rows L2
/-! a list of data in order: texts, tuples of texts and numbers .. -/
section
variable {X : Cx}
end
open Classical in
section
variable {K : PySem.W.Frag} {mg : Str → Option Value} {E : XK} {B F H : Hp} {r : List Addr} {C : Store}
theorem three (hr : Rel K B F r H C) : ∀ {ds : List D} {vs : List V} {ps : List PyData}, Reps K F r ds vs → toPs C ds = some ps →
    ∃ T : List (D × V × PyData), T.map (·.1) = ds ∧ T.map (·.2.1) = vs ∧ T.map (·.2.2) = ps ∧ ∀ t ∈ T, Rep K F r t.1 t.2.1 ∧ Dp K H t.2.1 t.2.2
  | [], vs, ps, h, e => by
    cases (show vs = [] from h)
    cases e
    exact ⟨[], rfl, rfl, rfl, fun _ h => nomatch h⟩
  | d :: ds, vs, ps, h, e => by
    obtain ⟨v, w, rfl, h1, h2⟩ := h
    cases e1 : toP C d with
    | none =>
      unfold toPs at e
      rw [e1] at e
      cases e
    | some p =>
      cases e2 : toPs C ds with
      | none =>
        unfold toPs at e
        rw [e1, e2] at e
        cases e
      | some qs =>
        unfold toPs at e
        rw [e1, e2] at e
        cases e
        obtain ⟨T, t1, t2, t3, t4⟩ := three hr h2 e2
        refine ⟨(d, v, p) :: T, by rw [← t1]; rfl, by rw [← t2]; rfl, by rw [← t3]; rfl, fun t ht => ?_⟩
        rcases List.mem_cons.mp ht with rfl | ht
        · exact ⟨h1, toP_ok hr h1 e1⟩
        · exact t4 t ht
end
section
variable {C : Store} {QD : D → Store → Prop}
end
end Nv

namespace Nv
open PySem PySem.Spec PyProof.Rows L2
/-! own errors: made, raised -/
section
variable {X : Cx} {e : Expr} {es : List Expr} {ta : TA} {p1 p2 pos : Pos}
/-- an own class whose __init__ is the one of ValueError -/
structure BaseX (K : PySem.W.Frag) (R : Addr) : Prop where
  rd : PySem.W.readsIn K R (.type "type") = true
  ga : PySem.W.specialIn K (.ref R) "__getattribute__" = some (some (.builtin "type.__getattribute__"))
  ini : PySem.W.findCls K (.ref R) (.type "type") "__init__" = some (.val (.builtin "ValueError.__init__"))
/-- what such an __init__ promises: the one field is set -/
def spI (K : PySem.W.Frag) (C : Addr) (f : Str) : Sp := fun vs H Q _ => ∃ (a : Addr) (v : V), vs = [.ref a, v] ∧ OexC K C ∧ PySem.W.findIn K (.ref C) f = some none ∧ H a = some (exo a C none) ∧
  ∀ dx, H dx = none → dx ≠ a → Q .non (upd (upd H dx (exd dx [(f, v)])) a (exo a C (some dx)))
end
def sRaise0 (x : Str) : MS := fun _ C => .ex ⟨x, none⟩ C
/-- what the written part says of such a class, and of its __init__ -/
structure ErrI (P : Program) (w : World) (K : PySem.W.Frag) (mg : Str → Option Value) (base : Heap) (x f : Str) (C : Addr) : Prop where
  at_ : mg x = some (.ref C)
  ox : OexC K C
  nf : PySem.W.findIn K (.ref C) f = some none
  ini : ∃ (fI : Addr) (fd : FuncData), PySem.W.findIn K (.ref C) "__init__" = some (some (.ref fI)) ∧ PySem.W.typeIn K (.ref fI) = some (.type "function") ∧ FnOk P w K mg base CX0 1 fI fd ["self", f] (spI K C f) ∧ Binds K fd ["self", f] []
/-- what must be known of a class whose errors are looked into -/
structure ErrL (K : PySem.W.Frag) (mg : Str → Option Value) (x f : Str) (C : Addr) : Prop where
  at_ : mg x = some (.ref C)
  xf : xfB K C = true
  nf : PySem.W.findIn K (.ref C) f = some none
section
variable {X : Cx} {E : XK} {e : Expr} {m : ME} {p pos rp : Pos} {x f rx : Str} {C : Addr}
/-- an own class without __init__ -/
structure Err0 (K : PySem.W.Frag) (mg : Str → Option Value) (x : Str) (C : Addr) : Prop where
  at_ : mg x = some (.ref C)
  ex : PySem.W.excIn K C [.type "ValueError", .type "Exception", .type "BaseException", .type "object"] "ValueError.__new__" = true
  kp : PySem.W.keepIn K (.ref C) = true
  sb : PySem.W.subIn K (.ref C) (.type "BaseException") = some true
  ty : PySem.W.typeIn K (.ref C) = some (.type "type")
theorem ns_raise0 {t : Str} {j : Nat} {p2 : Pos} (T : Err0 X.K X.mg x C) (hc : X.calm = true) (tk : L2.Takes X (fun cls d _ H => E cls d H)) (hg : Gl X x := by rfl) (hdb : (x == ("__debug__" : Str)) = false := by decide) :
    NS X E (.Raise (some (.Call (.Name x p) [.Constant (.str t) j p2] [] pos)) none rp) (sRaise0 x) := by
  refine ⟨ps_imp (L2.ps_raise hc tk (L2.pmk_own PySem.F.excBase_ValueError T.ex T.at_ T.kp (raises_own T.sb T.ty) hg hdb)) fun De s H q => ?_⟩
  obtain ⟨B, F, r, sl, C0, hr, hs, o⟩ := q
  have o : XOk X.K X.mg E B F r ⟨x, none⟩ C0 := o
  exact o F r H C (.refl _) (.refl _) hr T.at_
end
/-! what may raise inside a try: the wish knows the slots -/
def XT : XK := fun _ _ _ => True
theorem xok_T {K : PySem.W.Frag} {mg : Str → Option Value} {B F : Hp} {r : List Addr} {x : Exn} {C : Store} : XOk K mg XT B F r x C := by
  intro F' r' H' a _ _ _ _
  obtain ⟨c, fl⟩ := x
  cases fl with
  | none => exact True.intro
  | some p => exact fun _ _ _ _ => True.intro
theorem Out.bindT {K : PySem.W.Frag} {mg : Str → Option Value} {E : XK} {B F : Hp} {r : List Addr} {S T S2 T2 : Type} {P : PR S T} {P2 : PR S2 T2} {o : R (S × Store)} {k : S × Store → R (S2 × Store)} {Q : T2 → Hp → Prop} {Q' : T → Hp → Prop} (h : Out P2 K mg E B F r (o.bind k) Q)
    (hk : ∀ (a : S) (C1 : Store) (F1 : Hp) (r1 : List Addr) (H1 : Hp) (b : T), Same F F1 → Ex r r1 → Rel K B F1 r1 H1 C1 → P F1 r1 a b → Out P2 K mg E B F1 r1 (k (a, C1)) Q → Q' b H1) : Out P K mg XT B F r o Q' := by
  cases o with
  | ok p =>
    obtain ⟨a, C1⟩ := p
    exact fun F' r' H' b h1 h2 h3 h4 => hk a C1 F' r' H' b h1 h2 h3 h4 (Out.mono h h1 h2)
  | ex x C => exact xok_T
  | no => exact h
theorem OutS.bindT {K : PySem.W.Frag} {mg : Str → Option Value} {E : XK} {B F : Hp} {r : List Addr} {De : Ends} {S T : Type} {P : PR S T} {o : R (S × Store)} {k : S × Store → RS} {Q : T → Hp → Prop} (h : OutS K mg E B F r (o.bind k) De)
    (hk : ∀ (a : S) (C1 : Store) (F1 : Hp) (r1 : List Addr) (H1 : Hp) (b : T), Same F F1 → Ex r r1 → Rel K B F1 r1 H1 C1 → P F1 r1 a b → OutS K mg E B F1 r1 (k (a, C1)) De → Q b H1) : Out P K mg XT B F r o Q := by
  cases o with
  | ok p =>
    obtain ⟨a, C1⟩ := p
    exact fun F' r' H' b h1 h2 h3 h4 => hk a C1 F' r' H' b h1 h2 h3 h4 (OutS.mono h h1 h2)
  | ex x C => exact xok_T
  | no => exact h
abbrev wAt0 (W : WX) (s : L2.St) : XK := fun cls d H => W cls d s H
def LX (K : PySem.W.Frag) (mg : Str → Option Value) (W : WX) (m : ME) : TE := fun s H Q => ∃ B F r sl C, Rel K B F r H C ∧ Sls K F r sl s ∧ Out (Rep K) K mg (wAt0 W s) B F r (m sl C) Q
def LSX (K : PySem.W.Frag) (mg : Str → Option Value) (W : WX) (m : MS) : TS := fun De s H => ∃ B F r sl C, Rel K B F r H C ∧ Sls K F r sl s ∧ OutS K mg (wAt0 W s) B F r (m sl C) De
structure NEx (X : Cx) (W : WX) (e : Expr) (m : ME) : Prop where
  pe : PE X e (LX X.K X.mg W m)
structure NSx (X : Cx) (W : WX) (st : Stmt) (m : MS) : Prop where
  ps : PS X st (LSX X.K X.mg W m)
structure NSsx (X : Cx) (W : WX) (st : List Stmt) (m : MS) : Prop where
  ps : PSs X st (LSX X.K X.mg W m)
section
variable {X : Cx} {W : WX} {k : Nat} {f : Addr} {fd : FuncData} {ps : List Str} {sp : Sp} {x : Str} {p p1 pos : Pos} {e c : Expr} {es : List Expr} {t : TA} {m : ME} {mas : MG (List D)} {st : Stmt} {xs ys : List Stmt} {u u1 u2 : MS} {mt : MG Bool}
theorem run_fnGS {pins : List (Addr × Obj)} {σ : L2.St} {H : Hp} {s : Shared} {Q : VK} {us : List Value} {vs : List V} (F : FnG X.prog X.w X.K X.mg X.base k f fd ps sp) (hr : Room k X.A) (hgd : X.A.guards = some []) (hb : L2.Binds X.K fd ps [])
    (hx : PassesAt (L2.CX X.prog X.w) X σ (wAt0 W σ)) (I : L2.Inv X pins σ H s) (r : Vals vs us) (h : sp vs H Q (wAt0 W σ)) : wpAny (model X.prog X.w) X.A (call (.ref f) us) (EP X pins σ Q) X.xe s := by
  have hl : (us ++ []).length = ps.length := by
    rw [List.append_nil, ← r.length]
    exact F.len _ _ _ _ h
  have hb1 := hb s us I.kIn hl
  rw [List.append_nil] at hb1
  refine wpAny_call (codeAny_mono (F.run X.A X.stack s H ⟨us, []⟩ us vs Q (wAt0 W σ) hr hgd I.env0 hb1 r h) fun r s' hq => ?_)
  cases r with
  | error z => exact hx pins H s z s' I hq
  | ok fl =>
    cases fl with
    | ret u => exact I.after hq
    | next => exact False.elim hq
    | brk => exact False.elim hq
    | cont => exact False.elim hq
theorem nsx_expr (he : NEx X W e m) (hs : swapsWith e none pos.line X.env = pure false := by rfl) : NSx X W (.Expr e pos) (sDrop m) := ⟨ps_imp (ps_expr he.pe hs) fun De s H q => by
    obtain ⟨B, F, r, sl, C, hr, hs, o⟩ := q
    refine ⟨B, F, r, sl, C, hr, hs, OutS.bind (P := Rep X.K) o fun x C1 F1 r1 H1 v e1 e2 hr1 hx o1 => ?_⟩
    exact OutS.next o1 hr1 (hs.mono e1 e2)⟩
theorem nssx_one (h : NSx X W st u) : NSsx X W [st] u := ⟨pss_one h.ps⟩
end
/-! the try -/
def sTry (mb : MS) (hm : Exn → MS) : MS := fun sl C => match mb sl C with
  | .ex x C' => hm x sl C'
  | o => o
section
variable {X : Cx} {E : XK} {x n : Str} {c : Value} {i : Nat} {body suite : List Stmt} {b₀ : Stmt} {np pos pos' : Pos} {ts : Addr → Value → Option Addr → TS} {mb : MS} {hm : Exn → MS}
end
/-! what an except suite does with the error that it holds -/
section
variable {X : Cx} {E : XK} {x f y n rx : Str} {C : Addr} {i j : Nat} {body : List Stmt} {np p1 p2 p3 p4 pos pos' : Pos} {mb : MS}
end
/-! y = (w, n.f) if isinstance(n, x) and isinstance(n, ValueError) else o -/
section
variable {X : Cx} {E : XK} {x f y n rx w o : Str} {i j : Nat} {body : List Stmt} {np p1 p2 p3 p4 p5 p6 p7 p8 p9 p10 p11 p12 p13 p14 p15 q1 q2 pos pos' : Pos} {k1 k2 k3 : Nat} {mb : MS}
end
end Nv

namespace Nv
open PySem PySem.Spec PyProof.Rows L2
/-! an error that is kept beyond its suite: except R as n: y = n -/
section
variable {X : Cx} {pins : List (Addr × Obj)} {σ : L2.St} {H : Hp} {s : Shared}
end
section
variable {X : Cx} {x n y : Str} {c : Value} {i j : Nat} {body : List Stmt} {np p1 p2 p3 pos pos' : Pos} {tb : WX → TS}
end
/-- the classes of errors that the clause R may hold -/
def KeepF (K : PySem.W.Frag) (mg : Str → Option Value) (cs : List Str) (R : Addr) : Prop := ∀ c ∈ cs, ∀ C : Addr, mg c = some (.ref C) → PySem.W.nsIn K mainGlobals c = some (some (.ref C)) ∧ PySem.W.exmOne K (.ref C) (.ref R) = some true
section
variable {X : Cx} {E : XK} {x n y : Str} {R : Addr} {body : List Stmt} {np p1 p2 p3 pos pos' : Pos} {mb : MS}
end
end Nv

namespace Nv
open PySem PySem.Spec PyProof.Rows L2
section
variable {X : Cx}
end
def OwnF (K : PySem.W.Frag) (tb : List (Str × List Str)) (t : Str) (cv : Value) : Prop := ∀ c as, tb.lookup c = some as → ∀ C : Addr, PySem.W.nsIn K mainGlobals c = some (some (.ref C)) → ExcC K C ∧ PySem.W.kitOne K (.ref C) cv = some (as.contains t)
section
variable {X : Cx} {E : XK} {e : Expr} {m : ME} {t : Str} {tb : List (Str × List Str)} {c : V} {cv : Value} {p1 p2 pos : Pos}
end
section
variable {X : Cx}
end
/-- the classes that a tuple names, by their values -/
inductive OwnFs (K : PySem.W.Frag) (tb : List (Str × List Str)) : List Str → List V → List Value → Prop
  | nil : OwnFs K tb [] [] []
  | cons {t : Str} {c : V} {cv : Value} {ts : List Str} {cs : List V} {cvs : List Value} (h : OwnF K tb t cv) (hc : ∀ u, RelV c u → u = cv) (r : OwnFs K tb ts cs cvs) : OwnFs K tb (t :: ts) (c :: cs) (cv :: cvs)
theorem OwnFs.any {K : PySem.W.Frag} {tb : List (Str × List Str)} {ts : List Str} {cs : List V} {cvs : List Value} (h : OwnFs K tb ts cs cvs) {c : Str} {as : List Str} (hl : tb.lookup c = some as) {C : Addr} (hn : PySem.W.nsIn K mainGlobals c = some (some (.ref C))) :
    PySem.W.kitAny K (.ref C) cvs = some (ts.any fun t => as.contains t) := by
  induction h with
  | nil => rfl
  | @cons t c' cv ts cs cvs h hc r ih =>
    obtain ⟨_, hk⟩ := h c as hl C hn
    show (match PySem.W.kitOne K (.ref C) cv with
      | some true => some true
      | some false => PySem.W.kitAny K (.ref C) cvs
      | none => none) = _
    rw [hk, List.any_cons]
    cases as.contains t with
    | true => rfl
    | false => exact ih
section
variable {X : Cx} {E : XK} {e te : Expr} {es : List Expr} {m : ME} {ts : List Str} {tb : List (Str × List Str)} {cs : List V} {cvs : List Value} {k : Nat} {p1 p2 pos : Pos}
theorem pcs_nil : PA X [] (fun _ H Q => Q [] H) := pa_nil
theorem pcs_cons {c : V} (h : PE X te (tC c)) (r : PA X es (fun _ H Q => Q cs H)) (hs : starEach (te :: es) X.env = (false, eval te X.env) :: starEach es X.env := by rfl) : PA X (te :: es) (fun _ H Q => Q (c :: cs) H) := pa_cons h r (hs := hs)
end
/-! by facts of the text alone -/
def OwnX (K : PySem.W.Frag) (mg : Str → Option Value) (tb : List (Str × List Str)) (t : Str) : Prop :=
  ∃ (c : V) (cv : Value), OwnF K tb t cv ∧ (∀ u, RelV c u → u = cv) ∧ RelV c cv ∧ (mg t = some cv ∨ (mg t = none ∧ bootBuiltins t = some cv ∧ t ≠ "__name__"))
section
variable {X : Cx} {E : XK} {e : Expr} {es : List Expr} {m : ME} {t : Str} {ts : List Str} {tb : List (Str × List Str)} {k : Nat} {p1 p2 p pos : Pos}
theorem pe_own {c : V} {cv : Value} (h : X.mg t = some cv ∨ (X.mg t = none ∧ bootBuiltins t = some cv ∧ t ≠ "__name__")) (hr : RelV c cv) (hg : Gl X t) (hd : (t == ("__debug__" : Str)) = false) : PE X (.Name t p) (tC c) := by
  rcases h with h | ⟨h1, h2, h3⟩
  · exact pe_glob hg h hr hd
  · exact pe_bltn hg h1 h2 hr h3 hd
/-- the names in the tuple -/
inductive OwnsP (X : Cx) (tb : List (Str × List Str)) : List Expr → List Str → Prop
  | nil : OwnsP X tb [] []
  | cons {t : Str} {p : Pos} {es : List Expr} {ts : List Str} (h : OwnX X.K X.mg tb t) (r : OwnsP X tb es ts) (hg : Gl X t := by rfl) (hd : (t == ("__debug__" : Str)) = false := by decide) (hs : starEach (.Name t p :: es) X.env = (false, eval (.Name t p) X.env) :: starEach es X.env := by rfl) : OwnsP X tb (.Name t p :: es) (t :: ts)
theorem OwnsP.all (h : OwnsP X tb es ts) : ∃ cs cvs, OwnFs X.K tb ts cs cvs ∧ PA X es (fun _ H Q => Q cs H) ∧ cs.length = es.length := by
  induction h with
  | nil => exact ⟨[], [], .nil, pcs_nil, rfl⟩
  | @cons t p es ts h r hg hd hs ih =>
    obtain ⟨cs, cvs, i1, i2, i3⟩ := ih
    obtain ⟨c, cv, hF, hu, hr, hn⟩ := h
    exact ⟨c :: cs, cv :: cvs, .cons hF hu i1, pcs_cons (pe_own hn hr hg hd) i2 hs, by simp [i3]⟩
end
/-! raise and keep, by facts of the text -/
def Raise0 (K : PySem.W.Frag) (mg : Str → Option Value) (x : Str) : Prop := ∃ C : Addr, Err0 K mg x C
def KeepX (K : PySem.W.Frag) (mg : Str → Option Value) (x : Str) (cs : List Str) : Prop := ∃ R : Addr, mg x = some (.ref R) ∧ KeepF K mg cs R
section
variable {X : Cx} {E : XK} {x n y t : Str} {cs : List Str} {body : List Stmt} {np p p1 p2 p3 rp pos pos' : Pos} {mb : MS} {k : Nat}
theorem ns_raise0X (h : Raise0 X.K X.mg x) (hc : X.calm = true) (tk : L2.Takes X (fun cls d _ H => E cls d H)) (hg : Gl X x := by rfl) (hdb : (x == ("__debug__" : Str)) = false := by decide) :
    NS X E (.Raise (some (.Call (.Name x p) [.Constant (.str t) k p2] [] pos)) none rp) (sRaise0 x) := by
  obtain ⟨C, T⟩ := h
  exact ns_raise0 T hc tk hg hdb
end
end Nv

namespace Nv
open PySem PySem.Spec PyProof.Rows L2
section
variable {X : Cx} {E : XK} {x y n rx : Str} {C : Addr} {i j : Nat} {body : List Stmt} {np p1 p2 p3 p4 p5 p6 p7 p8 p13 q1 q2 pos pos' : Pos} {mb : MS}
end
section
variable {sl : Sl} {C : Store} {QS : Fl → Sl → Store → Prop} {x : Str} {i j : Nat} {cs : List Str} {b : Bool}
end
end Nv

namespace Nv
open PySem PySem.Spec PyProof.Rows L2
section
variable {K : PySem.W.Frag} {mg : Str → Option Value} {tb : List (Str × List Str)} {c t f x : Str} {as : List Str} {C0 : Addr} {cv : Value} {cs : List Str} {R : Addr}
theorem keepF_nil : KeepF K mg [] R := fun _ h => nomatch h
theorem keepF_cons (hc : PySem.W.nsIn K mainGlobals c = some (some (.ref C0))) (gC : mg c = some (.ref C0)) (te : PySem.W.exmOne K (.ref C0) (.ref R) = some true) (r : KeepF K mg cs R) : KeepF K mg (c :: cs) R := fun c' hc' C hC => by
  rcases List.mem_cons.mp hc' with rfl | h
  · rw [gC] at hC
    cases hC
    exact ⟨hc, te⟩
  · exact r c' h C hC
theorem keepX_of (gR : mg x = some (.ref R)) (h : KeepF K mg cs R) : KeepX K mg x cs := ⟨R, gR, h⟩
end
section
variable {X : Cx} {E : XK} {e : Expr} {te : TE} {m : ME} {f : Str} {pos : Pos} {tb : List (Str × List Str)}
end
section
variable {C : Store} {QD : D → Store → Prop} {tb : List (Str × List Str)}
end
end Nv

namespace Nv
open PySem PySem.Spec PyProof.Rows L2
/-! try: a call by keywords in its body; several clauses, each y = "text" -/
section
variable {X : Cx} {W : WX} {x : Str} {p pos : Pos} {k n : Nat}
end
/-- of which rows' classes a clause R is -/
def ExmT (K : PySem.W.Frag) (mg : Str → Option Value) (tb : List (Str × List Str)) (R : Str) : Prop :=
  ∃ Ra : Addr, mg R = some (.ref Ra) ∧ ∀ c as, tb.lookup c = some as → ∀ C : Addr, mg c = some (.ref C) → PySem.W.exmOne K (.ref C) (.ref Ra) = some (as.contains R)
section
variable {K : PySem.W.Frag} {mg : Str → Option Value} {tb : List (Str × List Str)} {c R : Str} {as : List Str} {C0 Ra : Addr}
end
inductive NHds (X : Cx) (tb : List (Str × List Str)) (j : Nat) (y : Str) : List ExceptHandler → List (Str × Str) → Prop
  | nil : NHds X tb j y [] []
  | cons {rx w : Str} {k : Nat} {q1 np p1 pos pos' : Pos} {hds : List ExceptHandler} {l : List (Str × Str)} (h : ExmT X.K X.mg tb rx) (t : NHds X tb j y hds l) (hg : Gl X rx := by rfl) (hdb : (rx == ("__debug__" : Str)) = false := by decide)
      (hsw : swapsWith (.Constant (.str w) k p1) (some (.Name y np)) pos.line X.env = pure false := by rfl) : NHds X tb j y (.ExceptHandler (some (.Name rx q1)) none [.Assign [.Name y np] (.Constant (.str w) k p1) pos] pos' :: hds) ((rx, w) :: l)
section
variable {X : Cx} {E : XK} {y : Str} {j : Nat} {body : List Stmt} {h₀ : ExceptHandler} {hds : List ExceptHandler} {l : List (Str × Str)} {q2 : Pos} {mb : MS} {tb : List (Str × List Str)}
theorem NHds.ok (hN : X.N.Nodup) (hj : X.N[j]? = some y) (hlj : Loc X.env.scope y) (hfn : X.fn y = true ∨ X.env.scope.names.lookup y = some .local) (h : NHds X tb j y hds l) :
    ∃ lv, HdsOk X hds lv ∧ ∀ (c : Str) (as : List Str) (C : Addr), tb.lookup c = some as → X.mg c = some (.ref C) → ∀ (w : Str × Str), (l.find? fun h => as.contains h.1) = some w → ∀ (Wout : WX) (De : Ends) (σ : L2.St) (H : Hp) (d : Option Addr), De.nx (σ.set j (some (.str w.2))) H → wMany X.K Wout De lv (.ref C) d σ H := by
  induction h with
  | nil => exact ⟨[], .nil, fun c as C _ _ w hw => nomatch hw⟩
  | @cons rx w k q1 np p1 pos pos' hds l h t hg hdb hsw ih =>
    obtain ⟨lv, h1, h2⟩ := ih
    obtain ⟨Ra, gR, T⟩ := h
    refine ⟨(.ref Ra, fun _ _ _ => tAsg (tC (.str w)) (gName j)) :: lv, .cons ⟨hg, hdb, .inl gR⟩ (fun a oe cls d pn hz hfs => pss_one (ps_set hN hj hlj pe_str hsw hfn)) h1, fun c as C hl hC w' hw Wout De σ H d q => ?_⟩
    refine ⟨as.contains rx, T c as hl C hC, fun hb a ha => ?_, fun hb => ?_⟩
    · rw [List.find?_cons_of_pos (by simpa using hb)] at hw
      cases hw
      exact q
    · rw [List.find?_cons_of_neg (by simpa using hb)] at hw
      exact h2 c as C hl hC w' hw Wout De σ H d q
end
section
variable {sl : Sl} {C : Store} {QS : Fl → Sl → Store → Prop} {x : Str} {j : Nat} {tb : List (Str × List Str)} {l : List (Str × Str)} {as : List Str} {w : Str × Str}
end
end Nv

namespace Nv
open PySem PySem.Spec PyProof.Rows L2
/-! more that a try body may ask: [e], a if c else b, frozen results -/
section
variable {X : Cx} {W : WX} {e c a b : Expr} {m ma mb : ME} {mt : MG Bool} {pos : Pos} {cc : Bool}
theorem nex_fz (n : Nat) (he : NEx X W e m) : NEx X W e (mFz n m) := ⟨pe_imp he.pe fun s H Q q => by
    obtain ⟨B, F, r, sl, C, hr, hs, o⟩ := q
    refine ⟨B, F, r, sl, C, hr, hs, ?_⟩
    unfold mFz at o
    cases hm : m sl C with
    | ok p =>
      obtain ⟨d, C1⟩ := p
      rw [hm, R.bind_ok] at o
      intro F' r' H' v e1 e2 hr' hd
      simp only at o
      split at o
      · rename_i z hz
        obtain ⟨d2, C2⟩ := z
        obtain ⟨F2, q1, q2, q3⟩ := frz_ok n F' C1 C2 d d2 v hr' hd hz
        exact fin_ok hr (e1.trans q1) e2 q2 q3 o
      · exact False.elim o
    | ex x C1 =>
      rw [hm] at o
      exact o
    | no =>
      rw [hm] at o
      exact False.elim o⟩
end
end Nv

namespace Nv
open PySem PySem.Spec PyProof.Rows L2
/-! classes of the program's own -/
def ClsAt (K : PySem.W.Frag) (x : Str) : Prop := ∀ C : Addr, PySem.W.nsIn K mainGlobals x = some (some (.ref C)) → Cls K C
def NoAt (K : PySem.W.Frag) (x f : Str) : Prop := ∀ C : Addr, PySem.W.nsIn K mainGlobals x = some (some (.ref C)) → NoAttr K C f
def objAt (C : Store) (x : Str) : D → Option (Nat × List (Str × D))
  | .cell i => match C[i]? with
    | some (.obj c fs) => if c = x then some (i, fs) else none
    | _ => none
  | _ => none
section
variable {K : PySem.W.Frag} {B F H : Hp} {r : List Addr} {C : Store}
theorem objAt_ok {d : D} {v : V} {x : Str} {i : Nat} {fs : List (Str × D)} (hr : Rel K B F r H C) (hx : Rep K F r d v) (e : objAt C x d = some (i, fs)) :
    ∃ (a Ca dx : Addr) (gs : List (Str × V)), v = .ref a ∧ d = .cell i ∧ r[i]? = some a ∧ F a = none ∧ PySem.W.nsIn K mainGlobals x = some (some (.ref Ca)) ∧ H a = some (.ins Ca dx gs) ∧ fs.map (·.1) = gs.map (·.1) ∧ Reps K F r (fs.map (·.2)) (gs.map (·.2)) := by
  unfold objAt at e
  split at e
  · split at e
    · rename_i c fs' ec
      split at e
      · rename_i hc
        subst hc
        cases e
        obtain ⟨a, rfl, ha⟩ := hx
        obtain ⟨h1, Ca, dx, gs, h2, h3, h4, h5⟩ := hr.cells _ _ a ec ha
        exact ⟨a, Ca, dx, gs, rfl, rfl, ha, h1, h2, h3, h4, h5⟩
      · cases e
    · cases e
  · cases e
theorem fld_ok {f : Str} : ∀ {fs : List (Str × D)} {gs : List (Str × V)}, fs.map (·.1) = gs.map (·.1) → Reps K F r (fs.map (·.2)) (gs.map (·.2)) →
    (∀ d, fs.lookup f = some d → ∃ v, gs.lookup f = some v ∧ Rep K F r d v) ∧ (fs.lookup f = none → gs.lookup f = none)
  | [], [], _, _ => ⟨(fun d e => by cases e), fun _ => rfl⟩
  | [], _ :: _, h, _ => nomatch h
  | _ :: _, [], h, _ => nomatch h
  | (k, d) :: fs, (k', v) :: gs, h, hr => by
    rw [List.map_cons, List.map_cons, List.cons.injEq] at h
    obtain ⟨v1, vs1, e1, h1, h2⟩ := (show Reps K F r (d :: fs.map (·.2)) (v :: gs.map (·.2)) from hr)
    rw [List.cons.injEq] at e1
    obtain ⟨e1, e2⟩ := e1
    subst e1 e2
    obtain ⟨g1, g2⟩ := fld_ok (f := f) h.2 h2
    have hk : k = k' := h.1
    subst hk
    rw [List.lookup_cons, List.lookup_cons]
    cases e : (f == k) with
    | true => exact ⟨fun d' q => ⟨v, rfl, by cases q; exact h1⟩, fun q => by cases q⟩
    | false => exact ⟨g1, g2⟩
/-- the fields with another value at a name -/
def putFD (f : Str) (d : D) : List (Str × D) → List (Str × D)
  | [] => [(f, d)]
  | (g, x) :: r => if g = f then (g, d) :: r else (g, x) :: putFD f d r
theorem putF_ok {f : Str} {d : D} {v : V} (hd : Rep K F r d v) : ∀ {fs : List (Str × D)} {gs : List (Str × V)}, fs.map (·.1) = gs.map (·.1) → Reps K F r (fs.map (·.2)) (gs.map (·.2)) →
    (putFD f d fs).map (·.1) = (putF f v gs).map (·.1) ∧ Reps K F r ((putFD f d fs).map (·.2)) ((putF f v gs).map (·.2))
  | [], [], _, _ => ⟨rfl, v, [], rfl, hd, rfl⟩
  | [], _ :: _, h, _ => nomatch h
  | _ :: _, [], h, _ => nomatch h
  | (k, x) :: fs, (k', y) :: gs, h, hr => by
    rw [List.map_cons, List.map_cons, List.cons.injEq] at h
    obtain ⟨v1, vs1, e1, h1, h2⟩ := (show Reps K F r (x :: fs.map (·.2)) (y :: gs.map (·.2)) from hr)
    rw [List.cons.injEq] at e1
    obtain ⟨e1, e2⟩ := e1
    subst e1 e2
    obtain ⟨g1, g2⟩ := putF_ok hd (f := f) h.2 h2
    have hk : k = k' := h.1
    subst hk
    unfold putFD putF
    by_cases e : k = f
    · rw [if_pos e, if_pos e]
      exact ⟨by rw [List.map_cons, List.map_cons, h.2], v, _, rfl, hd, h2⟩
    · rw [if_neg e, if_neg e]
      exact ⟨by rw [List.map_cons, List.map_cons, g1], y, _, rfl, h1, g2⟩
end
/-- e.f -/
def gFld (x f : Str) (d : D) (C : Store) : RE := match objAt C x d with
  | some (_, fs) => match fs.lookup f with
    | some d => .ok (d, C)
    | none => .no
  | none => .no
/-- e.f = v -/
def sFld (x f : Str) (mo mv : ME) : MS := fun sl C => (mv sl C).bind fun t => (mo sl t.2).bind fun p => match objAt p.2 x p.1 with
  | some (i, fs) => if fs.length < 1000 then .ok ((.nx, sl), p.2.set i (.obj x (putFD f t.1 fs))) else .no
  | none => .no
section
variable {X : Cx} {E : XK} {o value e : Expr} {es : List Expr} {mo mv : ME} {mas : MG (List D)} {x f m : Str} {pos pos' apos p1 : Pos}
theorem ne_fld (hc : ClsAt X.K x) (hn : NoAt X.K x f) (ho : NE X E o mo) (hb : attributeBase o f X.env (eval o X.env) = eval o X.env := by rfl) : NE X E (.Attribute o f pos) (m1 (gFld x f) mo) :=
  ⟨pe_imp (pe_fld ho.pe hb) fun s H Q q => by
    obtain ⟨B, F, r, sl, C, hr, hs, o⟩ := q
    refine ⟨B, F, r, sl, C, hr, hs, Out.bind (P := Rep X.K) o fun d C1 F1 r1 H1 v e1 e2 hr1 hx o1 => ?_⟩
    simp only [gFld] at o1
    split at o1
    · rename_i i fs eo
      split at o1
      · rename_i d' ed
        obtain ⟨a, Ca, dx, gs, rfl, _, h1, h2, h3, h4, h5, h6⟩ := objAt_ok hr1 hx eo
        obtain ⟨v', g1, g2⟩ := (fld_ok (f := f) h5 h6).1 d' ed
        exact ⟨a, Ca, dx, gs, v', rfl, h4, hc Ca h3, hn Ca h3, g1, out_ok hr1 g2 o1⟩
      · exact False.elim o1
    · exact False.elim o1⟩
theorem ns_fld (hc : ClsAt X.K x) (hn : NoAt X.K x f) (ho : NE X E o mo) (hv : NE X E value mv) (hs : swapsWith value (some (.Attribute o f pos')) pos.line X.env = pure false := by rfl) : NS X E (.Assign [.Attribute o f pos'] value pos) (sFld x f mo mv) :=
  ⟨ps_imp (ps_fld ho.pe hv.pe hs) fun De s H q => by
    obtain ⟨B, F, r, sl, C, hr, hs, o⟩ := q
    refine ⟨B, F, r, sl, C, hr, hs, OutS.bind (P := Rep X.K) o fun d C0 F0 r0 H0 z k1 k2 hr0 hd o0 => ?_⟩
    refine ⟨B, F0, r0, sl, C0, hr0, hs.mono k1 k2, OutS.bind (P := Rep X.K) o0 fun d2 C1 F1 r1 H1 v e1 e2 hr1 hx o1 => ?_⟩
    have hd2 := hd.mono e1 e2
    simp only at o1
    split at o1
    · rename_i i fs eo
      split at o1
      · rename_i hl
        obtain ⟨a, Ca, dx, gs, rfl, _, h1, h2, h3, h4, h5, h6⟩ := objAt_ok hr1 hx eo
        obtain ⟨g1, g2⟩ := putF_ok (f := f) hd2 h5 h6
        have hlen := congrArg List.length h5
        rw [List.length_map, List.length_map] at hlen
        refine ⟨a, Ca, dx, gs, rfl, h4, hc Ca h3, hn Ca h3, by omega, ?_⟩
        exact OutS.next o1 (hr1.write (o := .ins Ca dx (putF f z gs)) h1 h2 ⟨h2, Ca, dx, _, h3, upd_same, g1, g2⟩) ((hs.mono k1 k2).mono e1 e2)
      · exact False.elim o1
    · exact False.elim o1⟩
end
/-! methods -/
/-- a method of a class, called with the instance -/
def CalM (P : Program) (w : World) (K : PySem.W.Frag) (mg : Str → Option Value) (base : Heap) (cl m : Str) (k n : Nat) (mf : MF) : Prop :=
  ∃ (C f : Addr) (fd : FuncData) (ps : List Str), (∀ C2 : Addr, PySem.W.nsIn K mainGlobals cl = some (some (.ref C2)) → C2 = C) ∧ Cls K C ∧ Meth K C m f ∧ FnG P w K mg base k f fd ps (spN K mg n mf) ∧ L2.Binds K fd ps []
def DefAtM (K : PySem.W.Frag) (cl m qual : Str) (st : Stmt) (ps : List Str) : Prop :=
  ∃ (C f : Addr) (fd : FuncData), (∀ C2 : Addr, PySem.W.nsIn K mainGlobals cl = some (some (.ref C2)) → C2 = C) ∧ Cls K C ∧ Meth K C m f ∧ Fun K m qual st f fd ∧ L2.Binds K fd ps []
section
variable {P : Program} {w : World} {K : PySem.W.Frag} {mg : Str → Option Value} {base : Heap}
theorem CalM.mono {cl m : Str} {j k n : Nat} {mf : MF} (h : CalM P w K mg base cl m j n mf) (hjk : j ≤ k) : CalM P w K mg base cl m k n mf := by
  obtain ⟨C, f, fd, ps, h0, h1, h2, h3, h4⟩ := h
  exact ⟨C, f, fd, ps, h0, h1, h2, h3.mono hjk, h4⟩
theorem CalM.of {cl m qual : Str} {st : Stmt} {N ps : List Str} {k : Nat} {u : MS} (h : DefAtM K cl m qual st ps) (S : FnScope N ps (defScope st))
    (hb : ∀ (f : Addr) (cdv : Value) (A : Around) (outer : List Env) (s : Shared) (H : Hp) (E : XK), Room k (A.deeper (envOfC qual (defScope st) s.heap.objs.size f cdv)) → A.guards = some [] →
      NSs (cxOf (L2.CX P w) P w K mg base N qual (defScope st) f cdv A outer s H E) E (defBody st) u) : CalM P w K mg base cl m (k + 1) ps.length (runD N.length u) := by
  obtain ⟨C, f, fd, h0, h1, h2, h3, h4⟩ := h
  exact ⟨C, f, fd, ps, h0, h1, h2, okD h3 S fun cdv A outer s H E hr hg => hb f cdv A outer s H E hr hg, h4⟩
theorem CalM.ofK {cl m qual : Str} {st : Stmt} {N ps : List Str} {k : Nat} {u : MS} (h : DefAtM K cl m qual st ps) (S : FnScope N ps (defScope st))
    (hb : ∀ (f : Addr) (cdv : Value) (A : Around) (outer : List Env) (s : Shared) (H : Hp) (E : XK), Room k (A.deeper (envOfC qual (defScope st) s.heap.objs.size f cdv)) → A.guards = some [] →
      NSs (cxOf (L2.CX P w) P w K mg base N qual (defScope st) f cdv A outer s H E) E (defBody st) u) : CalM P w K mg base cl m (k + 1) ps.length (runK N.length u) := by
  obtain ⟨C, f, fd, h0, h1, h2, h3, h4⟩ := h
  exact ⟨C, f, fd, ps, h0, h1, h2, okDK h3 S fun cdv A outer s H E hr hg => hb f cdv A outer s H E hr hg, h4⟩
end
/-- o.m(..) -/
def mM (x m : Str) (n : Nat) (mf : MF) (mo : ME) (mas : MG (List D)) : ME := fun sl C => (mo sl C).bind fun p => match objAt p.2 x p.1 with
  | some (_, fs) => if fs.lookup m = none then (mas sl p.2).bind fun q => if q.1.length + 1 = n then mf (p.1 :: q.1) q.2 else .no else .no
  | none => .no
def tMethG (C : Addr) (m : Str) (sp : Sp) (E : XK) (ta : TE) (t : TA) : TE := fun σ H Q => ta σ H fun x H1 => ∃ a dx fs, x = .ref a ∧ H1 a = some (.ins C dx fs) ∧ fs.lookup m = none ∧
  t σ H1 fun vs H2 => sp (x :: vs) H2 Q E
section
variable {X : Cx} {E : XK} {k : Nat} {f C : Addr} {fd : FuncData} {ps : List Str} {sp : Sp} {o e : Expr} {es : List Expr} {x m : Str} {pos apos p1 : Pos} {ta : TE} {t : TA} {mo : ME} {mas : MG (List D)} {n : Nat} {mf : MF}
theorem pe_methG {pl : Sem Bool} (he : PE X o ta) (c : Cls X.K C) (hm : Meth X.K C m f) (F : FnG X.prog X.w X.K X.mg X.base k f fd ps sp) (hr : Room k X.A) (hgd : X.A.guards = some []) (hb : L2.Binds X.K fd ps []) (hx : Passes (L2.CX X.prog X.w) X E) (ha : PA X (e :: es) t)
    (hst : starEach (e :: es) X.env = (false, eval e X.env) :: starEach es X.env) (hpl : (backTo pos (starEach es X.env)).any (·.1) = false)
    (ht : eval (.Call (.Attribute o m apos) (e :: es) [] pos) X.env = (do
      let ov ← eval o X.env
      standAt apos.atName
      let (f, first) ← holding [ov] (getMethod ov m pl)
      callWith pos f first (backTo pos (starEach (e :: es) X.env)) (backToKw pos (keywordEach [] X.env)))) :
    PE X (.Call (.Attribute o m apos) (e :: es) [] pos) (tMethG C m sp E ta t) := by
  refine ⟨fun pins s σ H Q I h => ?_⟩
  refine PySem.W.methodCall_KW (pl := pl) (thn (he.run pins s σ H _ I h) fun u s1 ⟨x, H1, I1, rx, a, dx, fs, ex, ea, l, q⟩ => ?_) ht
  subst ex
  obtain rfl : u = Value.ref a := rx
  refine getmeth_ok I1 ea c hm l ?_
  refine PySem.W.callWith_K (first := [.ref a]) (h₀ := X.base) I.ok.mod.kin hm.kp (thn (ha.run pos pins s1 σ H1 _ I1 q) fun us s2 ⟨vs, H2, I2, r, q2⟩ => ⟨I2.kIn, ?_⟩) hst hpl
  exact run_fnG (us := .ref a :: us) (vs := .ref a :: vs) F hr hgd hb hx I2 (.cons rfl r) q2
theorem pe_methG0 {pl : Sem Bool} (he : PE X o ta) (c : Cls X.K C) (hm : Meth X.K C m f) (F : FnG X.prog X.w X.K X.mg X.base k f fd ps sp) (hr : Room k X.A) (hgd : X.A.guards = some []) (hb : L2.Binds X.K fd ps []) (hx : Passes (L2.CX X.prog X.w) X E)
    (ht : eval (.Call (.Attribute o m apos) [] [] pos) X.env = (do
      let ov ← eval o X.env
      standAt apos.atName
      let (f, first) ← holding [ov] (getMethod ov m pl)
      callWith pos f first (backTo pos (starEach [] X.env)) (backToKw pos (keywordEach [] X.env)))) :
    PE X (.Call (.Attribute o m apos) [] [] pos) (tMethG C m sp E ta tNil) := by
  refine ⟨fun pins s σ H Q I h => ?_⟩
  refine PySem.W.methodCall_KW (pl := pl) (thn (he.run pins s σ H _ I h) fun u s1 ⟨x, H1, I1, rx, a, dx, fs, ex, ea, l, q⟩ => ?_) ht
  subst ex
  obtain rfl : u = Value.ref a := rx
  refine getmeth_ok I1 ea c hm l ?_
  exact PySem.W.callWith_K0 (first := [.ref a]) I1.kIn hm.kp (run_fnG (us := [.ref a]) (vs := [.ref a]) F hr hgd hb hx I1 (.cons rfl .nil) q)
theorem meth_read (hC : ∀ C2 : Addr, PySem.W.nsIn X.K mainGlobals x = some (some (.ref C2)) → C2 = C) {s : L2.St} {H : Hp} {Q : VK}
    (q : LG (Rep X.K) X.K X.mg E (mM x m n mf mo mas) s H Q) :
    LG (Rep X.K) X.K X.mg E mo s H fun v H1 => ∃ a dx fs, v = .ref a ∧ H1 a = some (.ins C dx fs) ∧ fs.lookup m = none ∧ LG (Reps X.K) X.K X.mg E mas s H1 fun vs H2 => spN X.K X.mg n mf (v :: vs) H2 Q E := by
  obtain ⟨B, F, r, sl, C0, hr, hs, o⟩ := q
  refine ⟨B, F, r, sl, C0, hr, hs, Out.bind (P := Rep X.K) o fun d C1 F1 r1 H1 v e1 e2 hr1 hx o1 => ?_⟩
  simp only at o1
  split at o1
  · rename_i i fs eo
    split at o1
    · rename_i hl
      obtain ⟨a, Ca, dx, gs, rfl, ed, h1, h2, h3, h4, h5, h6⟩ := objAt_ok hr1 hx eo
      have hCa := hC Ca h3
      subst hCa
      refine ⟨a, dx, gs, rfl, h4, (fld_ok (f := m) h5 h6).2 hl, ?_⟩
      refine ⟨B, F1, r1, sl, C1, hr1, hs.mono e1 e2, Out.bind (P := Reps X.K) o1 fun ys C2 F2 r2 H2 vs e3 e4 hr2 hy o2 => ?_⟩
      simp only at o2
      split at o2
      · rename_i hn
        exact ⟨B, F2, r2, C2, d :: ys, hr2, .cons (hx.mono e3 e4) hy, by rw [List.length_cons]; exact hn, o2⟩
      · exact False.elim o2
    · exact False.elim o1
  · exact False.elim o1
theorem ne_meth {pl : Sem Bool} (h : CalM X.prog X.w X.K X.mg X.base x m k n mf) (hr : Room k X.A) (hgd : X.A.guards = some []) (hx : Passes (L2.CX X.prog X.w) X E) (ho : NE X E o mo) (ha : NA X E (e :: es) mas)
    (hst : starEach (e :: es) X.env = (false, eval e X.env) :: starEach es X.env := by rfl) (hpl : (backTo pos (starEach es X.env)).any (·.1) = false := by rfl)
    (ht : eval (.Call (.Attribute o m apos) (e :: es) [] pos) X.env = (do
      let ov ← eval o X.env
      standAt apos.atName
      let (f, first) ← holding [ov] (getMethod ov m pl)
      callWith pos f first (backTo pos (starEach (e :: es) X.env)) (backToKw pos (keywordEach [] X.env))) := by rfl) : NE X E (.Call (.Attribute o m apos) (e :: es) [] pos) (mM x m n mf mo mas) := by
  obtain ⟨C, f, fd, ps, h0, h1, h2, h3, h4⟩ := h
  exact ⟨pe_imp (pe_methG (pl := pl) ho.pe h1 h2 h3 hr hgd h4 hx ha.pa hst hpl ht) fun s H Q q => meth_read h0 q⟩
theorem ne_meth0 {pl : Sem Bool} (h : CalM X.prog X.w X.K X.mg X.base x m k n mf) (hr : Room k X.A) (hgd : X.A.guards = some []) (hx : Passes (L2.CX X.prog X.w) X E) (ho : NE X E o mo)
    (ht : eval (.Call (.Attribute o m apos) [] [] pos) X.env = (do
      let ov ← eval o X.env
      standAt apos.atName
      let (f, first) ← holding [ov] (getMethod ov m pl)
      callWith pos f first (backTo pos (starEach [] X.env)) (backToKw pos (keywordEach [] X.env))) := by rfl) : NE X E (.Call (.Attribute o m apos) [] [] pos) (mM x m n mf mo aNil) := by
  obtain ⟨C, f, fd, ps, h0, h1, h2, h3, h4⟩ := h
  refine ⟨pe_imp (pe_methG0 (pl := pl) ho.pe h1 h2 h3 hr hgd h4 hx ht) fun s H Q q => ?_⟩
  obtain ⟨B, F, r, sl, C0, hr, hs, o⟩ := meth_read (mas := aNil) h0 q
  refine ⟨B, F, r, sl, C0, hr, hs, o.imp fun v H1 h => ?_⟩
  obtain ⟨a, dx, fs, rfl, h5, h6, B1, F1, r1, sl1, C1, hr1, hs1, o1⟩ := h
  refine ⟨a, dx, fs, rfl, h5, h6, ?_⟩
  exact o1 F1 r1 H1 [] (.refl _) (.refl _) hr1 .nil
end
/-! methods called by keywords -/
def CalMK (P : Program) (w : World) (K : PySem.W.Frag) (mg : Str → Option Value) (base : Heap) (cl m : Str) (k n : Nat) (ks : List Str) (mf : MF) : Prop :=
  ∃ (C f : Addr) (fd : FuncData) (ps : List Str) (g : List Value → List Value → List Value), (∀ C2 : Addr, PySem.W.nsIn K mainGlobals cl = some (some (.ref C2)) → C2 = C) ∧ Cls K C ∧ Meth K C m f ∧ FnG P w K mg base k f fd ps (spN K mg n mf) ∧ KBn K fd ps 1 ks g (fun vs zs => vs ++ zs)
def DefAtMK (K : PySem.W.Frag) (cl m qual : Str) (st : Stmt) (ps ks : List Str) : Prop :=
  ∃ (C f : Addr) (fd : FuncData) (g : List Value → List Value → List Value), (∀ C2 : Addr, PySem.W.nsIn K mainGlobals cl = some (some (.ref C2)) → C2 = C) ∧ Cls K C ∧ Meth K C m f ∧ Fun K m qual st f fd ∧ KBn K fd ps 1 ks g (fun vs zs => vs ++ zs)
section
variable {P : Program} {w : World} {K : PySem.W.Frag} {mg : Str → Option Value} {base : Heap}
theorem CalMK.ofK {cl m qual : Str} {st : Stmt} {N ps ks : List Str} {k : Nat} {u : MS} (h : DefAtMK K cl m qual st ps ks) (S : FnScope N ps (defScope st))
    (hb : ∀ (f : Addr) (cdv : Value) (A : Around) (outer : List Env) (s : Shared) (H : Hp) (E : XK), Room k (A.deeper (envOfC qual (defScope st) s.heap.objs.size f cdv)) → A.guards = some [] →
      NSs (cxOf (L2.CX P w) P w K mg base N qual (defScope st) f cdv A outer s H E) E (defBody st) u) : CalMK P w K mg base cl m (k + 1) ps.length ks (runK N.length u) := by
  obtain ⟨C, f, fd, g, h0, h1, h2, h3, h4⟩ := h
  exact ⟨C, f, fd, ps, g, h0, h1, h2, okDK h3 S fun cdv A outer s H E hr hg => hb f cdv A outer s H E hr hg, h4⟩
theorem CalMK.of {cl m qual : Str} {st : Stmt} {N ps ks : List Str} {k : Nat} {u : MS} (h : DefAtMK K cl m qual st ps ks) (S : FnScope N ps (defScope st))
    (hb : ∀ (f : Addr) (cdv : Value) (A : Around) (outer : List Env) (s : Shared) (H : Hp) (E : XK), Room k (A.deeper (envOfC qual (defScope st) s.heap.objs.size f cdv)) → A.guards = some [] →
      NSs (cxOf (L2.CX P w) P w K mg base N qual (defScope st) f cdv A outer s H E) E (defBody st) u) : CalMK P w K mg base cl m (k + 1) ps.length ks (runD N.length u) := by
  obtain ⟨C, f, fd, g, h0, h1, h2, h3, h4⟩ := h
  exact ⟨C, f, fd, ps, g, h0, h1, h2, okD h3 S fun cdv A outer s H E hr hg => hb f cdv A outer s H E hr hg, h4⟩
end
section
variable {X : Cx} {E : XK} {k : Nat} {f C : Addr} {fd : FuncData} {ps ks : List Str} {sp : Sp} {o : Expr} {kws : List Keyword} {x m : Str} {pos apos p1 : Pos} {ta : TE} {tk : TA} {mo : ME} {mks : MG (List D)} {n : Nat} {mf : MF} {g : List Value → List Value → List Value}
end
theorem kw_nil {A : Type} {D : Addr} {t : Sem A} {r : A} (h : t = pure r) : KwChain D [] t r := h
theorem kw_one {A B C : Type} {D : Addr} {q : Str × Value} {t : Sem A} {r : A} {k1 : Option Value → Sem B} {k2 : B → Sem C} {k3 : C → Sem A} {a : B} (h1 : t = ((nsGet D q.1 >>= k1) >>= k2) >>= k3) (h2 : k1 (some q.2) = pure a) (h3 : k2 a >>= k3 = pure r) : KwChain D [q] t r := ⟨_, _, k1, k2, k3, a, h1, h2, h3⟩
/-! a new instance -/
section
variable {P : Program} {w : World} {K : PySem.W.Frag} {mg : Str → Option Value} {base : Heap}
/-- a def with defaults -/
abbrev FunDf (K : PySem.W.Frag) (m qual : Str) (st : Stmt) (dvs : List V) (kws : List (Str × V)) (f : Addr) (fd : FuncData) : Prop := FunD K m qual (defArgs st) (defBody st) (defScope st) dvs kws f fd
theorem okDKD {x qual : Str} {st : Stmt} {dvs : List V} {kws : List (Str × V)} {f : Addr} {fd : FuncData} {N ps : List Str} {k : Nat} {u : MS} (F : FunDf K x qual st dvs kws f fd) (S : FnScope N ps (defScope st))
    (hb : ∀ (cdv : Value) (A : Around) (outer : List Env) (s : Shared) (H : Hp) (E : XK), Room k (A.deeper (envOfC qual (defScope st) s.heap.objs.size f cdv)) → A.guards = some [] →
      NSs (cxOf (L2.CX P w) P w K mg base N qual (defScope st) f cdv A outer s H E) E (defBody st) u) : FnG P w K mg base (k + 1) f fd ps (spN K mg ps.length (runK N.length u)) := by
  obtain ⟨oc, od, dV, kV, doc, pm, an, cdv, ct, osl, rfl, lk, hcd, _, _⟩ := F.ex
  refine ⟨spN_len, fun A outer s H args us vs Q E hr hg e0 hbd rv hsp => ?_⟩
  have hl := spN_len _ _ _ _ hsp
  have there : K.In s.heap := e0.mod.kin.keeps fun b o e => (e0.bs b o e).1
  have lim : s.heap.NoLimit := e0.mod.nolimit.keeps fun b o e => (e0.bs b o e).1
  refine codeAny_call_function hr.depth (there _ _ lk) rfl S.co S.gen rfl (PySem.W.codeRec_of there hcd) (hbd _ _ _ _ ?_)
  refine wpAny_newFunctionEnv_cells S.kind (fun ⟨n, v⟩ hy => ?_) fun env he s1 x => ?_
  · rcases S.par n (List.of_mem_zip hy).1 with q | q
    · exact .inl q
    · exact .inr ⟨q, PySem.W.cellsFrom_some _ _ _ (.inl q)⟩
  subst he
  refine ⟨lim.keeps x.toInCall.keep, codeAny_func ?_⟩
  have I : Inv (cxOf (L2.CX P w) P w K mg base N qual (defScope st) f cdv A outer s H E) [] (start N vs) H s1 := inv_start S hr.hd e0 hl rv x
  refine wpAny_mono ((hb cdv A outer s H E (hr.deeper _) hg).ps.run [] s1 (start N vs) H { nx := fun _ H' => Q .non H', rt := Q } I ?_) (fun fl s' hs => ?_) fun e s' hs => hs
  · obtain ⟨B, F, r, C, ds, hr, hd, hl, o⟩ := hsp
    refine ⟨B, F, r, _, C, hr, Sls.start hd, ?_⟩
    unfold runK at o
    cases hu : u (ds.map some ++ List.replicate (N.length - ds.length) none) C with
    | ok p =>
      obtain ⟨⟨fl, sl'⟩, C'⟩ := p
      rw [hu, R.bind_ok] at o
      intro F' r' H' e1 e2 hr'
      cases fl with
      | nx => exact fun s' _ => o F' r' H' .non e1 e2 hr' rfl
      | rt d => exact fun v hv => o F' r' H' v e1 e2 hr' hv
      | bk => exact False.elim o
      | ct => exact False.elim o
    | ex y Cy => rw [hu] at o; exact o
    | no => rw [hu] at o; exact o
  · cases fl with
    | ret u =>
      obtain ⟨v, σ', H', J, rv, q⟩ := hs
      exact ⟨v, H', J.os, J.bare, J.base, J.hok, rv, q⟩
    | next =>
      obtain ⟨σ', H', J, q⟩ := hs
      exact ⟨.non, H', J.os, J.bare, J.base, J.hok, rfl, q⟩
    | brk => obtain ⟨_, _, _, q⟩ := hs; exact False.elim q
    | cont => obtain ⟨_, _, _, q⟩ := hs; exact False.elim q
end
/-- C(e, ..) with None for what lacks: np values are written ahead (self aside), ks by keywords -/
def CalI (P : Program) (w : World) (K : PySem.W.Frag) (mg : Str → Option Value) (base : Heap) (cl : Str) (k n np : Nat) (ks : List Str) (pre post : Nat) (mf : MF) : Prop :=
  ∃ (C f : Addr) (fd : FuncData) (ps : List Str) (g : List Value → List Value → List Value), mg cl = some (.ref C) ∧ PySem.W.nsIn K mainGlobals cl = some (some (.ref C)) ∧ Mk K C f ∧ FnG P w K mg base k f fd ps (spN K mg n mf) ∧
    KBn K fd ps (np + 1) ks g (fun vs zs => vs ++ (List.replicate pre V.non ++ (zs ++ List.replicate post V.non)))
def DefAtI (K : PySem.W.Frag) (mg : Str → Option Value) (cl qual : Str) (st : Stmt) (ps : List Str) (dvs : List V) (kws : List (Str × V)) (np : Nat) (ks : List Str) (pre post : Nat) : Prop :=
  ∃ (C f : Addr) (fd : FuncData) (g : List Value → List Value → List Value), mg cl = some (.ref C) ∧ PySem.W.nsIn K mainGlobals cl = some (some (.ref C)) ∧ Mk K C f ∧ FunDf K "__init__" qual st dvs kws f fd ∧
    KBn K fd ps (np + 1) ks g (fun vs zs => vs ++ (List.replicate pre V.non ++ (zs ++ List.replicate post V.non)))
section
variable {P : Program} {w : World} {K : PySem.W.Frag} {mg : Str → Option Value} {base : Heap}
theorem CalI.ofK {cl qual : Str} {st : Stmt} {N ps ks : List Str} {dvs : List V} {kws : List (Str × V)} {k np pre post : Nat} {u : MS} (h : DefAtI K mg cl qual st ps dvs kws np ks pre post) (S : FnScope N ps (defScope st))
    (hb : ∀ (f : Addr) (cdv : Value) (A : Around) (outer : List Env) (s : Shared) (H : Hp) (E : XK), Room k (A.deeper (envOfC qual (defScope st) s.heap.objs.size f cdv)) → A.guards = some [] →
      NSs (cxOf (L2.CX P w) P w K mg base N qual (defScope st) f cdv A outer s H E) E (defBody st) u) : CalI P w K mg base cl (k + 1) ps.length np ks pre post (runK N.length u) := by
  obtain ⟨C, f, fd, g, h0, h1, h2, h3, h4⟩ := h
  exact ⟨C, f, fd, ps, g, h0, h1, h2, okDKD h3 S fun cdv A outer s H E hr hg => hb f cdv A outer s H E hr hg, h4⟩
end
/-- x(e, .., k = v, ..) -/
def mI (x : Str) (n np nk pre post : Nat) (mf : MF) (mas mks : MG (List D)) : ME := fun sl C => (mas sl C).bind fun p => (mks sl p.2).bind fun q =>
  if p.1.length = np ∧ q.1.length = nk ∧ 1 + np + pre + nk + post = n then
    (mf (.cell q.2.length :: (p.1 ++ (List.replicate pre .non ++ (q.1 ++ List.replicate post .non)))) (q.2 ++ [.obj x []])).bind fun t => match t.1 with
    | .non => .ok (.cell q.2.length, t.2)
    | _ => .no
  else .no
def tIG (C : Addr) (n m : Nat) (sp : Sp) (gV : List V → List V → List V) (E : XK) (t tk : TA) : TE := fun σ H Q => t σ H fun vs H1 => tk σ H1 fun zs H2 => vs.length = n ∧ zs.length = m ∧ ∀ x dx, H2 x = none → H2 dx = none → dx ≠ x →
  sp (gV (.ref x :: vs) zs) (upd (upd H2 dx (.own x)) x (.ins C dx [])) (fun v H3 => v = .non ∧ Q (.ref x) H3) E
section
variable {X : Cx} {E : XK} {k n np pre post : Nat} {f C : Addr} {fd : FuncData} {ps ks : List Str} {sp : Sp} {e : Expr} {es : List Expr} {kws : List Keyword} {x : Str} {pos p : Pos} {t tk : TA} {mas mks : MG (List D)} {mf : MF} {g : List Value → List Value → List Value} {gV : List V → List V → List V}
theorem run_makeG {pins : List (Addr × Obj)} {σ : L2.St} {H : Hp} {s : Shared} {Q : VK} {us ws : List Value} {vs zs : List V} (M : Mk X.K C f) (F : FnG X.prog X.w X.K X.mg X.base k f fd ps sp) (hr : Room (k + 1) X.A) (hgd : X.A.guards = some []) (hb : KBn X.K fd ps (np + 1) ks g gV) (hx : Passes (L2.CX X.prog X.w) X E)
    (I : L2.Inv X pins σ H s) (r : Vals vs us) (rz : Vals zs ws) (l1 : vs.length = np) (l2 : zs.length = ks.length)
    (h : ∀ x dx, H x = none → H dx = none → dx ≠ x → sp (gV (.ref x :: vs) zs) (upd (upd H dx (.own x)) x (.ins C dx [])) (fun v H2 => v = .non ∧ Q (.ref x) H2) E) :
    wpAny (model X.prog X.w) X.A (call (.ref C) us (ks.zip ws)) (EP X pins σ Q) X.xe s := by
  have hq := h (s.heap.objs.size + 1) s.heap.objs.size (I.hok.fresh (Nat.le_succ _)) (I.hok.fresh (Nat.le_refl _)) (Nat.ne_of_lt (Nat.lt_succ_self _))
  have I2 := Inv.made (C := C) I
  have r1 : Vals (V.ref (s.heap.objs.size + 1) :: vs) (Value.ref (s.heap.objs.size + 1) :: us) := .cons rfl r
  have r2 := hb.rel r1 rz
  have n1 : (Value.ref (s.heap.objs.size + 1) :: us).length = np + 1 := by
    rw [List.length_cons, ← r.length, l1]
  refine wpAny_call (make_map (f := f) I.kIn M.makes M.init (beq_iff_eq.mp M.fn) (codeAny_mono (F.run _ X.stack _ _ ⟨Value.ref (s.heap.objs.size + 1) :: us, ks.zip ws⟩ (g (Value.ref (s.heap.objs.size + 1) :: us) ws) _ _ E (hr.make C us (ks.zip ws)) hgd
    (I2.env0.make C us (ks.zip ws)) (hb.to _ (Value.ref (s.heap.objs.size + 1) :: us) ws I2.kIn n1 (rz.length.symm.trans l2)) r2 hq) fun r s' hq' => ?_))
  cases r with
  | error e => exact hx pins σ _ _ e s' I2 hq'
  | ok fl =>
    cases fl with
    | ret u =>
      obtain ⟨v, H', I3, rv, ev, q3⟩ := I2.after hq'
      subst ev
      exact ⟨rv, ⟨V.ref (s.heap.objs.size + 1), H', I3, rfl, q3⟩⟩
    | next => exact False.elim hq'
    | brk => exact False.elim hq'
    | cont => exact False.elim hq'
/-- C(k = v, ..) -/
theorem pe_makeG0 (M : Mk X.K C f) (F : FnG X.prog X.w X.K X.mg X.base k f fd ps sp) (hr : Room (k + 1) X.A) (hgd : X.A.guards = some []) (hg : Gl X x) (hm : X.mg x = some (.ref C)) (hb : KBn X.K fd ps (0 + 1) ks g gV) (hx : Passes (L2.CX X.prog X.w) X E) (hkw : PK X kws tk)
    (hall : (backToKw pos (keywordEach kws X.env)).all (·.1.isSome) = true) (hks : (backToKw pos (keywordEach kws X.env)).filterMap (·.1) = ks) (hdb : (x == ("__debug__" : Str)) = false)
    (hpl : ((backTo pos (starEach [] X.env)).any (·.1) || (backToKw pos (keywordEach kws X.env)).any (·.1.isNone)) = false) :
    PE X (.Call (.Name x p) [] kws pos) (tIG C 0 ks.length sp gV E tNil tk) := by
  refine ⟨fun pins s σ H Q I h => ?_⟩
  refine wpAny_Call_Name_kw (ld_glob I hg hm ?_ hdb)
  refine PySem.W.callWith_KW0 (h₀ := X.base) I.ok.mod.kin M.kp hall ?_ hpl
  refine thn (hkw.run pos pins s σ H _ I h) fun ws s2 ⟨zs, H2, I2, rz, l1, l2, q2⟩ => ⟨I2.kIn, ?_⟩
  rw [hks]
  exact run_makeG (us := []) (vs := []) M F hr hgd hb hx I2 .nil rz rfl l2 q2
/-- C(e, ..) -/
theorem pe_makeG (M : Mk X.K C f) (F : FnG X.prog X.w X.K X.mg X.base k f fd ps sp) (hr : Room (k + 1) X.A) (hgd : X.A.guards = some []) (hg : Gl X x) (hm : X.mg x = some (.ref C)) (hb : KBn X.K fd ps (np + 1) [] g gV) (hx : Passes (L2.CX X.prog X.w) X E)
    (ha : PA X (e :: es) t) (hdb : (x == ("__debug__" : Str)) = false) (he : starEach (e :: es) X.env = (false, eval e X.env) :: starEach es X.env) (hpl : (backTo pos (starEach es X.env)).any (·.1) = false) :
    PE X (.Call (.Name x p) (e :: es) [] pos) (fun σ H Q => t σ H fun vs H1 => vs.length = np ∧ ∀ x dx, H1 x = none → H1 dx = none → dx ≠ x →
      sp (gV (.ref x :: vs) []) (upd (upd H1 dx (.own x)) x (.ins C dx [])) (fun v H3 => v = .non ∧ Q (.ref x) H3) E) := by
  refine ⟨fun pins s σ H Q I h => ?_⟩
  refine wpAny_Call_Name_kw (ld_glob I hg hm ?_ hdb)
  refine PySem.W.callWith_K (h₀ := X.base) I.ok.mod.kin M.kp (thn (ha.run pos pins s σ H _ I h) fun us s1 ⟨vs, H1, I1, r, l1, q⟩ => ⟨I1.kIn, ?_⟩) he hpl
  exact run_makeG (us := us) (ws := []) (zs := []) M F hr hgd hb hx I1 r .nil l1 rfl q
theorem reps_non {K : PySem.W.Frag} {F : Hp} {r : List Addr} : ∀ n : Nat, Reps K F r (List.replicate n .non) (List.replicate n V.non)
  | 0 => .nil
  | n + 1 => .cons rfl (reps_non n)
theorem make_read {K : PySem.W.Frag} {mg : Str → Option Value} {B F : Hp} {r : List Addr} {H : Hp} {C0 : Store} {ds es : List D} {vs zs : List V} {Q : VK} {Ca : Addr} (hr : Rel K B F r H C0) (hd : Reps K F r ds vs) (he : Reps K F r es zs) (hC : PySem.W.nsIn K mainGlobals x = some (some (.ref Ca)))
    (hn : 1 + ds.length + pre + es.length + post = n)
    (o : Out (Rep K) K mg E B F r ((mf (.cell C0.length :: (ds ++ (List.replicate pre .non ++ (es ++ List.replicate post .non)))) (C0 ++ [.obj x []])).bind fun t => match t.1 with
      | .non => .ok (.cell C0.length, t.2)
      | _ => .no) Q) (a dx : Addr) (ha : H a = none) (hdx : H dx = none) (hne : dx ≠ a) :
    spN K mg n mf (V.ref a :: (vs ++ (List.replicate pre V.non ++ (zs ++ List.replicate post V.non)))) (upd (upd H dx (.own a)) a (.ins Ca dx [])) (fun v H2 => v = .non ∧ Q (.ref a) H2) E := by
  have ha2 : (upd H dx (HO.own a)) a = none := by rw [upd_ne (Ne.symm hne)]; exact ha
  have hr1 := hr.junk (o := .own a) hdx
  have hr2 := hr1.alloc (o := .ins Ca dx []) (c := .obj x []) ha2 ⟨hr1.freeF ha2, Ca, dx, [], hC, upd_same, rfl, .nil⟩
  have hra : (r ++ [a])[C0.length]? = some a := by
    rw [← hr.len, List.getElem?_append_right (Nat.le_refl _)]
    simp
  refine ⟨B, F, r ++ [a], C0 ++ [.obj x []], _, hr2, .cons (show Rep K F (r ++ [a]) (.cell C0.length) (.ref a) from ⟨a, rfl, hra⟩) ((hd.append ((reps_non pre).append (he.append (reps_non post)))).mono (.refl _) (Ex.app r _)), by simp; omega, ?_⟩
  refine Out.bind (P := Rep K) (o.mono (.refl _) (Ex.app r _)) fun d C1 F1 r1 H1 v e1 e2 hr3 hx o1 => ?_
  simp only at o1
  split at o1
  · exact ⟨hx, o1 F1 r1 H1 (.ref a) (.refl _) (.refl _) hr3 ⟨a, rfl, e2 _ _ hra⟩⟩
  · exact False.elim o1
theorem ne_make (h : CalI X.prog X.w X.K X.mg X.base x k n np [] pre post mf) (hr : Room (k + 1) X.A) (hgd : X.A.guards = some []) (hx : Passes (L2.CX X.prog X.w) X E) (ha : NA X E (e :: es) mas) (hg : Gl X x := by rfl) (hdb : (x == ("__debug__" : Str)) = false := by decide)
    (hst : starEach (e :: es) X.env = (false, eval e X.env) :: starEach es X.env := by rfl) (hpl : (backTo pos (starEach es X.env)).any (·.1) = false := by rfl) : NE X E (.Call (.Name x p) (e :: es) [] pos) (mI x n np 0 pre post mf mas aNil) := by
  obtain ⟨C, f, fd, ps, g, h0, h1, h2, h3, h4⟩ := h
  refine ⟨pe_imp (pe_makeG h2 h3 hr hgd hg h0 h4 hx ha.pa hdb hst hpl) fun s H Q q => ?_⟩
  obtain ⟨B, F, r, sl, C0, hr, hs, o⟩ := q
  refine ⟨B, F, r, sl, C0, hr, hs, Out.bind (P := Reps X.K) o fun ds C1 F1 r1 H1 vs e1 e2 hr1 hd o1 => ?_⟩
  simp only [aNil, R.bind_ok] at o1
  split at o1
  · rename_i hl
    refine ⟨by rw [← hd.length]; exact hl.1, fun a dx h5 h6 h7 => ?_⟩
    exact make_read (es := []) (zs := []) hr1 hd .nil h1 (by have h8 := hl.1; have h9 := hl.2.2; simp; omega) o1 a dx h5 h6 h7
  · exact False.elim o1
theorem ne_makeK {nk : Nat} (h : CalI X.prog X.w X.K X.mg X.base x k n 0 ks pre post mf) (hr : Room (k + 1) X.A) (hgd : X.A.guards = some []) (hx : Passes (L2.CX X.prog X.w) X E) (ha : NKs X E kws mks) (hg : Gl X x := by rfl)
    (hall : (backToKw pos (keywordEach kws X.env)).all (·.1.isSome) = true := by rfl) (hks : (backToKw pos (keywordEach kws X.env)).filterMap (·.1) = ks := by rfl) (hdb : (x == ("__debug__" : Str)) = false := by decide)
    (hpl : ((backTo pos (starEach [] X.env)).any (·.1) || (backToKw pos (keywordEach kws X.env)).any (·.1.isNone)) = false := by rfl) (hnk : ks.length = nk := by rfl) : NE X E (.Call (.Name x p) [] kws pos) (mI x n 0 nk pre post mf aNil mks) := by
  subst hnk
  obtain ⟨C, f, fd, ps, g, h0, h1, h2, h3, h4⟩ := h
  refine ⟨pe_imp (pe_makeG0 h2 h3 hr hgd hg h0 h4 hx ha.pk hall hks hdb hpl) fun s H Q q => ?_⟩
  obtain ⟨B, F, r, sl, C0, hr, hs, o⟩ := q
  show LG (Reps X.K) X.K X.mg E mks s H _
  refine ⟨B, F, r, sl, C0, hr, hs, ?_⟩
  simp only [mI, aNil, R.bind_ok] at o
  refine Out.bind (P := Reps X.K) o fun es C1 F1 r1 H1 zs e1 e2 hr1 he o1 => ?_
  simp only at o1
  split at o1
  · rename_i hl
    refine ⟨rfl, by rw [← he.length]; exact hl.2.1, fun a dx h5 h6 h7 => ?_⟩
    exact make_read (ds := []) (vs := []) hr1 .nil he h1 (by have h8 := hl.2.1; have h9 := hl.2.2; simp; omega) o1 a dx h5 h6 h7
  · exact False.elim o1
end
/-! how many: an own __len__ -/
def gLenO (x : Str) (n : Nat) (mf : MF) (d : D) (C : Store) : RE := match objAt C x d with
  | some _ => if n = 1 then (mf [d] C).bind fun t => match t.1 with
    | .int i => if 0 ≤ i ∧ i < 2 ^ 63 then .ok (.int i, t.2) else .no
    | _ => .no
    else .no
  | none => .no
section
variable {X : Cx} {E : XK} {k n : Nat} {x : Str} {mf : MF}
def rLenO (K : PySem.W.Frag) (C : Addr) (sp : Sp) (E : XK) : List V → Hp → VK → Prop := fun vs H Q => ∃ (a dx : Addr) (gs : List (Str × V)), vs = [V.ref a] ∧ H a = some (.ins C dx gs) ∧ sp [.ref a] H (fun v H2 => ∃ i : Int, v = .int i ∧ 0 ≤ i ∧ i < 2 ^ 63 ∧ Q (.int i) H2) E
theorem cr_lenO {C f : Addr} {fd : FuncData} {ps : List Str} {sp : Sp} (hm : Meth X.K C "__len__" f) (F : FnG X.prog X.w X.K X.mg X.base k f fd ps sp) (hr : Room (k + 1) X.A) (hgd : X.A.guards = some []) (hb : L2.Binds X.K fd ps []) (hx : Passes (L2.CX X.prog X.w) X E) : CallR X (.builtin "len") (rLenO X.K C sp E) := by
  intro pins s σ H vs us Q I r h
  obtain ⟨a, dx, gs, rfl, ha, hsp⟩ := h
  rw [Vals.ref1 r]
  obtain ⟨mA, J, _⟩ := ins_get I.hok ha
  obtain ⟨od, J, _⟩ := J.look
  obtain ⟨m, hF⟩ := I.fr
  refine PySem.W.len_K hF I.ok.mod.kin J hm.at_ hm.fn ?_
  have hl := F.len _ _ _ _ hsp
  have hb1 := hb s [.ref a] I.kIn (by simpa using hl)
  rw [List.append_nil] at hb1
  refine wpAny_call (codeAny_mono (F.run X.A.in1 X.stack s H ⟨[.ref a], []⟩ [.ref a] [.ref a] _ E hr.in1 hgd I.env0.in1 hb1 (.cons rfl .nil) hsp) fun r s' hq => ?_)
  cases r with
  | error z => exact hx pins σ H s z s' I hq
  | ok fl =>
    cases fl with
    | ret u =>
      obtain ⟨v, H', I', rv, i, rfl, h0, h1, q⟩ := I.after hq
      obtain ⟨t, rfl⟩ := rv
      exact ⟨⟨h0, h1⟩, .int i, H', I'.tok _, ⟨_, rfl⟩, q⟩
    | next => exact False.elim hq
    | brk => exact False.elim hq
    | cont => exact False.elim hq
theorem lenON {K : PySem.W.Frag} {mg : Str → Option Value} {C : Addr} (hC : ∀ C2 : Addr, PySem.W.nsIn K mainGlobals x = some (some (.ref C2)) → C2 = C) : CallN K mg E (rLenO K C (spN K mg n mf) E) (on1 (gLenO x n mf)) := on1N fun B F r H C0 d v Q hr hd o => by
  unfold gLenO at o
  split at o
  · rename_i p eo
    obtain ⟨i, fs⟩ := p
    split at o
    · rename_i hn
      subst hn
      obtain ⟨a, Ca, dx, gs, rfl, ed, h1, h2, h3, h4, h5, h6⟩ := objAt_ok hr hd eo
      have hCa := hC Ca h3
      subst hCa
      refine ⟨a, dx, gs, rfl, h4, B, F, r, C0, [d], hr, .cons hd .nil, rfl, Out.bind (P := Rep K) o fun t C1 F1 r1 H1 u e1 e2 hr1 hx o1 => ?_⟩
      simp only at o1
      split at o1
      · rename_i i' 
        split at o1
        · rename_i hi
          exact ⟨i', hx, hi.1, hi.2, o1 F1 r1 H1 (.int i') (.refl _) (.refl _) hr1 rfl⟩
        · exact False.elim o1
      · exact False.elim o1
    · exact False.elim o
  · exact False.elim o
theorem ne_lenO {e : Expr} {m : ME} {p1 pos : Pos} (h : CalM X.prog X.w X.K X.mg X.base x "__len__" k n mf) (hr : Room (k + 1) X.A) (hgd : X.A.guards = some []) (hx : Passes (L2.CX X.prog X.w) X E) (hm : X.mg "len" = none) (ho : NE X E e m) (hl : Gl X "len" := by rfl)
    (he : starEach [e] X.env = (false, eval e X.env) :: starEach [] X.env := by rfl) (hpl : (backTo pos (starEach [] X.env)).any (·.1) = false := by rfl) : NE X E (.Call (.Name "len" p1) [e] [] pos) (mCB (on1 (gLenO x n mf)) (aCons m aNil)) := by
  obtain ⟨C, f, fd, ps, h0, h1, h2, h3, h4⟩ := h
  exact ne_callB (cr_lenO h2 h3 hr hgd h4 hx) (lenON h0) hm (na_cons ho na_nil (hs := he)) hl (by decide +kernel) (by decide) (by decide) he hpl
end
/-! steps -/
section
variable {C : Store} {QD : D → Store → Prop} {QS : Fl → Sl → Store → Prop} {x f m : Str} {i n : Nat} {fs : List (Str × D)} {sl : Sl} {mo mv : ME} {mas mks : MG (List D)} {mf : MF}
theorem objAt_c (hk : C[i]? = some (.obj x fs)) : objAt C x (.cell i) = some (i, fs) := by
  unfold objAt
  simp only [hk, if_true]
theorem w_gfld {v : D} (hk : C[i]? = some (.obj x fs)) (hf : fs.lookup f = some v) (q : QD v C) : W (gFld x f (.cell i) C) QD := by
  refine W.of (a := v) (C := C) ?_ q
  unfold gFld
  rw [objAt_c hk]
  simp only [hf]
theorem w_sFld (h : W (mv sl C) fun d C0 => W (mo sl C0) fun p C1 => ∃ i fs, p = .cell i ∧ C1[i]? = some (.obj x fs) ∧ fs.length < 1000 ∧ QS .nx sl (C1.set i (.obj x (putFD f d fs)))) : WS (sFld x f mo mv sl C) QS := by
  refine W.bindS (h.imp fun d C0 h => W.bindS (h.imp fun p C1 h => ?_))
  obtain ⟨i, fs, rfl, hk, hl, q⟩ := h
  simp only [objAt_c hk, if_pos hl]
  exact ⟨_, _, _, rfl, q⟩
theorem w_M (h : W (mo sl C) fun d C1 => ∃ i fs, d = .cell i ∧ C1[i]? = some (.obj x fs) ∧ fs.lookup m = none ∧ W (mas sl C1) fun xs C2 => xs.length + 1 = n ∧ W (mf (.cell i :: xs) C2) QD) : W (mM x m n mf mo mas sl C) QD := by
  refine W.bind (h.imp fun d C1 h => ?_)
  obtain ⟨i, fs, rfl, hk, hl, q⟩ := h
  simp only [objAt_c hk, if_pos hl]
  refine W.bind (q.imp fun xs C2 h => ?_)
  obtain ⟨h1, h2⟩ := h
  simp only [if_pos h1]
  exact h2
theorem w_I {np nk pre post : Nat} (h : W (mas sl C) fun xs C1 => W (mks sl C1) fun ys C2 => xs.length = np ∧ ys.length = nk ∧ 1 + np + pre + nk + post = n ∧ W (mf (.cell C2.length :: (xs ++ (List.replicate pre .non ++ (ys ++ List.replicate post .non)))) (C2 ++ [.obj x []])) fun d C3 => d = .non ∧ QD (.cell C2.length) C3) : W (mI x n np nk pre post mf mas mks sl C) QD := by
  refine W.bind (h.imp fun xs C1 h => W.bind (h.imp fun ys C2 h => ?_))
  obtain ⟨h1, h2, h3, h4⟩ := h
  simp only [if_pos (And.intro h1 (And.intro h2 h3))]
  refine W.bind (h4.imp fun d C3 h => ?_)
  obtain ⟨rfl, q⟩ := h
  exact W.ok q
theorem w_lenO (hk : C[i]? = some (.obj x fs)) (h : W (mf [.cell i] C) fun d C1 => ∃ k : Int, d = .int k ∧ 0 ≤ k ∧ k < 2 ^ 63 ∧ QD (.int k) C1) : W (on1 (gLenO x 1 mf) [.cell i] C) QD := by
  show W (gLenO x 1 mf (.cell i) C) QD
  unfold gLenO
  rw [objAt_c hk]
  simp only [if_true]
  refine W.bind (h.imp fun d C1 h => ?_)
  obtain ⟨k, rfl, h0, h1, q⟩ := h
  simp only [if_pos (And.intro h0 h1)]
  exact W.ok q
end
end Nv

namespace Nv
open PySem PySem.Spec PyProof.Rows L2
/-! == and != by an own __eq__ -/
section
variable {prog : Program} {w : World} {A : Around} {E : Value → Shared → Prop} {s : Shared} {K : PySem.W.Frag} {x C f : Addr} {ox : Obj} {od : Option Obj} {b tb : Value}
theorem ne_bind (self : Value) : bindSpecial (.builtin "object.__ne__") self = pure (.builtin "object.__ne__", [self]) := PySem.F.cmp_object.ne.bind self
theorem ifBound_ne {M : Model} {args : List Value} {Q : Option Value → Shared → Prop} (X : K.In s.heap) (I : PySem.W.InstAt s.heap x ox C od) (hs : PySem.W.findIn K (.ref C) "__ne__" = some (some (.builtin "object.__ne__")))
    (h : wpAny M A (call (.builtin "object.__ne__") (.ref x :: args)) (fun v => Q (some v)) E s) : wpAny M A (callSpecialIfBound? (.ref x) "__ne__" args) Q E s := by
  simp only [callSpecialIfBound?, bindSpecialIfBound?]
  refine wpAny_holding (wpAny_bind (wpAny_bind (wpAny_bind (I.type.here ((PySem.W.looks_findIn X hs).here ?_)))))
  simp only [ne_bind]
  refine wpAny_bind (wpAny_askSetting (wpAny_ite ?_))
  have fin : wpAny M A (call (.builtin "object.__ne__") ([.ref x] ++ args) >>= fun v => pure (some v)) Q E s := wpAny_bind (wpAny_mono h (fun v s' h' => wpAny_pure h') fun _ _ h' => h')
  split
  · exact wpAny_bind (wpAny_pure (wpAny_pure fin))
  · exact wpAny_tryCatch (wpAny_bind (wpAny_pure (wpAny_pure fin)))
theorem ne_entry {Q : Fin → Shared → Prop} (X : K.In s.heap) (I : PySem.W.InstAt s.heap x ox C od) (hu : A.units < cLine) (hs : PySem.W.findIn K (.ref C) "__eq__" = some (some (.ref f))) (hf : PySem.W.isFn K (.ref f) = true)
    (hcall : wpAny (model prog w) A (call (.ref f) [.ref x, b]) (fun v s' => ∃ z, v = .bool z ∧ Q (.done (.ret (.bool (!z)))) s') E s) : wpAny (model prog w) A (Builtin.«object.__ne__» ⟨[.ref x, b], []⟩) Q E s := by
  unfold Builtin.«object.__ne__»
  repeat (first
    | with_reducible refine wpAny_cRoomFor hu ?_
    | (refine wpAny_bind (m := callSpecialIfBound? (.ref x) (Str.ofString "__eq__") [b])
        (PySem.W.ifBound_K X I hs hf (wpAny_mono hcall (fun r s' hr => by
          obtain ⟨z, rfl, hq⟩ := hr
          repeat (first | exact hq | exact wpAny_pure hq | exact wpAny_truthy_bool hq | (refine wpAny_bind (m := truthy (.bool _)) (wpAny_truthy_bool ?_)) | wp_step)) fun _ _ e => e)))
    | wp_step)
theorem ne_K {Q : Value → Shared → Prop} (hu : A.units + 1 < cLine) (X : K.In s.heap) (I : PySem.W.InstAt s.heap x ox C od) (hb : PySem.W.Looks (model prog w) s.heap (typeOf b) tb) (hn : PySem.W.notFirst K C tb = true)
    (hne : PySem.W.findIn K (.ref C) "__ne__" = some (some (.builtin "object.__ne__"))) (hm : PySem.W.mroIn K C (.type "object") = some true)
    (hs : PySem.W.findIn K (.ref C) "__eq__" = some (some (.ref f))) (hf : PySem.W.isFn K (.ref f) = true)
    (h : wpAny (model prog w) A.in1 (call (.ref f) [.ref x, b]) (fun v s' => ∃ z, v = .bool z ∧ Q (.bool (!z)) s') E s) : wpAny (model prog w) A (richCompare .NotEq (.ref x) b) Q E s := by
  have one : wpAny (model prog w) A (tryCompare (.ref x) "__ne__" b) (fun r s' => ∃ v, r = some v ∧ Q v s') E s := by
    unfold tryCompare
    refine wpAny_bind (ifBound_ne X I hne (wpAny_call (codeAny_call_builtin PySem.F.cmp_object.ne.plain PySem.F.cmpEntry_ne
      (PySem.W.check_slot PySem.F.cmpKind_ne PySem.F.cmpSplit_ne (PySem.W.Looks.andThen I.type (PySem.W.looks_mroIn X hm)) (PySem.F.cmpArgs_ne _ _) (ne_entry (A := A.in1) X I hu hs hf (wpAny_mono h (fun v s' hv => ?_) fun _ _ e => e))))))
    obtain ⟨z, rfl, hq⟩ := hv
    first | exact ⟨z, rfl, wpAny_pure ⟨_, rfl, hq⟩⟩ | exact ⟨z, rfl, wpAny_pure (wpAny_pure ⟨_, rfl, hq⟩)⟩ | exact ⟨z, rfl, ⟨_, rfl, hq⟩⟩
  unfold richCompare
  simp only [oneThing_ref]
  refine wpAny_holding (wpAny_bind (wpAny_cRoomFor (Nat.lt_of_succ_lt hu) ?_))
  refine wpAny_bind (I.type.here (wpAny_bind (hb.here ?_)))
  split
  · rename_i q
    have e : PySem.W.subIn K tb (.ref C) = some false := by
      rcases Bool.or_eq_true_iff.mp hn with e | e
      · rw [beq_iff_eq.mp e] at q; simp at q
      · exact beq_iff_eq.mp e
    refine wpAny_bind ((PySem.W.looks_subIn X e).here ?_)
    simp only [Bool.false_eq_true, if_false]
    refine wpAny_bind (wpAny_mono one (fun r s' z => ?_) fun _ _ e => e)
    obtain ⟨v, rfl, hq⟩ := z
    exact wpAny_pure hq
  · refine wpAny_bind (wpAny_pure ?_)
    simp only [Bool.false_eq_true, if_false]
    refine wpAny_bind (wpAny_mono one (fun r s' z => ?_) fun _ _ e => e)
    obtain ⟨v, rfl, hq⟩ := z
    exact wpAny_pure hq
end
/-- what an own class with an own __eq__ must have besides -/
structure OwnC (K : PySem.W.Frag) (C : Addr) : Prop where
  cl : Cls K C
  ha : PySem.W.findIn K (.ref C) "__class__" = some (some (.builtin "object.__class__"))
  hn : PySem.W.specialIn K (.builtin "object.__class__") "__get__" = some (some (.builtin "getset_descriptor.__get__"))
  htk : PySem.W.takesIn K (.builtin "object.__class__") = some true
  hm : PySem.W.mroIn K C (.type "object") = some true
  ne : PySem.W.findIn K (.ref C) "__ne__" = some (some (.builtin "object.__ne__"))
  ty : PySem.W.typeIn K (.ref C) = some (.type "type")
def OwnW (K : PySem.W.Frag) (mg : Str → Option Value) (x : Str) : Prop := ∃ C : Addr, mg x = some (.ref C) ∧ PySem.W.nsIn K mainGlobals x = some (some (.ref C)) ∧ OwnC K C
theorem ns_one {K : PySem.W.Frag} {C : Addr} {x : Str} (h : PySem.W.nsIn K mainGlobals x = some (some (.ref C))) : ∀ C2 : Addr, PySem.W.nsIn K mainGlobals x = some (some (.ref C2)) → C2 = C := fun C2 h2 => by
  rw [h] at h2
  cases h2
  rfl
theorem sub_kinds {K : PySem.W.Frag} {C : Addr} {T : String} (hT : T ∈ kinds) : PySem.W.subIn K (.type T) (.ref C) = some false := by
  have main : ∀ {l : List Value}, fastBuiltinMro T = some l → (∀ v ∈ l, ∃ S : String, v = .type S) → PySem.W.subIn K (.type T) (.ref C) = some false := fun {l} h1 h2 => by
    show (fastBuiltinMro T).map (·.contains (.ref C)) = some false
    rw [h1]
    show some (l.contains (.ref C)) = some false
    congr 1
    rw [Bool.eq_false_iff]
    intro hc
    obtain ⟨S, hS⟩ := h2 _ (List.contains_iff_mem.mp hc)
    cases hS
  have two : ∀ {a b : String} {v : Value}, v ∈ [Value.type a, .type b] → ∃ S : String, v = .type S := fun {a b v} h => by
    rcases List.mem_cons.mp h with rfl | h
    · exact ⟨_, rfl⟩
    · exact ⟨_, List.mem_singleton.mp h⟩
  have three : ∀ {a b c : String} {v : Value}, v ∈ [Value.type a, .type b, .type c] → ∃ S : String, v = .type S := fun {a b c v} h => by
    rcases List.mem_cons.mp h with rfl | h
    · exact ⟨_, rfl⟩
    · exact two h
  simp only [kinds, List.mem_cons, List.not_mem_nil, or_false] at hT
  rcases hT with rfl | rfl | rfl | rfl | rfl | rfl | rfl
  · exact main (l := [.type "NoneType", .type "object"]) (by decide +kernel) fun v hv => two hv
  · exact main (l := [.type "bool", .type "int", .type "object"]) (by decide +kernel) fun v hv => three hv
  · exact main (l := [.type "int", .type "object"]) (by decide +kernel) fun v hv => two hv
  · exact main (l := [.type "str", .type "object"]) (by decide +kernel) fun v hv => two hv
  · exact main (l := [.type "list", .type "object"]) (by decide +kernel) fun v hv => two hv
  · exact main (l := [.type "tuple", .type "object"]) (by decide +kernel) fun v hv => two hv
  · exact main (l := [.type "dict", .type "object"]) (by decide +kernel) fun v hv => two hv
theorem kit_kindO {K : PySem.W.Frag} {C : Addr} {T : String} (O : OwnC K C) (hT : T ∈ kinds) : PySem.W.kitOne K (.type T) (.ref C) = some false := by
  obtain ⟨cd, hc, _⟩ := PySem.W.any_some O.cl.hd
  show (if ((Value.type T : Value) == .ref C) = true then some true else PySem.W.kitCls K (.type T) (.ref C)) = some false
  rw [if_neg (fun z => by have z := beq_iff_eq.mp z; cases z)]
  show (if ((PySem.W.clsIn K C).isSome && PySem.W.typeIn K (.ref C) == some (.type "type")) = true then PySem.W.subIn K (.type T) (.ref C) else none) = some false
  rw [if_pos (by rw [hc, O.ty]; simp), sub_kinds hT]
theorem kitO_self {K : PySem.W.Frag} {C : Addr} : PySem.W.kitOne K (.ref C) (.ref C) = some true := by
  show (if ((Value.ref C : Value) == .ref C) = true then some true else _) = some true
  rw [if_pos (by simp)]
/-- whether a value is of the class -/
def tyO (C : Store) (x : Str) (d : D) : Option Bool := match objAt C x d with
  | some _ => some true
  | none => match tyC C d with
    | some _ => some false
    | none => none
def gIsO (x : Str) (d : D) (C : Store) : RE := match tyO C x d with
  | some b => .ok (.bl b, C)
  | none => .no
section
variable {K : PySem.W.Frag} {mg : Str → Option Value} {B F H : Hp} {r : List Addr} {C : Store} {Cx0 : Addr} {x : Str}
theorem tyO_ok {d : D} {v : V} {b : Bool} (O : OwnC K Cx0) (hC : ∀ C2 : Addr, PySem.W.nsIn K mainGlobals x = some (some (.ref C2)) → C2 = Cx0) (hr : Rel K B F r H C) (hx : Rep K F r d v) (e : tyO C x d = some b) :
    ∃ t, TyX K H v t ∧ PySem.W.kitOne K t (.ref Cx0) = some b ∧ PySem.W.notFirst K Cx0 t = true := by
  unfold tyO at e
  split at e
  · rename_i p eo
    cases e
    obtain ⟨i, fs⟩ := p
    obtain ⟨a, Ca, dx, gs, rfl, ed, h1, h2, h3, h4, h5, h6⟩ := objAt_ok hr hx eo
    have hCa := hC Ca h3
    subst hCa
    exact ⟨.ref Ca, .base (.ins h4 O.cl O.ha O.hn O.htk O.hm), kitO_self, by unfold PySem.W.notFirst; simp⟩
  · split at e
    · rename_i t et
      cases e
      obtain ⟨k1, k2⟩ := tyC_ok hr hx et
      exact ⟨.type t, k2, kit_kindO O k1, by unfold PySem.W.notFirst; rw [sub_kinds k1]; simp⟩
    · cases e
end
section
variable {X : Cx} {E : XK} {x : Str} {ma mb : ME} {a : Expr} {p1 p2 pos : Pos} {k n : Nat} {mf : MF}
theorem ne_isO (h : OwnW X.K X.mg x) (hm : X.mg "isinstance" = none) (ha : NE X E a ma) (hl : Gl X "isinstance" := by rfl) (hlx : Gl X x := by rfl) (hdx : (x == ("__debug__" : Str)) = false := by decide)
    (hs : starEach [a, .Name x p2] X.env = (false, eval a X.env) :: starEach [.Name x p2] X.env := by rfl)
    (hs2 : starEach [.Name x p2] X.env = (false, eval (.Name x p2) X.env) :: starEach [] X.env := by rfl) (hpl : (backTo pos (starEach [.Name x p2] X.env)).any (·.1) = false := by rfl) :
    NE X E (.Call (.Name "isinstance" p1) [a, .Name x p2] [] pos) (m1 (gIsO x) ma) := by
  obtain ⟨C0, gC, hC, O⟩ := h
  exact ⟨pe_imp (pe_callB call_isi hl hm boot_isinstance (pa_cons ha.pe (pa_cons (pe_glob (v := .ref C0) hlx gC rfl hdx) pa_nil hs2) hs) (by decide) (by decide) hs hpl) fun s H Q q => by
    obtain ⟨B, F, r, sl, C, hr, hs, o⟩ := q
    refine ⟨B, F, r, sl, C, hr, hs, Out.bind (P := Rep X.K) o fun d C1 F1 r1 H1 v e1 e2 hr1 hx o1 => ?_⟩
    simp only [gIsO] at o1
    split at o1
    · rename_i b et
      obtain ⟨t, k1, k2, _⟩ := tyO_ok O (ns_one hC) hr1 hx et
      exact ⟨v, .ref C0, t, .ref C0, b, rfl, .own C0, k1, k2, out_ok (d := .bl b) hr1 rfl o1⟩
    · exact False.elim o1⟩
/-- x == y, x != y, x an object of the class -/
def gOwn (neg : Bool) (x : Str) (mf : MF) (a b : D) (C : Store) : RE := match objAt C x a, tyO C x b with
  | some _, some _ => (mf [a, b] C).bind fun t => match t.1 with
    | .bl z => .ok (.bl (if neg = true then !z else z), t.2)
    | _ => .no
  | _, _ => .no
def rOwnB (K : PySem.W.Frag) (C : Addr) (sp : Sp) (E : XK) (neg : Bool) : R2 := fun v u H Q => ∃ (a dx : Addr) (gs : List (Str × V)) (t : Value), v = .ref a ∧ H a = some (.ins C dx gs) ∧ TyX K H u t ∧ PySem.W.notFirst K C t = true ∧
  sp [.ref a, u] H (fun w H2 => ∃ z : Bool, w = .bl z ∧ Q (.bl (if neg = true then !z else z)) H2) E
theorem op_ownE {C f : Addr} {fd : FuncData} {ps : List Str} {sp : Sp} (hm : Meth X.K C "__eq__" f) (F : FnG X.prog X.w X.K X.mg X.base k f fd ps sp) (hr : Room (k + 1) X.A) (hgd : X.A.guards = some []) (hb : L2.Binds X.K fd ps []) (hx : Passes (L2.CX X.prog X.w) X E) : OpR X (compareOp .Eq) (rOwnB X.K C sp E false) := by
  intro pins s σ H v0 u0 v u Q I rv ru h
  obtain ⟨a, dx, gs, t, rfl, ha, ty, hn, hsp⟩ := h
  cases (show v = Value.ref a from rv)
  obtain ⟨mA, J, _⟩ := ins_get I.hok ha
  obtain ⟨od, J, _⟩ := J.look
  obtain ⟨m, hF⟩ := I.fr
  obtain ⟨P, Z, hp, _⟩ := kit_of I ru ty
  show wpAny _ _ (richCompare .Eq (.ref a) u) _ _ _
  refine PySem.W.cmp_K hr.units0 hF I.ok.mod.kin J (Z.ty _ _ I.kIn hp) hn hm.at_ hm.fn ?_
  have hl := F.len _ _ _ _ hsp
  have hb1 := hb s [.ref a, u] I.kIn (by simpa using hl)
  rw [List.append_nil] at hb1
  refine wpAny_call (codeAny_mono (F.run X.A X.stack s H ⟨[.ref a, u], []⟩ [.ref a, u] [.ref a, u0] _ E (hr.mono (by omega)) hgd I.env0 hb1 (.cons rfl (.cons ru .nil)) hsp) fun r s' hq => ?_)
  cases r with
  | error z => exact hx pins σ H s z s' I hq
  | ok fl =>
    cases fl with
    | ret w =>
      obtain ⟨v, H', I', rv, z, rfl, q⟩ := I.after hq
      cases (show w = Value.bool z from rv)
      exact ⟨.bl z, H', I', rfl, q⟩
    | next => exact False.elim hq
    | brk => exact False.elim hq
    | cont => exact False.elim hq
theorem op_ownN {C f : Addr} {fd : FuncData} {ps : List Str} {sp : Sp} (O : OwnC X.K C) (hm : Meth X.K C "__eq__" f) (F : FnG X.prog X.w X.K X.mg X.base k f fd ps sp) (hr : Room (k + 1) X.A) (hgd : X.A.guards = some []) (hb : L2.Binds X.K fd ps []) (hx : Passes (L2.CX X.prog X.w) X E) : OpR X (compareOp .NotEq) (rOwnB X.K C sp E true) := by
  intro pins s σ H v0 u0 v u Q I rv ru h
  obtain ⟨a, dx, gs, t, rfl, ha, ty, hn, hsp⟩ := h
  cases (show v = Value.ref a from rv)
  obtain ⟨mA, J, _⟩ := ins_get I.hok ha
  obtain ⟨od, J, _⟩ := J.look
  obtain ⟨P, Z, hp, _⟩ := kit_of I ru ty
  show wpAny _ _ (richCompare .NotEq (.ref a) u) _ _ _
  refine ne_K (by have := hr.units; omega) I.kIn J (Z.ty _ _ I.kIn hp) hn O.ne O.hm hm.at_ hm.fn ?_
  have hl := F.len _ _ _ _ hsp
  have hb1 := hb s [.ref a, u] I.kIn (by simpa using hl)
  rw [List.append_nil] at hb1
  refine wpAny_call (codeAny_mono (F.run X.A.in1 X.stack s H ⟨[.ref a, u], []⟩ [.ref a, u] [.ref a, u0] _ E hr.in1 hgd I.env0.in1 hb1 (.cons rfl (.cons ru .nil)) hsp) fun r s' hq => ?_)
  cases r with
  | error z => exact hx pins σ H s z s' I hq
  | ok fl =>
    cases fl with
    | ret w =>
      obtain ⟨v, H', I', rv, z, rfl, q⟩ := I.after hq
      cases (show w = Value.bool z from rv)
      exact ⟨z, rfl, .bl (!z), H', I', rfl, q⟩
    | next => exact False.elim hq
    | brk => exact False.elim hq
    | cont => exact False.elim hq
theorem ownN {K : PySem.W.Frag} {mg : Str → Option Value} {C : Addr} {neg : Bool} (O : OwnC K C) (hC : ∀ C2 : Addr, PySem.W.nsIn K mainGlobals x = some (some (.ref C2)) → C2 = C) : OpN K mg E (rOwnB K C (spN K mg 2 mf) E neg) (gOwn neg x mf) := by
  intro B F r H C0 d e v u Q hr hd he o
  unfold gOwn at o
  split at o
  · rename_i p b eo et
    obtain ⟨i, fs⟩ := p
    obtain ⟨t, k1, k2, k3⟩ := tyO_ok O hC hr he et
    obtain ⟨a, Ca, dx, gs, rfl, ed, h1, h2, h3, h4, h5, h6⟩ := objAt_ok hr hd eo
    have hCa := hC Ca h3
    subst hCa
    refine ⟨a, dx, gs, t, rfl, h4, k1, k3, B, F, r, C0, [d, e], hr, .cons hd (.cons he .nil), rfl, Out.bind (P := Rep K) o fun t C1 F1 r1 H1 w e1 e2 hr1 hx o1 => ?_⟩
    simp only at o1
    split at o1
    · rename_i z
      exact ⟨z, hx, o1 F1 r1 H1 _ (.refl _) (.refl _) hr1 rfl⟩
    · exact False.elim o1
  · exact False.elim o
theorem ne_ownE (h : OwnW X.K X.mg x) (c : CalM X.prog X.w X.K X.mg X.base x "__eq__" k 2 mf) (hr : Room (k + 1) X.A) (hgd : X.A.guards = some []) (hx : Passes (L2.CX X.prog X.w) X E) (ha : NE X E a ma) {b : Expr} (hb : NE X E b mb) (hm : behindInMarks .Eq b = false) : NE X E (.Compare a [.Eq] [b] pos) (m2 (gOwn false x mf) ma mb) := by
  obtain ⟨C, gC, hC, O⟩ := h
  obtain ⟨C', f, fd, ps, h0, h1, h2, h3, h4⟩ := c
  cases h0 C hC
  exact ne_cmp (op_ownE h2 h3 hr hgd h4 hx) (ownN O h0) ha hb hm
theorem ne_ownN (h : OwnW X.K X.mg x) (c : CalM X.prog X.w X.K X.mg X.base x "__eq__" k 2 mf) (hr : Room (k + 1) X.A) (hgd : X.A.guards = some []) (hx : Passes (L2.CX X.prog X.w) X E) (ha : NE X E a ma) {b : Expr} (hb : NE X E b mb) (hm : behindInMarks .NotEq b = false) : NE X E (.Compare a [.NotEq] [b] pos) (m2 (gOwn true x mf) ma mb) := by
  obtain ⟨C, gC, hC, O⟩ := h
  obtain ⟨C', f, fd, ps, h0, h1, h2, h3, h4⟩ := c
  cases h0 C hC
  exact ne_cmp (op_ownN O h2 h3 hr hgd h4 hx) (ownN O h0) ha hb hm
theorem nt_ownE (h : OwnW X.K X.mg x) (c : CalM X.prog X.w X.K X.mg X.base x "__eq__" k 2 mf) (hr : Room (k + 1) X.A) (hgd : X.A.guards = some []) (hx : Passes (L2.CX X.prog X.w) X E) (ha : NE X E a ma) {b : Expr} (hb : NE X E b mb) (hm : behindInMarks .Eq b = false) : NT X E (.Compare a [.Eq] [b] pos) (mT (m2 (gOwn false x mf) ma mb)) := by
  obtain ⟨C, gC, hC, O⟩ := h
  obtain ⟨C', f, fd, ps, h0, h1, h2, h3, h4⟩ := c
  cases h0 C hC
  exact nt_cmp (op_ownE h2 h3 hr hgd h4 hx) (ownN O h0) ha hb hm
theorem nt_ownN (h : OwnW X.K X.mg x) (c : CalM X.prog X.w X.K X.mg X.base x "__eq__" k 2 mf) (hr : Room (k + 1) X.A) (hgd : X.A.guards = some []) (hx : Passes (L2.CX X.prog X.w) X E) (ha : NE X E a ma) {b : Expr} (hb : NE X E b mb) (hm : behindInMarks .NotEq b = false) : NT X E (.Compare a [.NotEq] [b] pos) (mT (m2 (gOwn true x mf) ma mb)) := by
  obtain ⟨C, gC, hC, O⟩ := h
  obtain ⟨C', f, fd, ps, h0, h1, h2, h3, h4⟩ := c
  cases h0 C hC
  exact nt_cmp (op_ownN O h2 h3 hr hgd h4 hx) (ownN O h0) ha hb hm
end
section
variable {C : Store} {QD : D → Store → Prop} {x : Str} {mf : MF} {i : Nat} {fs : List (Str × D)} {b : D} {neg z : Bool}
theorem tyO_c {j : Nat} {gs : List (Str × D)} (h : C[j]? = some (.obj x gs)) : tyO C x (.cell j) = some true := by
  unfold tyO
  rw [objAt_c h]
theorem w_isO (h : tyO C x b = some z) (q : QD (.bl z) C) : W (gIsO x b C) QD := by
  unfold gIsO
  rw [h]
  exact W.ok q
theorem w_own (h1 : C[i]? = some (.obj x fs)) (h2 : tyO C x b = some z) (h : W (mf [.cell i, b] C) fun d C1 => ∃ y : Bool, d = .bl y ∧ QD (.bl (if neg = true then !y else y)) C1) : W (gOwn neg x mf (.cell i) b C) QD := by
  unfold gOwn
  rw [objAt_c h1, h2]
  refine W.bind (h.imp fun d C1 hy => ?_)
  obtain ⟨y, rfl, q⟩ := hy
  exact W.ok q
end
end Nv

namespace Nv
open PySem PySem.Spec PyProof.Rows L2
/-! methods called where an error is caught -/
section
variable {X : Cx} {W : WX} {k n : Nat} {o e : Expr} {es : List Expr} {x m : Str} {pos apos p1 : Pos} {mo : ME} {mas : MG (List D)} {mf : MF}
theorem meth_readX {C : Addr} (hC : ∀ C2 : Addr, PySem.W.nsIn X.K mainGlobals x = some (some (.ref C2)) → C2 = C) {s : L2.St} {H : Hp} {Q : VK} (q : LX X.K X.mg W (mM x m n mf mo mas) s H Q) :
    LG (Rep X.K) X.K X.mg XT mo s H fun v H1 => ∃ a dx fs, v = .ref a ∧ H1 a = some (.ins C dx fs) ∧ fs.lookup m = none ∧ LG (Reps X.K) X.K X.mg XT mas s H1 fun vs H2 => spN X.K X.mg n mf (v :: vs) H2 Q (wAt0 W s) := by
  obtain ⟨B, F, r, sl, C0, hr, hs, o⟩ := q
  refine ⟨B, F, r, sl, C0, hr, hs, Out.bindT (P := Rep X.K) o fun d C1 F1 r1 H1 v e1 e2 hr1 hx o1 => ?_⟩
  simp only at o1
  split at o1
  · rename_i i fs eo
    split at o1
    · rename_i hl
      obtain ⟨a, Ca, dx, gs, rfl, ed, h1, h2, h3, h4, h5, h6⟩ := objAt_ok hr1 hx eo
      have hCa := hC Ca h3
      subst hCa
      refine ⟨a, dx, gs, rfl, h4, (fld_ok (f := m) h5 h6).2 hl, ?_⟩
      refine ⟨B, F1, r1, sl, C1, hr1, hs.mono e1 e2, Out.bindT (P := Reps X.K) o1 fun ys C2 F2 r2 H2 vs e3 e4 hr2 hy o2 => ?_⟩
      simp only at o2
      split at o2
      · rename_i hn
        exact ⟨B, F2, r2, C2, d :: ys, hr2, .cons (hx.mono e3 e4) hy, by rw [List.length_cons]; exact hn, o2⟩
      · exact False.elim o2
    · exact False.elim o1
  · exact False.elim o1
theorem nex_meth0 {pl : Sem Bool} (h : CalM X.prog X.w X.K X.mg X.base x m k n mf) (hr : Room k X.A) (hgd : X.A.guards = some []) (tk : L2.Takes X W) (ho : NE X XT o mo)
    (ht : eval (.Call (.Attribute o m apos) [] [] pos) X.env = (do
      let ov ← eval o X.env
      standAt apos.atName
      let (f, first) ← holding [ov] (getMethod ov m pl)
      callWith pos f first (backTo pos (starEach [] X.env)) (backToKw pos (keywordEach [] X.env))) := by rfl) : NEx X W (.Call (.Attribute o m apos) [] [] pos) (mM x m n mf mo aNil) := by
  obtain ⟨C, f, fd, ps, h0, c, hm, F, hb⟩ := h
  refine ⟨⟨fun pins s σ H Q I q => ?_⟩⟩
  refine PySem.W.methodCall_KW (pl := pl) (thn (ho.pe.run pins s σ H _ I (meth_readX (mas := aNil) h0 q)) fun u s1 z => ?_) ht
  obtain ⟨v, H1, I1, rx, a, dx, fs, ex, ea, l, B1, F1, r1, sl1, C1, hr1, hs1, o1⟩ := z
  subst ex
  obtain rfl : u = Value.ref a := rx
  refine getmeth_ok I1 ea c hm l ?_
  have hsp := o1 F1 r1 H1 [] (.refl _) (.refl _) hr1 .nil
  exact PySem.W.callWith_K0 (first := [.ref a]) I1.kIn hm.kp (run_fnGS (us := [.ref a]) (vs := [.ref a]) F hr hgd hb (passAt tk σ) I1 (.cons rfl .nil) hsp)
end
/-! y = [w, n.f] -/
section
variable {X : Cx} {E : XK} {x f y n rx w : Str} {i j : Nat} {body : List Stmt} {np p1 p2 p3 p4 p5 p6 pos pos' : Pos} {mb : MS} {k1 : Nat}
end
section
variable {sl : Sl} {C : Store} {QS : Fl → Sl → Store → Prop} {x f w : Str} {i j : Nat} {d : D}
end
end Nv

namespace Nv
open PySem PySem.Spec PyProof.Rows L2
/-! a try body of several expressions; a clause that returns -/
section
variable {X : Cx} {W : WX} {e : Expr} {st : Stmt} {xs : List Stmt} {m mo : ME} {u u2 : MS} {pos : Pos}
theorem nssx_drop (he : NEx X W e m) (h2 : NSsx X W xs u2) (hs : swapsWith e none pos.line X.env = pure false := by rfl) : NSsx X W (.Expr e pos :: xs) (sSeq (sDrop m) u2) := ⟨pss_imp (pss_cons (ps_expr he.pe hs) h2.ps) fun De s H q => by
    obtain ⟨B, F, r, sl, C, hr, hsl, o⟩ := q
    refine ⟨B, F, r, sl, C, hr, hsl, ?_⟩
    have o2 : OutS X.K X.mg (wAt0 W s) B F r ((m sl C).bind fun p => u2 sl p.2) De := by
      unfold sSeq sDrop at o
      cases hm : m sl C with
      | ok p => rw [hm] at o; exact o
      | ex x C1 => rw [hm] at o; exact o
      | no => rw [hm] at o; exact o
    exact OutS.bind (P := Rep X.K) o2 fun x C1 F1 r1 H1 v e1 e2 hr1 hx o1 => ⟨B, F1, r1, sl, C1, hr1, hsl.mono e1 e2, o1⟩⟩
theorem nex_mt1 {o : Expr} {name : Str} {apos cpos : Pos} {T id : String} {rm : V → List V → Hp → VK → Prop} {chk : Store → D → Bool} {g : D → List D → Store → RE} (pa : PlainAttrs T) (slot : Slot T name id)
    (hty : typeOf (.builtin id) = pure (.type "method_descriptor")) (hm : MtR X id rm) (hc : ChkN X.K T chk) (hg : ∀ E, MtN X.K X.mg E rm g) (ho : NE X XT o mo) (ha : NEx X W e m) (hbase : attributeBase o name X.env (eval o X.env) = eval o X.env := by rfl)
    (hfew : ((backTo cpos (starEach [e] X.env)).all (fun x => !x.1) && (backToKw cpos (keywordEach [] X.env)).all (fun x => x.1.isSome)
      && decide ([e].length + ([] : List Keyword).length + (if ([] : List Keyword).isEmpty then 0 else 1) < 30)) = true := by rfl)
    (hline : (apos.endLine == cpos.line) = true := by rfl) (hs : starEach [e] X.env = (false, eval e X.env) :: starEach [] X.env := by rfl) (hplain : (backTo cpos (starEach [] X.env)).any (·.1) = false := by rfl) :
    NEx X W (.Call (.Attribute o name apos) [e] [] cpos) (mMt chk g mo (aCons m aNil)) :=
  ⟨pe_imp (pe_bm pa slot hty hm ho.pe (pa_cons ha.pe pa_nil (hs := hs)) hbase hfew hline hs hplain) fun s H Q q => by
    obtain ⟨B, F, r, sl, C, hr, hsl, o⟩ := q
    refine ⟨B, F, r, sl, C, hr, hsl, Out.bindT (P := Rep X.K) o fun x C1 F1 r1 H1 v e1 e2 hr1 hx o1 => ?_⟩
    simp only at o1
    split at o1
    · rename_i hk
      refine ⟨hc B F1 r1 H1 C1 x v hr1 hx hk, B, F1, r1, sl, C1, hr1, hsl.mono e1 e2, ?_⟩
      have o2 : Out (Rep X.K) X.K X.mg (wAt0 W s) B F1 r1 ((m sl C1).bind fun p => g x [p.1] p.2) Q := by
        unfold aCons aNil at o1
        cases hm2 : m sl C1 with
        | ok p => rw [hm2] at o1; exact o1
        | ex y C2 => rw [hm2] at o1; exact o1
        | no => rw [hm2] at o1; exact o1
      exact Out.bind (P := Rep X.K) o2 fun y C2 F2 r2 H2 w e3 e4 hr2 hy o3 => hg _ B F2 r2 H2 C2 x v [y] [w] Q hr2 (hx.mono e3 e4) (.one hy) o3
    · exact False.elim o1⟩
end
section
variable {X : Cx} {E : XK} {x y rx : Str} {j : Nat} {body : List Stmt} {np p1 q1 q2 pos pos' : Pos} {mb : MS}
def hmRet (cs : List Str) (j : Nat) : Exn → MS := fun e sl C => if e.cls ∈ cs then match sl[j]? with
    | some (some d) => .ok ((.rt d, sl), C)
    | _ => .no
  else .no
theorem ns_try_retX (j : Nat) (cs : List Str) (h : KeepX X.K X.mg rx cs)
    (hs : X.stack = X.env :: X.outer) (hf : X.env.frame = some X.env.locals) (hN : X.N.Nodup) (hj : X.N[j]? = some y)
    (tk : L2.Takes X (fun cls d _ H => E cls d H)) (hb : ∀ (W : WX) (pn : List (Addr × Obj)) (xe : Value → Shared → Prop), L2.Takes (X.tr pn xe) W → NSsx (X.tr pn xe) W body mb)
    (hg : Gl X rx := by rfl) (hdb : (rx == ("__debug__" : Str)) = false := by decide)
    (hv : Vis X.env.scope y := by first | exact Or.inl rfl | exact Or.inr (Or.inl rfl) | exact Or.inr (Or.inr rfl)) (hd : (y == ("__debug__" : Str)) = false := by decide) (hcd : (y == ("__classdict__" : Str)) = false := by decide) :
    NS X E (.Try body [.ExceptHandler (some (.Name rx q1)) none [.Return (some (.Name y p1)) pos] pos'] [] [] q2) (sTry mb (hmRet cs j)) := by
  obtain ⟨R, gR, T⟩ := h
  refine ⟨ps_imp (L2.ps_try_only (c := .ref R) (tb := fun W => LSX X.K X.mg W mb) (ts := fun _ _ _ => tRet (tVar j)) hs hf ⟨hg, hdb, .inl gR⟩ tk (fun W pn xe h _ => (hb W pn xe h).ps) (fun a oe cls d pn hz hfs => pss_one (ps_ret (pe_var hj hv hd hcd)))) fun De s H q => ?_⟩
  obtain ⟨B, F, r, sl, C, hr, hsl, o⟩ := q
  refine ⟨B, F, r, sl, C, hr, hsl, ?_⟩
  unfold sTry at o
  cases hm0 : mb sl C with
  | ok p =>
    rw [hm0] at o
    exact o
  | no =>
    rw [hm0] at o
    exact o
  | ex e C' =>
    rw [hm0] at o
    have o : OutS X.K X.mg E B F r (hmRet cs j e sl C') De := o
    unfold hmRet at o
    split at o
    · rename_i hc
      split at o
      · rename_i d hd2
        intro F' r' H' a k1 k2 k3 k4
        obtain ⟨hn, te⟩ := T _ hc a k4
        have main : ∀ d, wOnly X.K (.ref R) (fun _ _ _ => tRet (tVar j)) (fun cls d _ H => E cls d H) De (.ref a) d s H' := fun d' => by
          refine ⟨true, te, fun _ a' ha' => ?_, fun z => Bool.noConfusion z⟩
          obtain ⟨v, hv1, hv2⟩ := (hsl.mono k1 k2).2 _ _ hd2
          exact ⟨v, hv1, o F' r' H' k1 k2 k3 v hv2⟩
        cases hfl : e.fld with
        | none => exact main none
        | some p =>
          obtain ⟨f, dd⟩ := p
          intro dx v e1 e2
          exact main (some dx)
      · exact False.elim o
    · exact False.elim o
end
section
variable {sl : Sl} {C : Store} {QS : Fl → Sl → Store → Prop} {x : Str} {j : Nat} {cs : List Str} {d : D}
theorem w_hmRet {f : Option (Str × D)} (hc : x ∈ cs) (hj : sl[j]? = some (some d)) (q : QS (.rt d) sl C) : WS (hmRet cs j ⟨x, f⟩ sl C) QS := by
  unfold hmRet
  rw [if_pos hc, hj]
  exact WS.ok q
end
end Nv


namespace Tk
open PySem PySem.Spec PyProof.Rows L2 Nv
def topS (i : Nat) : Stmt := PySem.Challenge.pw_takeback_k27_equal_rings_and_twins.main.body.getD i (.Pass ⟨0, 0, 0, 0⟩)
def bodyS (i j : Nat) : Stmt := match topS i with
  | .ClassDef _ _ _ b _ _ _ _ _ _ _ => b.getD j (.Pass ⟨0, 0, 0, 0⟩)
  | s => s
def bltNames : List Str := ["all", "bool", "int", "isinstance", "len", "list", "max", "min", "range", "str", "tuple", "zip"]
def Blts (mg : Str → Option Value) : Prop := ∀ x ∈ bltNames, mg x = none
theorem b_all {mg : Str → Option Value} (h : Blts mg) : mg "all" = none := h _ (by decide +kernel)
theorem b_bool {mg : Str → Option Value} (h : Blts mg) : mg "bool" = none := h _ (by decide +kernel)
theorem b_int {mg : Str → Option Value} (h : Blts mg) : mg "int" = none := h _ (by decide +kernel)
theorem b_isinstance {mg : Str → Option Value} (h : Blts mg) : mg "isinstance" = none := h _ (by decide +kernel)
theorem b_len {mg : Str → Option Value} (h : Blts mg) : mg "len" = none := h _ (by decide +kernel)
theorem b_list {mg : Str → Option Value} (h : Blts mg) : mg "list" = none := h _ (by decide +kernel)
theorem b_max {mg : Str → Option Value} (h : Blts mg) : mg "max" = none := h _ (by decide +kernel)
theorem b_min {mg : Str → Option Value} (h : Blts mg) : mg "min" = none := h _ (by decide +kernel)
theorem b_range {mg : Str → Option Value} (h : Blts mg) : mg "range" = none := h _ (by decide +kernel)
theorem b_str {mg : Str → Option Value} (h : Blts mg) : mg "str" = none := h _ (by decide +kernel)
theorem b_tuple {mg : Str → Option Value} (h : Blts mg) : mg "tuple" = none := h _ (by decide +kernel)
theorem b_zip {mg : Str → Option Value} (h : Blts mg) : mg "zip" = none := h _ (by decide +kernel)
abbrev k_COME : D := .str "come"
abbrev k_GO : D := .str "go"
abbrev k_LEAST_DANCER : D := .int 1
abbrev k_LEFT : D := .str "left"
abbrev k_MOST_DANCERS : D := .int 200
abbrev k_RIGHT : D := .str "right"
abbrev k_WORDS : D := .tup [(.str "go"), (.str "come")]
def Globs (mg : Str → Option Value) (K : PySem.W.Frag) : Prop := GlobC mg K "COME" k_COME ∧ GlobC mg K "GO" k_GO ∧ GlobC mg K "LEAST_DANCER" k_LEAST_DANCER ∧ GlobC mg K "LEFT" k_LEFT ∧ GlobC mg K "MOST_DANCERS" k_MOST_DANCERS ∧ GlobC mg K "RIGHT" k_RIGHT ∧ GlobC mg K "WORDS" k_WORDS
theorem g_COME {mg : Str → Option Value} {K : PySem.W.Frag} (h : Globs mg K) : GlobC mg K "COME" k_COME := h.1
theorem g_GO {mg : Str → Option Value} {K : PySem.W.Frag} (h : Globs mg K) : GlobC mg K "GO" k_GO := h.2.1
theorem g_LEAST_DANCER {mg : Str → Option Value} {K : PySem.W.Frag} (h : Globs mg K) : GlobC mg K "LEAST_DANCER" k_LEAST_DANCER := h.2.2.1
theorem g_LEFT {mg : Str → Option Value} {K : PySem.W.Frag} (h : Globs mg K) : GlobC mg K "LEFT" k_LEFT := h.2.2.2.1
theorem g_MOST_DANCERS {mg : Str → Option Value} {K : PySem.W.Frag} (h : Globs mg K) : GlobC mg K "MOST_DANCERS" k_MOST_DANCERS := h.2.2.2.2.1
theorem g_RIGHT {mg : Str → Option Value} {K : PySem.W.Frag} (h : Globs mg K) : GlobC mg K "RIGHT" k_RIGHT := h.2.2.2.2.2.1
theorem g_WORDS {mg : Str → Option Value} {K : PySem.W.Frag} (h : Globs mg K) : GlobC mg K "WORDS" k_WORDS := h.2.2.2.2.2.2
def errTb : List (Str × List Str) := [("Nothing", ["Nothing", "RingError", "ValueError"])]
section
variable {P : Program} {w : World} {K : PySem.W.Frag} {mg : Str → Option Value} {base : Heap}
abbrev s__law_cells : Stmt := topS 32
abbrev N__law_cells : List Str := ["_law_script", "_law_most"]
theorem sc__law_cells : FnScope N__law_cells ["_law_script", "_law_most"] (defScope s__law_cells) := ⟨rfl, rfl, rfl, by decide +kernel, rfl, by decide +kernel, by decide +kernel⟩
noncomputable def m__law_cells : MF := runD 2 (sRet (m2 (gAdd true) (mSl false (mVar 0) oNone (oSome (mVar 1))) (mRep false (aCons (mC (.int 0)) aNil) (mCB (on1 gInt) (aCons (m2 gEq (mVar 0) (mLst false aNil)) aNil)))))
theorem ok__law_cells (hB : Blts mg) (hG : Globs mg K) (h : DefAt K mg "_law_cells" s__law_cells ["_law_script", "_law_most"]) : Cal P w K mg base "_law_cells" 1 2 m__law_cells := by
  have hN := sc__law_cells.nd
  exact Cal.of (k := 0) h sc__law_cells fun f cdv A outer s H E hr hgd => (nss_one (ns_ret (ne_op op_addA addN (ne_sl (ne_var 0) no_none (no_some (ne_var 1))) (ne_rep (na_cons ne_int na_nil) (ne_callTy call_int3 intN (b_int hB) (na_cons (ne_cmp (op_eqE hr.units) eqN (ne_var 0) (ne_lst na_nil) (nomark _)) na_nil))))))
abbrev s__law_jar : Stmt := topS 30
abbrev N__law_jar : List Str := ["_law_cell", "_law_k"]
theorem sc__law_jar : FnScope N__law_jar ["_law_cell", "_law_k"] (defScope s__law_jar) := ⟨rfl, rfl, rfl, by decide +kernel, rfl, by decide +kernel, by decide +kernel⟩
noncomputable def m__law_jar : MF := runD 2 (sRet (mLst true (aCons (mCB (on2 gMax2) (aCons (mC (.int 0)) (aCons (m2 gSub (mVar 0) (m2 gPow (mC (.int 10)) (mC (.int 18)))) aNil))) (aCons (m2 (gAdd false) (m2 (gAdd false) (m2 gPow (m2 gMod (mVar 0) (m2 (gAdd false) (m2 gPow (mC (.int 10)) (mC (.int 38))) (mC (.int 133)))) (mC (.int 3))) (m2 gMul (mC (.int 611953)) (mVar 1))) (mC (.int 141421356237309505))) (aCons (mC (.int 0)) aNil)))))
theorem ok__law_jar (hB : Blts mg) (hG : Globs mg K) (h : DefAt K mg "_law_jar" s__law_jar ["_law_cell", "_law_k"]) : Cal P w K mg base "_law_jar" 1 2 m__law_jar := by
  have hN := sc__law_jar.nd
  exact Cal.of (k := 0) h sc__law_jar fun f cdv A outer s H E hr hgd => (nss_one (ns_ret (ne_lst (na_cons (ne_callB (call_max2 rfl) max2N (b_max hB) (na_cons ne_int (na_cons (ne_op op_sub subN (ne_var 0) (ne_op op_powW powN ne_int ne_int)) na_nil))) (na_cons (ne_op op_addA addN (ne_op op_addA addN (ne_op op_powW powN (ne_op op_mod modN (ne_var 0) (ne_op op_addA addN (ne_op op_powW powN ne_int ne_int) ne_int)) ne_int) (ne_op op_mulA mulN ne_int (ne_var 1))) ne_int) (na_cons ne_int na_nil))))))
abbrev s__law_pull : Stmt := topS 31
abbrev N__law_pull : List Str := ["_law_jar_here", "_law_count", "_law_found"]
theorem sc__law_pull : FnScope N__law_pull ["_law_jar_here", "_law_count"] (defScope s__law_pull) := ⟨rfl, rfl, rfl, by decide +kernel, rfl, by decide +kernel, by decide +kernel⟩
noncomputable def m__law_pull : MF := runD 3 (sSeq (sIf (mT (m2 gGt (m2 gIx (mVar 0) (mC (.int 0))) (mC (.int 0))))
  (sSeq (sAsg (m2 gMod (m2 gIx (mVar 0) (mC (.int 0))) (mVar 1)) (gmN 2))
  (sSeq (sAsg (m2 gDiv (m2 gIx (mVar 0) (mC (.int 0))) (mVar 1)) (gmSub (mVar 0) (mC (.int 0))))
  (sRet (mVar 2))))
  sNil)
  (sSeq (sAsg (m2 (gAdd false) (m2 gIx (mVar 0) (mC (.int 2))) (mC (.int 1))) (gmSub (mVar 0) (mC (.int 2))))
  (sSeq (sAsg (m2 gMod (m2 (gAdd false) (m2 (gAdd false) (m2 gPow (m2 gIx (mVar 0) (mC (.int 1))) (mC (.int 3))) (m2 gMul (mC (.int 362880007)) (m2 gIx (mVar 0) (mC (.int 2))))) (mC (.int 5))) (m2 (gAdd false) (m2 gPow (mC (.int 10)) (mC (.int 33))) (mC (.int 61)))) (gmSub (mVar 0) (mC (.int 1))))
  (sRet (m2 gMod (m2 gDiv (m2 gIx (mVar 0) (mC (.int 1))) (m2 gPow (mC (.int 10)) (mC (.int 8)))) (mVar 1))))))
theorem ok__law_pull (hB : Blts mg) (hG : Globs mg K) (h : DefAt K mg "_law_pull" s__law_pull ["_law_jar_here", "_law_count"]) : Cal P w K mg base "_law_pull" 1 2 m__law_pull := by
  have hN := sc__law_pull.nd
  exact Cal.of (k := 0) h sc__law_pull fun f cdv A outer s H E hr hgd => (nss_cons (ns_if (nt_cmp op_gt gtN (ne_ix (ne_var 0) ne_int) ne_int (nomark _))
    (nss_cons (ns_set 2 hN rfl (.inl rfl) (ne_op op_mod modN (ne_ix (ne_var 0) ne_int) (ne_var 1)))
    (nss_cons (ns_asg (ne_op op_fdivW divN (ne_ix (ne_var 0) ne_int) (ne_var 1)) (ng_sub (own := []) (ne_var 0) ne_int))
    (nss_one (ns_ret (ne_var 2)))))
    nss_nil)
    (nss_cons (ns_asg (ne_op op_addA addN (ne_ix (ne_var 0) ne_int) ne_int) (ng_sub (own := []) (ne_var 0) ne_int))
    (nss_cons (ns_asg (ne_op op_mod modN (ne_op op_addA addN (ne_op op_addA addN (ne_op op_powW powN (ne_ix (ne_var 0) ne_int) ne_int) (ne_op op_mulA mulN ne_int (ne_ix (ne_var 0) ne_int))) ne_int) (ne_op op_addA addN (ne_op op_powW powN ne_int ne_int) ne_int)) (ng_sub (own := []) (ne_var 0) ne_int))
    (nss_one (ns_ret (ne_op op_mod modN (ne_op op_fdivW divN (ne_ix (ne_var 0) ne_int) (ne_op op_powW powN ne_int ne_int)) (ne_var 1)))))))
abbrev s__law_ring : Stmt := topS 34
abbrev N__law_ring : List Str := ["_law_size_here", "_law_found", "_law_who"]
theorem sc__law_ring : FnScope N__law_ring ["_law_size_here"] (defScope s__law_ring) := ⟨rfl, rfl, rfl, by decide +kernel, rfl, by decide +kernel, by decide +kernel⟩
noncomputable def m__law_ring : MF := runD 3 (sSeq (sAsg mDNewT (gmN 1))
  (sSeq (sFor (iRg1 (aCons (m2 (gAdd false) (mVar 0) (mC (.int 1))) aNil)) (gmN 2)
  (sSeq (sDPutT (m2 (gAdd false) (mVar 2) (mC (.int 1))) (mVar 1) (aCons (mC (.str "right")) (aCons (mVar 2) aNil)))
  (sDPutT (mVar 2) (mVar 1) (aCons (mC (.str "left")) (aCons (m2 (gAdd false) (mVar 2) (mC (.int 1))) aNil)))))
  (sRet (mVar 1))))
theorem ok__law_ring (hB : Blts mg) (hG : Globs mg K) (h : DefAt K mg "_law_ring" s__law_ring ["_law_size_here"]) : Cal P w K mg base "_law_ring" 1 1 m__law_ring := by
  have hN := sc__law_ring.nd
  exact Cal.of (k := 0) h sc__law_ring fun f cdv A outer s H E hr hgd => (nss_cons (ns_set 1 hN rfl (.inl rfl) ne_dnewT)
    (nss_cons (ns_for own_cx rfl (ni_range1 (b_range hB) (na_cons (ne_op op_addA addN (ne_var 0) ne_int) na_nil)) (ng_name (own := [2]) 2 (by decide) hN rfl (.inl rfl))
    (nss_cons (ns_dputT hr.units (ne_op op_addA addN (ne_var 2) ne_int) (ne_var 1) (na_cons ne_str (na_cons (ne_var 2) na_nil)))
    (nss_one (ns_dputT hr.units (ne_var 2) (ne_var 1) (na_cons ne_str (na_cons (ne_op op_addA addN (ne_var 2) ne_int) na_nil))))))
    (nss_one (ns_ret (ne_var 1)))))
abbrev s__law_acts : Stmt := topS 38
abbrev N__law_acts : List Str := ["_law_jar_here", "_law_size_here", "_law_most", "_law_count", "_law_way", "_law_found", "_law_k", "_law_word", "_law_who"]
theorem sc__law_acts : FnScope N__law_acts ["_law_jar_here", "_law_size_here", "_law_most"] (defScope s__law_acts) := ⟨rfl, rfl, rfl, by decide +kernel, rfl, by decide +kernel, by decide +kernel⟩
noncomputable def m__law_acts : MF := runD 9 (sSeq (sAsg (mF 2 m__law_pull (aCons (mVar 0) (aCons (m2 (gAdd false) (mVar 2) (mC (.int 1))) aNil))) (gmN 3))
  (sSeq (sAsg (mF 2 m__law_pull (aCons (mVar 0) (aCons (mC (.int 3)) aNil))) (gmN 4))
  (sSeq (sAsg (mLst true aNil) (gmN 5))
  (sSeq (sFor (iRg1 (aCons (mVar 3) aNil)) (gmN 6)
  (sSeq (sAsg (mIf (tAndM (mT (m2 gEq (mVar 4) (mC (.int 2)))) (mT (m2 gLt (m2 gMul (mC (.int 2)) (mVar 6)) (mVar 3)))) (mC (.str "go")) (m2 gIx (mLst false (aCons (mC (.str "go")) (aCons (mC (.str "come")) aNil))) (mF 2 m__law_pull (aCons (mVar 0) (aCons (mC (.int 2)) aNil))))) (gmN 7))
  (sSeq (sAsg (m2 (gAdd false) (mC (.int 1)) (mF 2 m__law_pull (aCons (mVar 0) (aCons (mVar 1) aNil)))) (gmN 8))
  (sSeq (sIf (tAndM (mT (m2 gEq (mVar 4) (mC (.int 1)))) (tAndM (mT (m2 gNe (mVar 5) (mLst false aNil))) (mT (m2 gEq (mF 2 m__law_pull (aCons (mVar 0) (aCons (mC (.int 2)) aNil))) (mC (.int 0))))))
  (sAsg (m2 gIx (m2 gIx (mVar 5) (m1 gNeg (mC (.int 1)))) (mC (.int 1))) (gmN 8))
  sNil)
  (sDrop (mMt isL gAppend (mVar 5) (aCons (mTup (aCons (mVar 7) (aCons (mVar 8) aNil))) aNil)))))))
  (sRet (mVar 5))))))
theorem ok__law_acts (hB : Blts mg) (hG : Globs mg K) (h : DefAt K mg "_law_acts" s__law_acts ["_law_jar_here", "_law_size_here", "_law_most"]) (c__law_pull : Cal P w K mg base "_law_pull" 1 2 m__law_pull) : Cal P w K mg base "_law_acts" 2 3 m__law_acts := by
  have hN := sc__law_acts.nd
  exact Cal.of (k := 1) h sc__law_acts fun f cdv A outer s H E hr hgd => (nss_cons (ns_set 3 hN rfl (.inl rfl) (ne_cal c__law_pull (hr.mono (by omega)) hgd pass_cx (na_cons (ne_var 0) (na_cons (ne_op op_addA addN (ne_var 2) ne_int) na_nil))))
    (nss_cons (ns_set 4 hN rfl (.inl rfl) (ne_cal c__law_pull (hr.mono (by omega)) hgd pass_cx (na_cons (ne_var 0) (na_cons ne_int na_nil))))
    (nss_cons (ns_set 5 hN rfl (.inl rfl) (ne_lst na_nil))
    (nss_cons (ns_for own_cx rfl (ni_range1 (b_range hB) (na_cons (ne_var 3) na_nil)) (ng_name (own := [6]) 6 (by decide) hN rfl (.inl rfl))
    (nss_cons (ns_set 7 hN rfl (.inl rfl) (ne_if (nt_w (nw_and (nt_cmp (op_eqE hr.units) eqN (ne_var 4) ne_int (nomark _)) (nw_and1 (nt_cmp op_lt ltN (ne_op op_mulA mulN ne_int (ne_var 6)) (ne_var 3) (nomark _))))) ne_str (ne_ix (ne_lst (na_cons ne_str (na_cons ne_str na_nil))) (ne_cal c__law_pull (hr.mono (by omega)) hgd pass_cx (na_cons (ne_var 0) (na_cons ne_int na_nil))))))
    (nss_cons (ns_set 8 hN rfl (.inl rfl) (ne_op op_addA addN ne_int (ne_cal c__law_pull (hr.mono (by omega)) hgd pass_cx (na_cons (ne_var 0) (na_cons (ne_var 1) na_nil)))))
    (nss_cons (ns_if (nt_w (nw_and (nt_cmp (op_eqE hr.units) eqN (ne_var 4) ne_int (nomark _)) (nw_and (nt_cmp (op_neE hr.units) neN (ne_var 5) (ne_lst na_nil) (nomark _)) (nw_and1 (nt_cmp (op_eqE hr.units) eqN (ne_cal c__law_pull (hr.mono (by omega)) hgd pass_cx (na_cons (ne_var 0) (na_cons ne_int na_nil))) ne_int (nomark _))))))
    (nss_one (ns_set 8 hN rfl (.inl rfl) (ne_ix (ne_ix (ne_var 5) (ne_un un_neg un_negN ne_int)) ne_int)))
    nss_nil)
    (nss_one (ns_expr (ne_mt PySem.F.plainAttrs_list PySem.F.slot_list_append PySem.F.type_list_append mt_append chk_list appendN (ne_var 5) (na_cons (ne_tup (na_cons (ne_var 7) (na_cons (ne_var 8) na_nil))) na_nil))))))))
    (nss_one (ns_ret (ne_var 5)))))))
abbrev s__law_shown : Stmt := topS 36
abbrev N__law_shown : List Str := ["_law_hands_here", "_law_size_here", "_law_who"]
theorem sc__law_shown : FnScope N__law_shown ["_law_hands_here"] (defScope s__law_shown) := ⟨rfl, rfl, rfl, by decide +kernel, rfl, by decide +kernel, by decide +kernel⟩
noncomputable def m__law_shown : MF := runD 3 (sSeq (sAsg (m2 gSub (m2 gDiv (mCB (on1 gLenT) (aCons (mVar 0) aNil)) (mC (.int 2))) (mC (.int 1))) (gmN 1))
  (sRet (mTup (aCons (mLc true [2] (iRg1 (aCons (m2 (gAdd false) (mVar 1) (mC (.int 1))) aNil)) (gmN 2) tTrue (mDGetT (mVar 0) (aCons (mC (.str "right")) (aCons (mVar 2) aNil)))) (aCons (mLc true [2] (iRg1 (aCons (m2 (gAdd false) (mVar 1) (mC (.int 1))) aNil)) (gmN 2) tTrue (mDGetT (mVar 0) (aCons (mC (.str "left")) (aCons (m2 (gAdd false) (mVar 2) (mC (.int 1))) aNil)))) aNil)))))
theorem ok__law_shown (hB : Blts mg) (hG : Globs mg K) (h : DefAt K mg "_law_shown" s__law_shown ["_law_hands_here"]) : Cal P w K mg base "_law_shown" 1 1 m__law_shown := by
  have hN := sc__law_shown.nd
  exact Cal.of (k := 0) h sc__law_shown fun f cdv A outer s H E hr hgd => (nss_cons (ns_set 1 hN rfl (.inl rfl) (ne_op op_sub subN (ne_op op_fdivW divN (ne_callB call_len_dT lenTN (b_len hB) (na_cons (ne_var 0) na_nil)) ne_int) ne_int))
    (nss_one (ns_ret (ne_tup (na_cons (ne_lc (own := [("_law_who", 2)]) rfl hN (ni_range1 (b_range hB) (na_cons (ne_op op_addA addN (ne_var 1) ne_int) na_nil)) (blkOk_by (N := N__law_shown) (sc := defScope s__law_shown) (by decide +kernel)) (fun _ _ _ _ _ => (ng_name (own := [2]) 2 (by decide) hN rfl (.inl rfl))) (fun _ _ _ _ _ => nts_nil) (fun _ _ _ _ _ => (ne_dgetT hr.units (ne_var 0) (na_cons ne_str (na_cons (ne_var 2) na_nil))))) (na_cons (ne_lc (own := [("_law_who", 2)]) rfl hN (ni_range1 (b_range hB) (na_cons (ne_op op_addA addN (ne_var 1) ne_int) na_nil)) (blkOk_by (N := N__law_shown) (sc := defScope s__law_shown) (by decide +kernel)) (fun _ _ _ _ _ => (ng_name (own := [2]) 2 (by decide) hN rfl (.inl rfl))) (fun _ _ _ _ _ => nts_nil) (fun _ _ _ _ _ => (ne_dgetT hr.units (ne_var 0) (na_cons ne_str (na_cons (ne_op op_addA addN (ne_var 2) ne_int) na_nil))))) na_nil))))))
abbrev s__law_do : Stmt := topS 35
abbrev N__law_do : List Str := ["_law_hands_here", "_law_act", "_law_word", "_law_who", "_law_one", "_law_other"]
theorem sc__law_do : FnScope N__law_do ["_law_hands_here", "_law_act"] (defScope s__law_do) := ⟨rfl, rfl, rfl, by decide +kernel, rfl, by decide +kernel, by decide +kernel⟩
noncomputable def m__law_do : MF := runD 6 (sSeq (sAsg (mVar 1) (gmSq 2 (gmCons (gmN 2) (gmCons (gmN 3) gmNil))))
  (sSeq (sPar 4 5 (aCons (mDGetT (mVar 0) (aCons (mC (.str "left")) (aCons (mVar 3) aNil))) (aCons (mDGetT (mVar 0) (aCons (mC (.str "right")) (aCons (mVar 3) aNil))) aNil)))
  (sSeq (sDPutT (mIf (mT (m2 gEq (mVar 2) (mC (.str "go")))) (mVar 5) (mVar 3)) (mVar 0) (aCons (mC (.str "right")) (aCons (mVar 4) aNil)))
  (sDPutT (mIf (mT (m2 gEq (mVar 2) (mC (.str "go")))) (mVar 4) (mVar 3)) (mVar 0) (aCons (mC (.str "left")) (aCons (mVar 5) aNil))))))
theorem ok__law_do (hB : Blts mg) (hG : Globs mg K) (h : DefAt K mg "_law_do" s__law_do ["_law_hands_here", "_law_act"]) : Cal P w K mg base "_law_do" 1 2 m__law_do := by
  have hN := sc__law_do.nd
  exact Cal.of (k := 0) h sc__law_do fun f cdv A outer s H E hr hgd => (nss_cons (ns_asg (ne_var 1) (ng_sq rfl (ngs_cons (ng_name (own := [2, 3]) 2 (by decide) hN rfl (.inl rfl)) (ngs_cons (ng_name (own := [2, 3]) 3 (by decide) hN rfl (.inl rfl)) ngs_nil))))
    (nss_cons (ns_par 4 5 rfl hN rfl rfl (by decide) rfl rfl (na_cons (ne_dgetT hr.units (ne_var 0) (na_cons ne_str (na_cons (ne_var 3) na_nil))) (na_cons (ne_dgetT hr.units (ne_var 0) (na_cons ne_str (na_cons (ne_var 3) na_nil))) na_nil)) (by rfl))
    (nss_cons (ns_dputT hr.units (ne_if (nt_cmp (op_eqE hr.units) eqN (ne_var 2) ne_str (nomark _)) (ne_var 5) (ne_var 3)) (ne_var 0) (na_cons ne_str (na_cons (ne_var 4) na_nil)))
    (nss_one (ns_dputT hr.units (ne_if (nt_cmp (op_eqE hr.units) eqN (ne_var 2) ne_str (nomark _)) (ne_var 4) (ne_var 3)) (ne_var 0) (na_cons ne_str (na_cons (ne_var 5) na_nil)))))))
abbrev s__law_any : Stmt := topS 39
abbrev N__law_any : List Str := ["_law_jar_here", "_law_size_here", "_law_hands_here", "_law_act", "_law_reach", "_law_one", "_law_who"]
theorem sc__law_any : FnScope N__law_any ["_law_jar_here", "_law_size_here"] (defScope s__law_any) := ⟨rfl, rfl, rfl, by decide +kernel, rfl, by decide +kernel, by decide +kernel⟩
noncomputable def m__law_any : MF := runD 7 (sSeq (sIf (mT (m2 gEq (mF 2 m__law_pull (aCons (mVar 0) (aCons (mC (.int 2)) aNil))) (mC (.int 0))))
  (sSeq (sAsg (mF 1 m__law_ring (aCons (mVar 1) aNil)) (gmN 2))
  (sSeq (sFor (iLst (mFz 2 (mF 3 m__law_acts (aCons (mVar 0) (aCons (mVar 1) (aCons (m2 gMul (mC (.int 2)) (mCB (on2 gMin2) (aCons (mVar 1) (aCons (mC (.int 30)) aNil)))) aNil)))))) (gmN 3)
  (sDrop (mF 2 m__law_do (aCons (mVar 2) (aCons (mVar 3) aNil)))))
  (sRet (mF 1 m__law_shown (aCons (mVar 2) aNil)))))
  sNil)
  (sSeq (sAsg (mLc false [6] (iRg1 (aCons (m2 (gAdd false) (mVar 1) (mC (.int 1))) aNil)) (gmN 6) tTrue (m2 (gAdd false) (m2 gSub (mVar 1) (mVar 6)) (mC (.int 1)))) (gmN 4))
  (sSeq (sAsg (mLc true [6] (iRg1 (aCons (m2 (gAdd false) (mVar 1) (mC (.int 1))) aNil)) (gmN 6) tTrue (m2 (gAdd false) (m2 (gAdd false) (mVar 6) (mC (.int 1))) (mF 2 m__law_pull (aCons (mVar 0) (aCons (m2 gIx (mVar 4) (mVar 6)) aNil))))) (gmN 5))
  (sRet (mTup (aCons (mVar 5) (aCons (mLc true [6] (iRg1 (aCons (m2 (gAdd false) (mVar 1) (mC (.int 1))) aNil)) (gmN 6) tTrue (mF 2 m__law_pull (aCons (mVar 0) (aCons (m2 (gAdd false) (mVar 6) (mC (.int 1))) aNil)))) aNil)))))))
theorem ok__law_any (hB : Blts mg) (hG : Globs mg K) (h : DefAt K mg "_law_any" s__law_any ["_law_jar_here", "_law_size_here"]) (c__law_pull : Cal P w K mg base "_law_pull" 1 2 m__law_pull) (c__law_ring : Cal P w K mg base "_law_ring" 1 1 m__law_ring) (c__law_acts : Cal P w K mg base "_law_acts" 2 3 m__law_acts) (c__law_shown : Cal P w K mg base "_law_shown" 1 1 m__law_shown) (c__law_do : Cal P w K mg base "_law_do" 1 2 m__law_do) : Cal P w K mg base "_law_any" 3 2 m__law_any := by
  have hN := sc__law_any.nd
  exact Cal.of (k := 2) h sc__law_any fun f cdv A outer s H E hr hgd => (nss_cons (ns_if (nt_cmp (op_eqE hr.units) eqN (ne_cal c__law_pull (hr.mono (by omega)) hgd pass_cx (na_cons (ne_var 0) (na_cons ne_int na_nil))) ne_int (nomark _))
    (nss_cons (ns_set 2 hN rfl (.inl rfl) (ne_cal c__law_ring (hr.mono (by omega)) hgd pass_cx (na_cons (ne_var 1) na_nil)))
    (nss_cons (ns_for own_cx rfl (ni_list (ne_fz 2 (ne_cal c__law_acts (hr.mono (by omega)) hgd pass_cx (na_cons (ne_var 0) (na_cons (ne_var 1) (na_cons (ne_op op_mulA mulN ne_int (ne_callB (call_min2 rfl) min2N (b_min hB) (na_cons (ne_var 1) (na_cons ne_int na_nil)))) na_nil)))))) (ng_name (own := [3]) 3 (by decide) hN rfl (.inl rfl))
    (nss_one (ns_expr (ne_cal c__law_do (hr.mono (by omega)) hgd pass_cx (na_cons (ne_var 2) (na_cons (ne_var 3) na_nil))))))
    (nss_one (ns_ret (ne_cal c__law_shown (hr.mono (by omega)) hgd pass_cx (na_cons (ne_var 2) na_nil))))))
    nss_nil)
    (nss_cons (ns_set 4 hN rfl (.inr rfl) (ne_lc (own := [("_law_who", 6)]) rfl hN (ni_range1 (b_range hB) (na_cons (ne_op op_addA addN (ne_var 1) ne_int) na_nil)) (blkOk_by (N := N__law_any) (sc := defScope s__law_any) (by decide +kernel)) (fun _ _ _ _ _ => (ng_name (own := [6]) 6 (by decide) hN rfl (.inl rfl))) (fun _ _ _ _ _ => nts_nil) (fun _ _ _ _ _ => (ne_op op_addA addN (ne_op op_sub subN (ne_var 1) (ne_var 6)) ne_int))))
    (nss_cons (ns_setLc (own := [("_law_who", 6)]) 5 rfl hN rfl rfl (sw_true rfl rfl rfl (by decide +kernel)) (ni_range1 (b_range hB) (na_cons (ne_op op_addA addN (ne_var 1) ne_int) na_nil)) (blkOk_by (N := N__law_any) (sc := defScope s__law_any) (by decide +kernel)) (fun _ _ _ _ _ => (ng_name (own := [6]) 6 (by decide) hN rfl (.inl rfl))) (fun _ _ _ _ _ => nts_nil) (fun _ _ _ _ _ => (ne_op op_addA addN (ne_op op_addA addN (ne_var 6) ne_int) (ne_cal c__law_pull (hr.mono (by omega)) hgd passL (na_cons (ne_var 0) (na_cons (ne_ix (ne_var 4) (ne_var 6)) na_nil))))))
    (nss_one (ns_ret (ne_tup (na_cons (ne_var 5) (na_cons (ne_lc (own := [("_law_who", 6)]) rfl hN (ni_range1 (b_range hB) (na_cons (ne_op op_addA addN (ne_var 1) ne_int) na_nil)) (blkOk_by (N := N__law_any) (sc := defScope s__law_any) (by decide +kernel)) (fun _ _ _ _ _ => (ng_name (own := [6]) 6 (by decide) hN rfl (.inl rfl))) (fun _ _ _ _ _ => nts_nil) (fun _ _ _ _ _ => (ne_cal c__law_pull (hr.mono (by omega)) hgd passL (na_cons (ne_var 0) (na_cons (ne_op op_addA addN (ne_var 6) ne_int) na_nil))))) na_nil))))))))
abbrev s_is_between : Stmt := topS 9
abbrev N_is_between : List Str := ["thing", "least", "most"]
theorem sc_is_between : FnScope N_is_between ["thing", "least", "most"] (defScope s_is_between) := ⟨rfl, rfl, rfl, by decide +kernel, rfl, by decide +kernel, by decide +kernel⟩
noncomputable def m_is_between : MF := runD 3 (sRet (mAnd (m1 (gIsi "int") (mVar 0)) (mAnd (mNot (m1 (gIsi "bool") (mVar 0))) (mCh gLe gLe (mVar 1) (mVar 0) (mVar 2)))))
theorem ok_is_between (hB : Blts mg) (hG : Globs mg K) (h : DefAt K mg "is_between" s_is_between ["thing", "least", "most"]) : Cal P w K mg base "is_between" 1 3 m_is_between := by
  have hN := sc_is_between.nd
  exact Cal.of (k := 0) h sc_is_between fun f cdv A outer s H E hr hgd => (nss_one (ns_ret (ne_and (ne_isi (b_isinstance hB) (b_int hB) boot_int (by decide) (ne_var 0)) (ne_and (ne_not (ne_isi (b_isinstance hB) (b_bool hB) boot_bool (by decide) (ne_var 0))) (ne_one (ne_ch op_le op_le leN leN (ne_var 1) (ne_var 0) (ne_var 2)))))))
abbrev s_is_stand : Stmt := topS 10
abbrev N_is_stand : List Str := ["thing", "rights", "lefts", "many", "i", "hands"]
theorem sc_is_stand : FnScope N_is_stand ["thing"] (defScope s_is_stand) := ⟨rfl, rfl, rfl, by decide +kernel, rfl, by decide +kernel, by decide +kernel⟩
noncomputable def m_is_stand : MF := runD 6 (sSeq (sIf (tOrM (tNotM (mT (m1 (gIsi "tuple") (mVar 0)))) (tOrM (mT (m2 gNe (mCB (on1 gLen) (aCons (mVar 0) aNil)) (mC (.int 2)))) (tNotM (mT (mCB (on1 gAll) (aCons (mLc false [5] (iTp (mVar 0)) (gmN 5) tTrue (m1 (gIsi "list") (mVar 5))) aNil))))))
  (sRet (mC (.bl false)))
  sNil)
  (sSeq (sAsg (mVar 0) (gmSq 2 (gmCons (gmN 1) (gmCons (gmN 2) gmNil))))
  (sSeq (sAsg (mCB (on1 gLen) (aCons (mVar 1) aNil)) (gmN 3))
  (sSeq (sIf (tOrM (mT (m2 gLt (mVar 3) (mC (.int 2)))) (tOrM (mT (m2 gNe (mCB (on1 gLen) (aCons (mVar 2) aNil)) (mVar 3))) (tNotM (mT (mCB (on1 gAll) (aCons (mLc false [4] (iRg1 (aCons (mVar 3) aNil)) (gmN 4) tTrue (mF 3 m_is_between (aCons (m2 gIx (mVar 1) (mVar 4)) (aCons (m2 (gAdd false) (mVar 4) (mC (.int 1))) (aCons (mVar 3) aNil))))) aNil))))))
  (sRet (mC (.bl false)))
  sNil)
  (sRet (mCB (on1 gAll) (aCons (mLc false [4] (iRg1 (aCons (mVar 3) aNil)) (gmN 4) tTrue (mF 3 m_is_between (aCons (m2 gIx (mVar 2) (mVar 4)) (aCons (mC (.int 0)) (aCons (mVar 4) aNil))))) aNil)))))))
theorem ok_is_stand (hB : Blts mg) (hG : Globs mg K) (h : DefAt K mg "is_stand" s_is_stand ["thing"]) (c_is_between : Cal P w K mg base "is_between" 1 3 m_is_between) : Cal P w K mg base "is_stand" 2 1 m_is_stand := by
  have hN := sc_is_stand.nd
  exact Cal.of (k := 1) h sc_is_stand fun f cdv A outer s H E hr hgd => (nss_cons (ns_if (nt_w (nw_or (nt_not (nt_val (ne_isi (b_isinstance hB) (b_tuple hB) boot_tuple (by decide) (ne_var 0)))) (nw_or (nt_cmp (op_neE hr.units) neN (ne_callB call_len lenN (b_len hB) (na_cons (ne_var 0) na_nil)) ne_int (nomark _)) (nw_or1 (nt_not (nt_val (ne_callB (cr_all rfl) allN (b_all hB) (na_cons (ne_lc (own := [("hands", 5)]) rfl hN (ni_tup (ne_var 0)) (blkOk_by (N := N_is_stand) (sc := defScope s_is_stand) (by decide +kernel)) (fun _ _ _ _ _ => (ng_name (own := [5]) 5 (by decide) hN rfl (.inl rfl))) (fun _ _ _ _ _ => nts_nil) (fun _ _ _ _ _ => (ne_isi (b_isinstance hB) (b_list hB) boot_list (by decide) (ne_var 5)))) na_nil))))))))
    (nss_one (ns_ret ne_bl))
    nss_nil)
    (nss_cons (ns_asg (ne_var 0) (ng_sq rfl (ngs_cons (ng_name (own := [1, 2]) 1 (by decide) hN rfl (.inr rfl)) (ngs_cons (ng_name (own := [1, 2]) 2 (by decide) hN rfl (.inr rfl)) ngs_nil))))
    (nss_cons (ns_set 3 hN rfl (.inr rfl) (ne_callB call_len lenN (b_len hB) (na_cons (ne_var 1) na_nil)))
    (nss_cons (ns_if (nt_w (nw_or (nt_cmp op_lt ltN (ne_var 3) ne_int (nomark _)) (nw_or (nt_cmp (op_neE hr.units) neN (ne_callB call_len lenN (b_len hB) (na_cons (ne_var 2) na_nil)) (ne_var 3) (nomark _)) (nw_or1 (nt_not (nt_val (ne_callB (cr_all rfl) allN (b_all hB) (na_cons (ne_lc (own := [("i", 4)]) rfl hN (ni_range1 (b_range hB) (na_cons (ne_var 3) na_nil)) (blkOk_by (N := N_is_stand) (sc := defScope s_is_stand) (by decide +kernel)) (fun _ _ _ _ _ => (ng_name (own := [4]) 4 (by decide) hN rfl (.inl rfl))) (fun _ _ _ _ _ => nts_nil) (fun _ _ _ _ _ => (ne_cal c_is_between (hr.mono (by omega)) hgd passL (na_cons (ne_ix (ne_var 1) (ne_var 4)) (na_cons (ne_op op_addA addN (ne_var 4) ne_int) (na_cons (ne_var 3) na_nil)))))) na_nil))))))))
    (nss_one (ns_ret ne_bl))
    nss_nil)
    (nss_one (ns_ret (ne_callB (cr_all rfl) allN (b_all hB) (na_cons (ne_lc (own := [("i", 4)]) rfl hN (ni_range1 (b_range hB) (na_cons (ne_var 3) na_nil)) (blkOk_by (N := N_is_stand) (sc := defScope s_is_stand) (by decide +kernel)) (fun _ _ _ _ _ => (ng_name (own := [4]) 4 (by decide) hN rfl (.inl rfl))) (fun _ _ _ _ _ => nts_nil) (fun _ _ _ _ _ => (ne_cal c_is_between (hr.mono (by omega)) hgd passL (na_cons (ne_ix (ne_var 2) (ne_var 4)) (na_cons ne_int (na_cons (ne_var 4) na_nil)))))) na_nil))))))))
abbrev s_need_stand : Stmt := topS 11
abbrev N_need_stand : List Str := ["stand"]
theorem sc_need_stand : FnScope N_need_stand ["stand"] (defScope s_need_stand) := ⟨rfl, rfl, rfl, by decide +kernel, rfl, by decide +kernel, by decide +kernel⟩
noncomputable def m_need_stand : MF := runD 1 (sIf (tNotM (mT (mF 1 m_is_stand (aCons (mVar 0) aNil))))
  sNo
  sNil)
theorem ok_need_stand (hB : Blts mg) (hG : Globs mg K) (h : DefAt K mg "need_stand" s_need_stand ["stand"]) (c_is_stand : Cal P w K mg base "is_stand" 2 1 m_is_stand) : Cal P w K mg base "need_stand" 3 1 m_need_stand := by
  have hN := sc_need_stand.nd
  exact Cal.of (k := 2) h sc_need_stand fun f cdv A outer s H E hr hgd => (nss_one (ns_if (nt_not (nt_val (ne_cal c_is_stand (hr.mono (by omega)) hgd pass_cx (na_cons (ne_var 0) na_nil))))
    (nss_one ns_never)
    nss_nil))
abbrev s_copied : Stmt := topS 12
abbrev N_copied : List Str := ["stand"]
theorem sc_copied : FnScope N_copied ["stand"] (defScope s_copied) := ⟨rfl, rfl, rfl, by decide +kernel, rfl, by decide +kernel, by decide +kernel⟩
noncomputable def m_copied : MF := runD 1 (sRet (mTup (aCons (mCB (on1 (gList true)) (aCons (m2 gIx (mVar 0) (mC (.int 0))) aNil)) (aCons (mCB (on1 (gList true)) (aCons (m2 gIx (mVar 0) (mC (.int 1))) aNil)) aNil))))
theorem ok_copied (hB : Blts mg) (hG : Globs mg K) (h : DefAt K mg "copied" s_copied ["stand"]) : Cal P w K mg base "copied" 1 1 m_copied := by
  have hN := sc_copied.nd
  exact Cal.of (k := 0) h sc_copied fun f cdv A outer s H E hr hgd => (nss_one (ns_ret (ne_tup (na_cons (ne_callTy call_list_of listN (b_list hB) (na_cons (ne_ix (ne_var 0) ne_int) na_nil)) (na_cons (ne_callTy call_list_of listN (b_list hB) (na_cons (ne_ix (ne_var 0) ne_int) na_nil)) na_nil)))))
abbrev s_need_dancers : Stmt := topS 13
abbrev N_need_dancers : List Str := ["n"]
theorem sc_need_dancers : FnScope N_need_dancers ["n"] (defScope s_need_dancers) := ⟨rfl, rfl, rfl, by decide +kernel, rfl, by decide +kernel, by decide +kernel⟩
noncomputable def m_need_dancers : MF := runD 1 (sIf (tNotM (mT (mF 3 m_is_between (aCons (mVar 0) (aCons (mC (.int 1)) (aCons (mC k_MOST_DANCERS) aNil))))))
  sNo
  sNil)
theorem ok_need_dancers (hB : Blts mg) (hG : Globs mg K) (h : DefAt K mg "need_dancers" s_need_dancers ["n"]) (c_is_between : Cal P w K mg base "is_between" 1 3 m_is_between) : Cal P w K mg base "need_dancers" 2 1 m_need_dancers := by
  have hN := sc_need_dancers.nd
  exact Cal.of (k := 1) h sc_need_dancers fun f cdv A outer s H E hr hgd => (nss_one (ns_if (nt_not (nt_val (ne_cal c_is_between (hr.mono (by omega)) hgd pass_cx (na_cons (ne_var 0) (na_cons ne_int (na_cons (ne_glob (g_MOST_DANCERS hG)) na_nil))))))
    (nss_one ns_never)
    nss_nil))
abbrev s_whole : Stmt := topS 14
abbrev N_whole : List Str := ["n"]
theorem sc_whole : FnScope N_whole ["n"] (defScope s_whole) := ⟨rfl, rfl, rfl, by decide +kernel, rfl, by decide +kernel, by decide +kernel⟩
noncomputable def m_whole : MF := runD 1 (sSeq (sDrop (mF 1 m_need_dancers (aCons (mVar 0) aNil)))
  (sRet (mTup (aCons (m2 (gRg true) (mC (.int 1)) (m2 (gAdd false) (mVar 0) (mC (.int 2)))) (aCons (m1 (gRg true (.int 0)) (m2 (gAdd false) (mVar 0) (mC (.int 1)))) aNil)))))
theorem ok_whole (hB : Blts mg) (hG : Globs mg K) (h : DefAt K mg "whole" s_whole ["n"]) (c_need_dancers : Cal P w K mg base "need_dancers" 2 1 m_need_dancers) : Cal P w K mg base "whole" 3 1 m_whole := by
  have hN := sc_whole.nd
  exact Cal.of (k := 2) h sc_whole fun f cdv A outer s H E hr hgd => (nss_cons (ns_expr (ne_cal c_need_dancers (hr.mono (by omega)) hgd pass_cx (na_cons (ne_var 0) na_nil)))
    (nss_one (ns_ret (ne_tup (na_cons (ne_listRg2 rfl (b_list hB) (b_range hB) ne_int (ne_op op_addA addN (ne_var 0) ne_int)) (na_cons (ne_listRg1 rfl (b_list hB) (b_range hB) (ne_op op_addA addN (ne_var 0) ne_int)) na_nil))))))
abbrev s_first_stand : Stmt := topS 27
abbrev N_first_stand : List Str := ["n", "stand"]
theorem sc_first_stand : FnScope N_first_stand ["n", "stand"] (defScope s_first_stand) := ⟨rfl, rfl, rfl, by decide +kernel, rfl, by decide +kernel, by decide +kernel⟩
noncomputable def m_first_stand : MF := runD 2 (sSeq (sIf (mT (m2 gEq (m2 gIs (mVar 0) (mC .non)) (m2 gIs (mVar 1) (mC .non))))
  sNo
  sNil)
  (sSeq (sIf (mT (m2 gIs (mVar 1) (mC .non)))
  (sRet (mF 1 m_whole (aCons (mVar 0) aNil)))
  sNil)
  (sSeq (sDrop (mF 1 m_need_stand (aCons (mVar 1) aNil)))
  (sRet (mF 1 m_copied (aCons (mVar 1) aNil))))))
theorem ok_first_stand (hB : Blts mg) (hG : Globs mg K) (h : DefAt K mg "first_stand" s_first_stand ["n", "stand"]) (c_need_stand : Cal P w K mg base "need_stand" 3 1 m_need_stand) (c_copied : Cal P w K mg base "copied" 1 1 m_copied) (c_whole : Cal P w K mg base "whole" 3 1 m_whole) : Cal P w K mg base "first_stand" 4 2 m_first_stand := by
  have hN := sc_first_stand.nd
  exact Cal.of (k := 3) h sc_first_stand fun f cdv A outer s H E hr hgd => (nss_cons (ns_if (nt_cmp (op_eqE hr.units) eqN (ne_cmp op_is2 isN2 (ne_var 0) ne_non (nomark _)) (ne_cmp op_is2 isN2 (ne_var 1) ne_non (nomark _)) (nomark _))
    (nss_one ns_never)
    nss_nil)
    (nss_cons (ns_if (nt_cmp op_is2 isN2 (ne_var 1) ne_non (nomark _))
    (nss_one (ns_ret (ne_cal c_whole (hr.mono (by omega)) hgd pass_cx (na_cons (ne_var 0) na_nil))))
    nss_nil)
    (nss_cons (ns_expr (ne_cal c_need_stand (hr.mono (by omega)) hgd pass_cx (na_cons (ne_var 1) na_nil)))
    (nss_one (ns_ret (ne_cal c_copied (hr.mono (by omega)) hgd pass_cx (na_cons (ne_var 1) na_nil)))))))
abbrev s_Ring____init__ : Stmt := bodyS 28 0
abbrev N_Ring____init__ : List Str := ["self", "n", "stand"]
theorem sc_Ring____init__ : FnScope N_Ring____init__ ["self", "n", "stand"] (defScope s_Ring____init__) := ⟨rfl, rfl, rfl, by decide +kernel, rfl, by decide +kernel, by decide +kernel⟩
noncomputable def m_Ring____init__ : MF := runK 3 (sSeq (sFld "Ring" "stand_held" (mVar 0) (mFz 2 (mF 2 m_first_stand (aCons (mVar 1) (aCons (mVar 2) aNil)))))
  (sSeq (sFld "Ring" "done_held" (mVar 0) (mLst true aNil))
  (sFld "Ring" "back_held" (mVar 0) (mLst true aNil))))
abbrev s__law_hands : Stmt := topS 37
abbrev N__law_hands : List Str := ["_law_pair", "_law_found", "_law_who"]
theorem sc__law_hands : FnScope N__law_hands ["_law_pair"] (defScope s__law_hands) := ⟨rfl, rfl, rfl, by decide +kernel, rfl, by decide +kernel, by decide +kernel⟩
noncomputable def m__law_hands : MF := runD 3 (sSeq (sAsg mDNewT (gmN 1))
  (sSeq (sFor (iRg1 (aCons (mCB (on1 gLen) (aCons (m2 gIx (mVar 0) (mC (.int 0))) aNil)) aNil)) (gmN 2)
  (sSeq (sDPutT (m2 gIx (m2 gIx (mVar 0) (mC (.int 0))) (mVar 2)) (mVar 1) (aCons (mC (.str "right")) (aCons (mVar 2) aNil)))
  (sDPutT (m2 gIx (m2 gIx (mVar 0) (mC (.int 1))) (mVar 2)) (mVar 1) (aCons (mC (.str "left")) (aCons (m2 (gAdd false) (mVar 2) (mC (.int 1))) aNil)))))
  (sRet (mVar 1))))
theorem ok__law_hands (hB : Blts mg) (hG : Globs mg K) (h : DefAt K mg "_law_hands" s__law_hands ["_law_pair"]) : Cal P w K mg base "_law_hands" 1 1 m__law_hands := by
  have hN := sc__law_hands.nd
  exact Cal.of (k := 0) h sc__law_hands fun f cdv A outer s H E hr hgd => (nss_cons (ns_set 1 hN rfl (.inl rfl) ne_dnewT)
    (nss_cons (ns_for own_cx rfl (ni_range1 (b_range hB) (na_cons (ne_callB call_len lenN (b_len hB) (na_cons (ne_ix (ne_var 0) ne_int) na_nil)) na_nil)) (ng_name (own := [2]) 2 (by decide) hN rfl (.inl rfl))
    (nss_cons (ns_dputT hr.units (ne_ix (ne_ix (ne_var 0) ne_int) (ne_var 2)) (ne_var 1) (na_cons ne_str (na_cons (ne_var 2) na_nil)))
    (nss_one (ns_dputT hr.units (ne_ix (ne_ix (ne_var 0) ne_int) (ne_var 2)) (ne_var 1) (na_cons ne_str (na_cons (ne_op op_addA addN (ne_var 2) ne_int) na_nil))))))
    (nss_one (ns_ret (ne_var 1)))))
abbrev s__law_begun : Stmt := topS 41
abbrev N__law_begun : List Str := ["_law_jar_here", "_law_size_here", "_law_pair"]
theorem sc__law_begun : FnScope N__law_begun ["_law_jar_here", "_law_size_here"] (defScope s__law_begun) := ⟨rfl, rfl, rfl, by decide +kernel, rfl, by decide +kernel, by decide +kernel⟩
noncomputable def m__law_begun : MF := runK 3 (sSeq (sIf (mT (m2 gEq (mF 2 m__law_pull (aCons (mVar 0) (aCons (mC (.int 2)) aNil))) (mC (.int 0))))
  (sRet (mTup (aCons (mI "Ring" 3 1 0 0 1 m_Ring____init__ (aCons (mVar 1) aNil) aNil) (aCons (mF 1 m__law_ring (aCons (mVar 1) aNil)) aNil))))
  sNil)
  (sSeq (sAsg (mFz 2 (mF 2 m__law_any (aCons (mVar 0) (aCons (mVar 1) aNil)))) (gmN 2))
  (sRet (mTup (aCons (mI "Ring" 3 0 1 1 0 m_Ring____init__ aNil (aCons (mVar 2) aNil)) (aCons (mF 1 m__law_hands (aCons (mVar 2) aNil)) aNil))))))
theorem ok__law_begun (hB : Blts mg) (hG : Globs mg K) (h : DefAt K mg "_law_begun" s__law_begun ["_law_jar_here", "_law_size_here"]) (c__law_any : Cal P w K mg base "_law_any" 3 2 m__law_any) (c__law_pull : Cal P w K mg base "_law_pull" 1 2 m__law_pull) (c__law_hands : Cal P w K mg base "_law_hands" 1 1 m__law_hands) (c__law_ring : Cal P w K mg base "_law_ring" 1 1 m__law_ring) (cI_Ring_0 : CalI P w K mg base "Ring" 5 3 1 [] 0 1 m_Ring____init__) (cI_Ring_1 : CalI P w K mg base "Ring" 5 3 0 ["stand"] 1 0 m_Ring____init__) : Cal P w K mg base "_law_begun" 7 2 m__law_begun := by
  have hN := sc__law_begun.nd
  exact Cal.ofK (k := 6) h sc__law_begun fun f cdv A outer s H E hr hgd => (nss_cons (ns_if (nt_cmp (op_eqE hr.units) eqN (ne_cal c__law_pull (hr.mono (by omega)) hgd pass_cx (na_cons (ne_var 0) (na_cons ne_int na_nil))) ne_int (nomark _))
    (nss_one (ns_ret (ne_tup (na_cons (ne_make cI_Ring_0 (hr.mono (by omega)) hgd pass_cx (na_cons (ne_var 1) na_nil)) (na_cons (ne_cal c__law_ring (hr.mono (by omega)) hgd pass_cx (na_cons (ne_var 1) na_nil)) na_nil)))))
    nss_nil)
    (nss_cons (ns_set 2 hN rfl (.inl rfl) (ne_fz 2 (ne_cal c__law_any (hr.mono (by omega)) hgd pass_cx (na_cons (ne_var 0) (na_cons (ne_var 1) na_nil)))))
    (nss_one (ns_ret (ne_tup (na_cons (ne_makeK cI_Ring_1 (hr.mono (by omega)) hgd pass_cx (nk_cons (ne_var 2) nk_nil)) (na_cons (ne_cal c__law_hands (hr.mono (by omega)) hgd pass_cx (na_cons (ne_var 2) na_nil)) na_nil)))))))
abbrev s_hands_by : Stmt := topS 24
abbrev N_hands_by : List Str := ["stand", "deed", "rights", "lefts", "word", "dancer", "ahead", "behind_it", "new"]
theorem sc_hands_by : FnScope N_hands_by ["stand", "deed"] (defScope s_hands_by) := ⟨rfl, rfl, rfl, by decide +kernel, rfl, by decide +kernel, by decide +kernel⟩
noncomputable def m_hands_by : MF := runD 9 (sSeq (sAsg (mVar 0) (gmSq 2 (gmCons (gmN 2) (gmCons (gmN 3) gmNil))))
  (sSeq (sAsg (mVar 1) (gmSq 2 (gmCons (gmN 4) (gmCons (gmN 5) gmNil))))
  (sSeq (sPar 6 7 (aCons (m2 gIx (mVar 3) (m2 gSub (mVar 5) (mC (.int 1)))) (aCons (m2 gIx (mVar 2) (mVar 5)) aNil)))
  (sSeq (sAsg (mIf (mT (m2 gEq (mVar 4) (mC k_GO))) (mTup (aCons (mVar 7) (aCons (mVar 6) aNil))) (mTup (aCons (mVar 5) (aCons (mVar 5) aNil)))) (gmN 8))
  (sRet (mLst true (aCons (mTup (aCons (mC k_RIGHT) (aCons (mVar 6) (aCons (mVar 6) (aCons (m2 gIx (mVar 8) (mC (.int 0))) aNil))))) (aCons (mTup (aCons (mC k_LEFT) (aCons (mVar 7) (aCons (m2 gSub (mVar 7) (mC (.int 1))) (aCons (m2 gIx (mVar 8) (mC (.int 1))) aNil))))) aNil))))))))
theorem ok_hands_by (hB : Blts mg) (hG : Globs mg K) (h : DefAt K mg "hands_by" s_hands_by ["stand", "deed"]) : Cal P w K mg base "hands_by" 1 2 m_hands_by := by
  have hN := sc_hands_by.nd
  exact Cal.of (k := 0) h sc_hands_by fun f cdv A outer s H E hr hgd => (nss_cons (ns_asg (ne_var 0) (ng_sq rfl (ngs_cons (ng_name (own := [2, 3]) 2 (by decide) hN rfl (.inl rfl)) (ngs_cons (ng_name (own := [2, 3]) 3 (by decide) hN rfl (.inl rfl)) ngs_nil))))
    (nss_cons (ns_asg (ne_var 1) (ng_sq rfl (ngs_cons (ng_name (own := [4, 5]) 4 (by decide) hN rfl (.inl rfl)) (ngs_cons (ng_name (own := [4, 5]) 5 (by decide) hN rfl (.inl rfl)) ngs_nil))))
    (nss_cons (ns_par 6 7 rfl hN rfl rfl (by decide) rfl rfl (na_cons (ne_ix (ne_var 3) (ne_op op_sub subN (ne_var 5) ne_int)) (na_cons (ne_ix (ne_var 2) (ne_var 5)) na_nil)) (by rfl))
    (nss_cons (ns_set 8 hN rfl (.inl rfl) (ne_if (nt_cmp (op_eqE hr.units) eqN (ne_var 4) (ne_glob (g_GO hG)) (nomark _)) (ne_tup (na_cons (ne_var 7) (na_cons (ne_var 6) na_nil))) (ne_tup (na_cons (ne_var 5) (na_cons (ne_var 5) na_nil)))))
    (nss_one (ns_ret (ne_lst (na_cons (ne_tup (na_cons (ne_glob (g_RIGHT hG)) (na_cons (ne_var 6) (na_cons (ne_var 6) (na_cons (ne_ix (ne_var 8) ne_int) na_nil))))) (na_cons (ne_tup (na_cons (ne_glob (g_LEFT hG)) (na_cons (ne_var 7) (na_cons (ne_op op_sub subN (ne_var 7) ne_int) (na_cons (ne_ix (ne_var 8) ne_int) na_nil))))) na_nil)))))))))
abbrev s_with_deed : Stmt := topS 25
abbrev N_with_deed : List Str := ["stand", "deed", "found", "side", "who", "place", "new"]
theorem sc_with_deed : FnScope N_with_deed ["stand", "deed"] (defScope s_with_deed) := ⟨rfl, rfl, rfl, by decide +kernel, rfl, by decide +kernel, by decide +kernel⟩
noncomputable def m_with_deed : MF := runD 7 (sSeq (sAsg (mF 1 m_copied (aCons (mVar 0) aNil)) (gmN 2))
  (sSeq (sFor (iLst (mFz 2 (mF 2 m_hands_by (aCons (mVar 0) (aCons (mVar 1) aNil))))) (gmSq 4 (gmCons (gmN 3) (gmCons (gmN 4) (gmCons (gmN 5) (gmCons (gmN 6) gmNil)))))
  (sAsg (mVar 6) (gmSub (m2 gIx (mVar 2) (mCB (on1 gInt) (aCons (m2 gEq (mVar 3) (mC k_LEFT)) aNil))) (mVar 5))))
  (sRet (mVar 2))))
theorem ok_with_deed (hB : Blts mg) (hG : Globs mg K) (h : DefAt K mg "with_deed" s_with_deed ["stand", "deed"]) (c_copied : Cal P w K mg base "copied" 1 1 m_copied) (c_hands_by : Cal P w K mg base "hands_by" 1 2 m_hands_by) : Cal P w K mg base "with_deed" 2 2 m_with_deed := by
  have hN := sc_with_deed.nd
  exact Cal.of (k := 1) h sc_with_deed fun f cdv A outer s H E hr hgd => (nss_cons (ns_set 2 hN rfl (.inl rfl) (ne_cal c_copied (hr.mono (by omega)) hgd pass_cx (na_cons (ne_var 0) na_nil)))
    (nss_cons (ns_for own_cx rfl (ni_list (ne_fz 2 (ne_cal c_hands_by (hr.mono (by omega)) hgd pass_cx (na_cons (ne_var 0) (na_cons (ne_var 1) na_nil))))) (ng_sq rfl (ngs_cons (ng_name (own := [3, 4, 5, 6]) 3 (by decide) hN rfl (.inl rfl)) (ngs_cons (ng_name (own := [3, 4, 5, 6]) 4 (by decide) hN rfl (.inl rfl)) (ngs_cons (ng_name (own := [3, 4, 5, 6]) 5 (by decide) hN rfl (.inl rfl)) (ngs_cons (ng_name (own := [3, 4, 5, 6]) 6 (by decide) hN rfl (.inl rfl)) ngs_nil)))))
    (nss_one (ns_asg (ne_var 6) (ng_sub (own := []) (ne_ix (ne_var 2) (ne_callTy call_int3 intN (b_int hB) (na_cons (ne_cmp (op_eqE hr.units) eqN (ne_var 3) (ne_glob (g_LEFT hG)) (nomark _)) na_nil))) (ne_var 5)))))
    (nss_one (ns_ret (ne_var 2)))))
abbrev s_Ring__put : Stmt := bodyS 28 3
abbrev N_Ring__put : List Str := ["self", "deed"]
theorem sc_Ring__put : FnScope N_Ring__put ["self", "deed"] (defScope s_Ring__put) := ⟨rfl, rfl, rfl, by decide +kernel, rfl, by decide +kernel, by decide +kernel⟩
noncomputable def m_Ring__put : MF := runK 2 (sSeq (sDrop (mMt isL gAppend (m1 (gFld "Ring" "done_held") (mVar 0)) (aCons (mTup (aCons (mVar 1) (aCons (m1 (gFld "Ring" "stand_held") (mVar 0)) aNil))) aNil)))
  (sFld "Ring" "stand_held" (mVar 0) (mFz 2 (mF 2 m_with_deed (aCons (m1 (gFld "Ring" "stand_held") (mVar 0)) (aCons (mVar 1) aNil))))))
theorem ok_Ring__put (hB : Blts mg) (hG : Globs mg K) (h : DefAtM K "Ring" "put" "Ring.put" s_Ring__put ["self", "deed"]) (c_with_deed : Cal P w K mg base "with_deed" 2 2 m_with_deed) (cl_Ring : ClsAt K "Ring") (nf_Ring_done_held : NoAt K "Ring" "done_held") (nf_Ring_stand_held : NoAt K "Ring" "stand_held") : CalM P w K mg base "Ring" "put" 3 2 m_Ring__put := by
  have hN := sc_Ring__put.nd
  exact CalM.ofK (k := 2) h sc_Ring__put fun f cdv A outer s H E hr hgd => (nss_cons (ns_expr (ne_mt PySem.F.plainAttrs_list PySem.F.slot_list_append PySem.F.type_list_append mt_append chk_list appendN (ne_fld cl_Ring nf_Ring_done_held (ne_var 0)) (na_cons (ne_tup (na_cons (ne_var 1) (na_cons (ne_fld cl_Ring nf_Ring_stand_held (ne_var 0)) na_nil))) na_nil)))
    (nss_one (ns_fld cl_Ring nf_Ring_stand_held (ne_var 0) (ne_fz 2 (ne_cal c_with_deed (hr.mono (by omega)) hgd pass_cx (na_cons (ne_fld cl_Ring nf_Ring_stand_held (ne_var 0)) (na_cons (ne_var 1) na_nil)))))))
abbrev s_is_deed : Stmt := topS 22
abbrev N_is_deed : List Str := ["thing", "most", "dancer"]
theorem sc_is_deed : FnScope N_is_deed ["thing", "most"] (defScope s_is_deed) := ⟨rfl, rfl, rfl, by decide +kernel, rfl, by decide +kernel, by decide +kernel⟩
noncomputable def m_is_deed : MF := runD 3 (sSeq (sIf (tOrM (tNotM (mT (m1 (gIsi "tuple") (mVar 0)))) (tOrM (mT (m2 gNe (mCB (on1 gLen) (aCons (mVar 0) aNil)) (mC (.int 2)))) (tOrM (tNotM (mT (m1 (gIsi "str") (m2 gIx (mVar 0) (mC (.int 0)))))) (mT (m2 (gIn true) (m2 gIx (mVar 0) (mC (.int 0))) (mC k_WORDS))))))
  (sRet (mC (.bl false)))
  sNil)
  (sSeq (sAsg (m2 gIx (mVar 0) (mC (.int 1))) (gmN 2))
  (sRet (mF 3 m_is_between (aCons (mVar 2) (aCons (mC k_LEAST_DANCER) (aCons (mIf (mT (m2 gIs (mVar 1) (mC .non))) (mVar 2) (mVar 1)) aNil)))))))
theorem ok_is_deed (hB : Blts mg) (hG : Globs mg K) (h : DefAt K mg "is_deed" s_is_deed ["thing", "most"]) (c_is_between : Cal P w K mg base "is_between" 1 3 m_is_between) : Cal P w K mg base "is_deed" 2 2 m_is_deed := by
  have hN := sc_is_deed.nd
  exact Cal.of (k := 1) h sc_is_deed fun f cdv A outer s H E hr hgd => (nss_cons (ns_if (nt_w (nw_or (nt_not (nt_val (ne_isi (b_isinstance hB) (b_tuple hB) boot_tuple (by decide) (ne_var 0)))) (nw_or (nt_cmp (op_neE hr.units) neN (ne_callB call_len lenN (b_len hB) (na_cons (ne_var 0) na_nil)) ne_int (nomark _)) (nw_or (nt_not (nt_val (ne_isi (b_isinstance hB) (b_str hB) boot_str (by decide) (ne_ix (ne_var 0) ne_int)))) (nw_or1 (nt_cmp op_notIn_seq inN (ne_ix (ne_var 0) ne_int) (ne_glob (g_WORDS hG)) (by rfl)))))))
    (nss_one (ns_ret ne_bl))
    nss_nil)
    (nss_cons (ns_set 2 hN rfl (.inl rfl) (ne_ix (ne_var 0) ne_int))
    (nss_one (ns_ret (ne_cal c_is_between (hr.mono (by omega)) hgd pass_cx (na_cons (ne_var 2) (na_cons (ne_glob (g_LEAST_DANCER hG)) (na_cons (ne_if (nt_cmp op_is2 isN2 (ne_var 1) ne_non (nomark _)) (ne_var 2) (ne_var 1)) na_nil))))))))
abbrev s_dancers_of : Stmt := topS 23
abbrev N_dancers_of : List Str := ["stand"]
theorem sc_dancers_of : FnScope N_dancers_of ["stand"] (defScope s_dancers_of) := ⟨rfl, rfl, rfl, by decide +kernel, rfl, by decide +kernel, by decide +kernel⟩
noncomputable def m_dancers_of : MF := runD 1 (sRet (m2 gSub (mCB (on1 gLen) (aCons (m2 gIx (mVar 0) (mC (.int 0))) aNil)) (mC (.int 1))))
theorem ok_dancers_of (hB : Blts mg) (hG : Globs mg K) (h : DefAt K mg "dancers_of" s_dancers_of ["stand"]) : Cal P w K mg base "dancers_of" 1 1 m_dancers_of := by
  have hN := sc_dancers_of.nd
  exact Cal.of (k := 0) h sc_dancers_of fun f cdv A outer s H E hr hgd => (nss_one (ns_ret (ne_op op_sub subN (ne_callB call_len lenN (b_len hB) (na_cons (ne_ix (ne_var 0) ne_int) na_nil)) ne_int)))
abbrev s_Ring__did : Stmt := bodyS 28 4
abbrev N_Ring__did : List Str := ["self", "word", "dancer"]
theorem sc_Ring__did : FnScope N_Ring__did ["self", "word", "dancer"] (defScope s_Ring__did) := ⟨rfl, rfl, rfl, by decide +kernel, rfl, by decide +kernel, by decide +kernel⟩
noncomputable def m_Ring__did : MF := runK 3 (sSeq (sIf (tNotM (mT (mF 2 m_is_deed (aCons (mTup (aCons (mVar 1) (aCons (mVar 2) aNil))) (aCons (mF 1 m_dancers_of (aCons (m1 (gFld "Ring" "stand_held") (mVar 0)) aNil)) aNil)))))
  sNo
  sNil)
  (sSeq (sDrop (mM "Ring" "put" 2 m_Ring__put (mVar 0) (aCons (mTup (aCons (mVar 1) (aCons (mVar 2) aNil))) aNil)))
  (sFld "Ring" "back_held" (mVar 0) (mLst true aNil))))
theorem ok_Ring__did (hB : Blts mg) (hG : Globs mg K) (h : DefAtM K "Ring" "did" "Ring.did" s_Ring__did ["self", "word", "dancer"]) (c_Ring__put : CalM P w K mg base "Ring" "put" 3 2 m_Ring__put) (c_is_deed : Cal P w K mg base "is_deed" 2 2 m_is_deed) (c_dancers_of : Cal P w K mg base "dancers_of" 1 1 m_dancers_of) (cl_Ring : ClsAt K "Ring") (nf_Ring_stand_held : NoAt K "Ring" "stand_held") (nf_Ring_back_held : NoAt K "Ring" "back_held") : CalM P w K mg base "Ring" "did" 4 3 m_Ring__did := by
  have hN := sc_Ring__did.nd
  exact CalM.ofK (k := 3) h sc_Ring__did fun f cdv A outer s H E hr hgd => (nss_cons (ns_if (nt_not (nt_val (ne_cal c_is_deed (hr.mono (by omega)) hgd pass_cx (na_cons (ne_tup (na_cons (ne_var 1) (na_cons (ne_var 2) na_nil))) (na_cons (ne_cal c_dancers_of (hr.mono (by omega)) hgd pass_cx (na_cons (ne_fld cl_Ring nf_Ring_stand_held (ne_var 0)) na_nil)) na_nil)))))
    (nss_one ns_never)
    nss_nil)
    (nss_cons (ns_expr (ne_meth c_Ring__put (hr.mono (by omega)) hgd pass_cx (ne_var 0) (na_cons (ne_tup (na_cons (ne_var 1) (na_cons (ne_var 2) na_nil))) na_nil)))
    (nss_one (ns_fld cl_Ring nf_Ring_back_held (ne_var 0) (ne_lst na_nil)))))
abbrev s_Ring__go : Stmt := bodyS 28 5
abbrev N_Ring__go : List Str := ["self", "x"]
theorem sc_Ring__go : FnScope N_Ring__go ["self", "x"] (defScope s_Ring__go) := ⟨rfl, rfl, rfl, by decide +kernel, rfl, by decide +kernel, by decide +kernel⟩
noncomputable def m_Ring__go : MF := runK 2 (sDrop (mM "Ring" "did" 3 m_Ring__did (mVar 0) (aCons (mC k_GO) (aCons (mVar 1) aNil))))
theorem ok_Ring__go (hB : Blts mg) (hG : Globs mg K) (h : DefAtM K "Ring" "go" "Ring.go" s_Ring__go ["self", "x"]) (c_Ring__did : CalM P w K mg base "Ring" "did" 4 3 m_Ring__did) : CalM P w K mg base "Ring" "go" 5 2 m_Ring__go := by
  have hN := sc_Ring__go.nd
  exact CalM.ofK (k := 4) h sc_Ring__go fun f cdv A outer s H E hr hgd => (nss_one (ns_expr (ne_meth c_Ring__did (hr.mono (by omega)) hgd pass_cx (ne_var 0) (na_cons (ne_glob (g_GO hG)) (na_cons (ne_var 1) na_nil)))))
abbrev s_Ring__come : Stmt := bodyS 28 6
abbrev N_Ring__come : List Str := ["self", "x"]
theorem sc_Ring__come : FnScope N_Ring__come ["self", "x"] (defScope s_Ring__come) := ⟨rfl, rfl, rfl, by decide +kernel, rfl, by decide +kernel, by decide +kernel⟩
noncomputable def m_Ring__come : MF := runK 2 (sDrop (mM "Ring" "did" 3 m_Ring__did (mVar 0) (aCons (mC k_COME) (aCons (mVar 1) aNil))))
theorem ok_Ring__come (hB : Blts mg) (hG : Globs mg K) (h : DefAtM K "Ring" "come" "Ring.come" s_Ring__come ["self", "x"]) (c_Ring__did : CalM P w K mg base "Ring" "did" 4 3 m_Ring__did) : CalM P w K mg base "Ring" "come" 5 2 m_Ring__come := by
  have hN := sc_Ring__come.nd
  exact CalM.ofK (k := 4) h sc_Ring__come fun f cdv A outer s H E hr hgd => (nss_one (ns_expr (ne_meth c_Ring__did (hr.mono (by omega)) hgd pass_cx (ne_var 0) (na_cons (ne_glob (g_COME hG)) (na_cons (ne_var 1) na_nil)))))
abbrev s__law_do_all : Stmt := topS 43
abbrev N__law_do_all : List Str := ["_law_ring_here", "_law_some", "_law_act"]
theorem sc__law_do_all : FnScope N__law_do_all ["_law_ring_here", "_law_some"] (defScope s__law_do_all) := ⟨rfl, rfl, rfl, by decide +kernel, rfl, by decide +kernel, by decide +kernel⟩
noncomputable def m__law_do_all : MF := runK 3 (sFor (iLst (mVar 1)) (gmN 2)
  (sIf (mT (m2 gEq (m2 gIx (mVar 2) (mC (.int 0))) (mC (.str "go"))))
  (sDrop (mM "Ring" "go" 2 m_Ring__go (mVar 0) (aCons (m2 gIx (mVar 2) (mC (.int 1))) aNil)))
  (sDrop (mM "Ring" "come" 2 m_Ring__come (mVar 0) (aCons (m2 gIx (mVar 2) (mC (.int 1))) aNil)))))
theorem ok__law_do_all (hB : Blts mg) (hG : Globs mg K) (h : DefAt K mg "_law_do_all" s__law_do_all ["_law_ring_here", "_law_some"]) (c_Ring__go : CalM P w K mg base "Ring" "go" 5 2 m_Ring__go) (c_Ring__come : CalM P w K mg base "Ring" "come" 5 2 m_Ring__come) : Cal P w K mg base "_law_do_all" 6 2 m__law_do_all := by
  have hN := sc__law_do_all.nd
  exact Cal.ofK (k := 5) h sc__law_do_all fun f cdv A outer s H E hr hgd => (nss_one (ns_for own_cx rfl (ni_list (ne_var 1)) (ng_name (own := [2]) 2 (by decide) hN rfl (.inl rfl))
    (nss_one (ns_if (nt_cmp (op_eqE hr.units) eqN (ne_ix (ne_var 2) ne_int) ne_str (nomark _))
    (nss_one (ns_expr (ne_meth c_Ring__go (hr.mono (by omega)) hgd pass_cx (ne_var 0) (na_cons (ne_ix (ne_var 2) ne_int) na_nil))))
    (nss_one (ns_expr (ne_meth c_Ring__come (hr.mono (by omega)) hgd pass_cx (ne_var 0) (na_cons (ne_ix (ne_var 2) ne_int) na_nil))))))))
abbrev s_Ring__again : Stmt := bodyS 28 9
abbrev N_Ring__again : List Str := ["self"]
theorem sc_Ring__again : FnScope N_Ring__again ["self"] (defScope s_Ring__again) := ⟨rfl, rfl, rfl, by decide +kernel, rfl, by decide +kernel, by decide +kernel⟩
noncomputable def m_Ring__again : MF := runK 1 (sSeq (sIf (mT (m2 gEq (m1 (gFld "Ring" "back_held") (mVar 0)) (mLst false aNil)))
  (sRaise0 "Nothing")
  sNil)
  (sDrop (mM "Ring" "put" 2 m_Ring__put (mVar 0) (aCons (mMt0 isL gPop (m1 (gFld "Ring" "back_held") (mVar 0))) aNil))))
theorem ok_Ring__again (hB : Blts mg) (hG : Globs mg K) (h : DefAtM K "Ring" "again" "Ring.again" s_Ring__again ["self"]) (c_Ring__put : CalM P w K mg base "Ring" "put" 3 2 m_Ring__put) (cl_Ring : ClsAt K "Ring") (nf_Ring_back_held : NoAt K "Ring" "back_held") (r_Nothing : Raise0 K mg "Nothing") : CalM P w K mg base "Ring" "again" 4 1 m_Ring__again := by
  have hN := sc_Ring__again.nd
  exact CalM.ofK (k := 3) h sc_Ring__again fun f cdv A outer s H E hr hgd => (nss_cons (ns_if (nt_cmp (op_eqE hr.units) eqN (ne_fld cl_Ring nf_Ring_back_held (ne_var 0)) (ne_lst na_nil) (nomark _))
    (nss_one (ns_raise0X r_Nothing rfl (takes_of rfl rfl rfl rfl)))
    nss_nil)
    (nss_one (ns_expr (ne_meth c_Ring__put (hr.mono (by omega)) hgd pass_cx (ne_var 0) (na_cons (ne_mt0 PySem.F.plainAttrs_list PySem.F.slot_list_pop PySem.F.type_list_pop mt_pop2 chk_list popN (ne_fld cl_Ring nf_Ring_back_held (ne_var 0))) na_nil)))))
abbrev s_Ring__stand : Stmt := bodyS 28 10
abbrev N_Ring__stand : List Str := ["self"]
theorem sc_Ring__stand : FnScope N_Ring__stand ["self"] (defScope s_Ring__stand) := ⟨rfl, rfl, rfl, by decide +kernel, rfl, by decide +kernel, by decide +kernel⟩
noncomputable def m_Ring__stand : MF := runD 1 (sRet (mF 1 m_copied (aCons (m1 (gFld "Ring" "stand_held") (mVar 0)) aNil)))
theorem ok_Ring__stand (hB : Blts mg) (hG : Globs mg K) (h : DefAtM K "Ring" "stand" "Ring.stand" s_Ring__stand ["self"]) (c_copied : Cal P w K mg base "copied" 1 1 m_copied) (cl_Ring : ClsAt K "Ring") (nf_Ring_stand_held : NoAt K "Ring" "stand_held") : CalM P w K mg base "Ring" "stand" 2 1 m_Ring__stand := by
  have hN := sc_Ring__stand.nd
  exact CalM.of (k := 1) h sc_Ring__stand fun f cdv A outer s H E hr hgd => (nss_one (ns_ret (ne_cal c_copied (hr.mono (by omega)) hgd pass_cx (na_cons (ne_fld cl_Ring nf_Ring_stand_held (ne_var 0)) na_nil))))
abbrev s__law_again_all : Stmt := topS 44
abbrev N__law_again_all : List Str := ["_law_ring_here", "_law_found", "_law_turn"]
theorem sc__law_again_all : FnScope N__law_again_all ["_law_ring_here"] (defScope s__law_again_all) := ⟨rfl, rfl, rfl, by decide +kernel, rfl, by decide +kernel, by decide +kernel⟩
noncomputable def m__law_again_all : MF := runK 3 (sSeq (sAsg (mLst true aNil) (gmN 1))
  (sSeq (sFor (iRg1 (aCons (mC (.int 60)) aNil)) (gmN 2)
  (sTry (sSeq (sDrop (mM "Ring" "again" 1 m_Ring__again (mVar 0) aNil)) (sDrop (mMt isL gAppend (mVar 1) (aCons (mFz 2 (mM "Ring" "stand" 1 m_Ring__stand (mVar 0) aNil)) aNil)))) (hmRet ["Nothing"] 1)))
  (sRet (mVar 1))))
theorem ok__law_again_all (hB : Blts mg) (hG : Globs mg K) (h : DefAt K mg "_law_again_all" s__law_again_all ["_law_ring_here"]) (c_Ring__again : CalM P w K mg base "Ring" "again" 4 1 m_Ring__again) (c_Ring__stand : CalM P w K mg base "Ring" "stand" 2 1 m_Ring__stand) (kp_Nothing : KeepX K mg "Nothing" ["Nothing"]) : Cal P w K mg base "_law_again_all" 5 1 m__law_again_all := by
  have hN := sc__law_again_all.nd
  exact Cal.ofK (k := 4) h sc__law_again_all fun f cdv A outer s H E hr hgd => (nss_cons (ns_set 1 hN rfl (.inl rfl) (ne_lst na_nil))
    (nss_cons (ns_for own_cx rfl (ni_range1 (b_range hB) (na_cons ne_int na_nil)) (ng_name (own := [2]) 2 (by decide) hN rfl (.inl rfl))
    (nss_one (ns_try_retX 1 ["Nothing"] kp_Nothing rfl rfl hN rfl (takes_of rfl rfl rfl rfl) (fun W pn xe tk => (nssx_drop (nex_meth0 c_Ring__again (hr.mono (by omega)) hgd tk (ne_var 0)) (nssx_one (nsx_expr (nex_mt1 PySem.F.plainAttrs_list PySem.F.slot_list_append PySem.F.type_list_append mt_append chk_list (fun _ => appendN) (ne_var 1) (nex_fz 2 (nex_meth0 c_Ring__stand (hr.mono (by omega)) hgd tk (ne_var 0)))))))))))
    (nss_one (ns_ret (ne_var 1)))))
abbrev s__law_size : Stmt := topS 33
abbrev N__law_size : List Str := ["_law_jar_here", "_law_script", "_law_some"]
theorem sc__law_size : FnScope N__law_size ["_law_jar_here", "_law_script"] (defScope s__law_size) := ⟨rfl, rfl, rfl, by decide +kernel, rfl, by decide +kernel, by decide +kernel⟩
noncomputable def m__law_size : MF := runD 3 (sSeq (sIf (mT (m2 gEq (mVar 1) (mLst false aNil)))
  (sRet (m2 (gAdd true) (mC (.int 2)) (mF 2 m__law_pull (aCons (mVar 0) (aCons (mC (.int 2)) aNil)))))
  sNil)
  (sSeq (sAsg (mLst false (aCons (mC (.int 1)) (aCons (m2 (gAdd false) (mC (.int 1)) (mF 2 m__law_pull (aCons (mVar 0) (aCons (mC (.int 6)) aNil)))) (aCons (m2 (gAdd false) (mC (.int 1)) (mF 2 m__law_pull (aCons (mVar 0) (aCons (mC (.int 40)) aNil)))) (aCons (m2 gSub (mC (.int 200)) (mF 2 m__law_pull (aCons (mVar 0) (aCons (mC (.int 3)) aNil)))) (aCons (m2 (gAdd false) (mC (.int 41)) (mF 2 m__law_pull (aCons (mVar 0) (aCons (mC (.int 157)) aNil)))) aNil)))))) (gmN 2))
  (sRet (m2 gIx (mVar 2) (mF 2 m__law_pull (aCons (mVar 0) (aCons (mC (.int 5)) aNil)))))))
theorem ok__law_size (hB : Blts mg) (hG : Globs mg K) (h : DefAt K mg "_law_size" s__law_size ["_law_jar_here", "_law_script"]) (c__law_pull : Cal P w K mg base "_law_pull" 1 2 m__law_pull) : Cal P w K mg base "_law_size" 2 2 m__law_size := by
  have hN := sc__law_size.nd
  exact Cal.of (k := 1) h sc__law_size fun f cdv A outer s H E hr hgd => (nss_cons (ns_if (nt_cmp (op_eqE hr.units) eqN (ne_var 1) (ne_lst na_nil) (nomark _))
    (nss_one (ns_ret (ne_op op_addA addN ne_int (ne_cal c__law_pull (hr.mono (by omega)) hgd pass_cx (na_cons (ne_var 0) (na_cons ne_int na_nil))))))
    nss_nil)
    (nss_cons (ns_set 2 hN rfl (.inl rfl) (ne_lst (na_cons ne_int (na_cons (ne_op op_addA addN ne_int (ne_cal c__law_pull (hr.mono (by omega)) hgd pass_cx (na_cons (ne_var 0) (na_cons ne_int na_nil)))) (na_cons (ne_op op_addA addN ne_int (ne_cal c__law_pull (hr.mono (by omega)) hgd pass_cx (na_cons (ne_var 0) (na_cons ne_int na_nil)))) (na_cons (ne_op op_sub subN ne_int (ne_cal c__law_pull (hr.mono (by omega)) hgd pass_cx (na_cons (ne_var 0) (na_cons ne_int na_nil)))) (na_cons (ne_op op_addA addN ne_int (ne_cal c__law_pull (hr.mono (by omega)) hgd pass_cx (na_cons (ne_var 0) (na_cons ne_int na_nil)))) na_nil)))))))
    (nss_one (ns_ret (ne_ix (ne_var 2) (ne_cal c__law_pull (hr.mono (by omega)) hgd pass_cx (na_cons (ne_var 0) (na_cons ne_int na_nil))))))))
abbrev s_Ring__back : Stmt := bodyS 28 8
abbrev N_Ring__back : List Str := ["self", "deed", "before"]
theorem sc_Ring__back : FnScope N_Ring__back ["self"] (defScope s_Ring__back) := ⟨rfl, rfl, rfl, by decide +kernel, rfl, by decide +kernel, by decide +kernel⟩
noncomputable def m_Ring__back : MF := runK 3 (sSeq (sIf (mT (m2 gEq (m1 (gFld "Ring" "done_held") (mVar 0)) (mLst false aNil)))
  (sRaise0 "Nothing")
  sNil)
  (sSeq (sAsg (mMt0 isL gPop (m1 (gFld "Ring" "done_held") (mVar 0))) (gmSq 2 (gmCons (gmN 1) (gmCons (gmN 2) gmNil))))
  (sSeq (sDrop (mMt isL gAppend (m1 (gFld "Ring" "back_held") (mVar 0)) (aCons (mVar 1) aNil)))
  (sFld "Ring" "stand_held" (mVar 0) (mVar 2)))))
theorem ok_Ring__back (hB : Blts mg) (hG : Globs mg K) (h : DefAtM K "Ring" "back" "Ring.back" s_Ring__back ["self"]) (cl_Ring : ClsAt K "Ring") (nf_Ring_done_held : NoAt K "Ring" "done_held") (r_Nothing : Raise0 K mg "Nothing") (nf_Ring_back_held : NoAt K "Ring" "back_held") (nf_Ring_stand_held : NoAt K "Ring" "stand_held") : CalM P w K mg base "Ring" "back" 1 1 m_Ring__back := by
  have hN := sc_Ring__back.nd
  exact CalM.ofK (k := 0) h sc_Ring__back fun f cdv A outer s H E hr hgd => (nss_cons (ns_if (nt_cmp (op_eqE hr.units) eqN (ne_fld cl_Ring nf_Ring_done_held (ne_var 0)) (ne_lst na_nil) (nomark _))
    (nss_one (ns_raise0X r_Nothing rfl (takes_of rfl rfl rfl rfl)))
    nss_nil)
    (nss_cons (ns_asg (ne_mt0 PySem.F.plainAttrs_list PySem.F.slot_list_pop PySem.F.type_list_pop mt_pop2 chk_list popN (ne_fld cl_Ring nf_Ring_done_held (ne_var 0))) (ng_sq rfl (ngs_cons (ng_name (own := [1, 2]) 1 (by decide) hN rfl (.inl rfl)) (ngs_cons (ng_name (own := [1, 2]) 2 (by decide) hN rfl (.inl rfl)) ngs_nil))))
    (nss_cons (ns_expr (ne_mt PySem.F.plainAttrs_list PySem.F.slot_list_append PySem.F.type_list_append mt_append chk_list appendN (ne_fld cl_Ring nf_Ring_back_held (ne_var 0)) (na_cons (ne_var 1) na_nil)))
    (nss_one (ns_fld cl_Ring nf_Ring_stand_held (ne_var 0) (ne_var 2))))))
abbrev s_Ring__twin : Stmt := bodyS 28 16
abbrev N_Ring__twin : List Str := ["self", "found"]
theorem sc_Ring__twin : FnScope N_Ring__twin ["self"] (defScope s_Ring__twin) := ⟨rfl, rfl, rfl, by decide +kernel, rfl, by decide +kernel, by decide +kernel⟩
noncomputable def m_Ring__twin : MF := runK 2 (sSeq (sAsg (mI "Ring" 3 0 1 1 0 m_Ring____init__ aNil (aCons (m1 (gFld "Ring" "stand_held") (mVar 0)) aNil)) (gmN 1))
  (sSeq (sDrop (mMt isL gExtend (m1 (gFld "Ring" "done_held") (mVar 1)) (aCons (m1 (gFld "Ring" "done_held") (mVar 0)) aNil)))
  (sSeq (sDrop (mMt isL gExtend (m1 (gFld "Ring" "back_held") (mVar 1)) (aCons (m1 (gFld "Ring" "back_held") (mVar 0)) aNil)))
  (sRet (mVar 1)))))
theorem ok_Ring__twin (hB : Blts mg) (hG : Globs mg K) (h : DefAtM K "Ring" "twin" "Ring.twin" s_Ring__twin ["self"]) (cI_Ring_1 : CalI P w K mg base "Ring" 5 3 0 ["stand"] 1 0 m_Ring____init__) (cl_Ring : ClsAt K "Ring") (nf_Ring_stand_held : NoAt K "Ring" "stand_held") (nf_Ring_done_held : NoAt K "Ring" "done_held") (nf_Ring_back_held : NoAt K "Ring" "back_held") : CalM P w K mg base "Ring" "twin" 7 1 m_Ring__twin := by
  have hN := sc_Ring__twin.nd
  exact CalM.ofK (k := 6) h sc_Ring__twin fun f cdv A outer s H E hr hgd => (nss_cons (ns_set 1 hN rfl (.inl rfl) (ne_makeK cI_Ring_1 (hr.mono (by omega)) hgd pass_cx (nk_cons (ne_fld cl_Ring nf_Ring_stand_held (ne_var 0)) nk_nil)))
    (nss_cons (ns_expr (ne_mt PySem.F.plainAttrs_list PySem.F.slot_list_extend PySem.F.type_list_extend mt_extend chk_list extendN (ne_fld cl_Ring nf_Ring_done_held (ne_var 1)) (na_cons (ne_fld cl_Ring nf_Ring_done_held (ne_var 0)) na_nil)))
    (nss_cons (ns_expr (ne_mt PySem.F.plainAttrs_list PySem.F.slot_list_extend PySem.F.type_list_extend mt_extend chk_list extendN (ne_fld cl_Ring nf_Ring_back_held (ne_var 1)) (na_cons (ne_fld cl_Ring nf_Ring_back_held (ne_var 0)) na_nil)))
    (nss_one (ns_ret (ne_var 1))))))
abbrev s__law_exact : Stmt := topS 40
abbrev N__law_exact : List Str := ["_law_found", "_law_due", "_law_one", "_law_other"]
theorem sc__law_exact : FnScope N__law_exact ["_law_found", "_law_due"] (defScope s__law_exact) := ⟨rfl, rfl, rfl, by decide +kernel, rfl, by decide +kernel, by decide +kernel⟩
noncomputable def m__law_exact : Nat → MF
  | 0 => fun _ _ => .no
  | n + 1 => runD 4 (sSeq (sIf (mT (m2 gIs (mVar 1) (mC .non)))
  (sRet (m2 gIs (mVar 0) (mC .non)))
  sNil)
  (sSeq (sIf (mT (m1 (gIsiL ["list", "tuple"]) (mVar 1)))
  (sSeq (sIf (tOrM (mT (m2 gNe (m1 (gIsi "list") (mVar 0)) (m1 (gIsi "list") (mVar 1)))) (mT (m2 gNe (m1 (gIsi "tuple") (mVar 0)) (m1 (gIsi "tuple") (mVar 1)))))
  (sRet (mC (.bl false)))
  sNil)
  (sRet (mAnd (m2 gEq (mCB (on1 gLen) (aCons (mVar 0) aNil)) (mCB (on1 gLen) (aCons (mVar 1) aNil))) (mCB (on1 gAll) (aCons (mLc false [2, 3] (iZp (aCons (mVar 0) (aCons (mVar 1) aNil))) (gmSq 2 (gmCons (gmN 2) (gmCons (gmN 3) gmNil))) tTrue (mF 2 (m__law_exact n) (aCons (mVar 2) (aCons (mVar 3) aNil)))) aNil)))))
  sNil)
  (sRet (mAnd (m2 gEq (m1 (gIsi "bool") (mVar 0)) (m1 (gIsi "bool") (mVar 1))) (m2 gEq (mVar 0) (mVar 1))))))
theorem ok__law_exact (hB : Blts mg) (hG : Globs mg K) (h : DefAt K mg "_law_exact" s__law_exact ["_law_found", "_law_due"]) : ∀ n : Nat, Cal P w K mg base "_law_exact" (0 + n) 2 (m__law_exact n)
  | 0 => Cal.zero h
  | n + 1 => by
    have ih := ok__law_exact hB hG h n
    have hN := sc__law_exact.nd
    exact Cal.of (k := 0 + n) h sc__law_exact fun f cdv A outer s H E hr hgd => (nss_cons (ns_if (nt_cmp op_is2 isN2 (ne_var 1) ne_non (nomark _))
    (nss_one (ns_ret (ne_cmp op_is2 isN2 (ne_var 0) ne_non (nomark _))))
    nss_nil)
    (nss_cons (ns_if (nt_val (ne_isiL (b_isinstance hB) (by decide) (by decide) (ne_var 1) (ta_cons (b_list hB) boot_list (ta_cons (b_tuple hB) boot_tuple ta_nil))))
    (nss_cons (ns_if (nt_w (nw_or (nt_cmp (op_neE hr.units) neN (ne_isi (b_isinstance hB) (b_list hB) boot_list (by decide) (ne_var 0)) (ne_isi (b_isinstance hB) (b_list hB) boot_list (by decide) (ne_var 1)) (nomark _)) (nw_or1 (nt_cmp (op_neE hr.units) neN (ne_isi (b_isinstance hB) (b_tuple hB) boot_tuple (by decide) (ne_var 0)) (ne_isi (b_isinstance hB) (b_tuple hB) boot_tuple (by decide) (ne_var 1)) (nomark _)))))
    (nss_one (ns_ret ne_bl))
    nss_nil)
    (nss_one (ns_ret (ne_and (ne_cmp (op_eqE hr.units) eqN (ne_callB call_len lenN (b_len hB) (na_cons (ne_var 0) na_nil)) (ne_callB call_len lenN (b_len hB) (na_cons (ne_var 1) na_nil)) (nomark _)) (ne_one (ne_callB (cr_all rfl) allN (b_all hB) (na_cons (ne_lc (own := [("_law_one", 2), ("_law_other", 3)]) rfl hN (ni_zip (b_zip hB) (na_cons (ne_var 0) (na_cons (ne_var 1) na_nil))) (blkOk_by (N := N__law_exact) (sc := defScope s__law_exact) (by decide +kernel)) (fun _ _ _ _ _ => (ng_sq rfl (ngs_cons (ng_name (own := [2, 3]) 2 (by decide) hN rfl (.inl rfl)) (ngs_cons (ng_name (own := [2, 3]) 3 (by decide) hN rfl (.inl rfl)) ngs_nil)))) (fun _ _ _ _ _ => nts_nil) (fun _ _ _ _ _ => (ne_cal ih (hr.mono (by omega)) hgd passL (na_cons (ne_var 2) (na_cons (ne_var 3) na_nil))))) na_nil)))))))
    nss_nil)
    (nss_one (ns_ret (ne_and (ne_cmp (op_eqE hr.units) eqN (ne_isi (b_isinstance hB) (b_bool hB) boot_bool (by decide) (ne_var 0)) (ne_isi (b_isinstance hB) (b_bool hB) boot_bool (by decide) (ne_var 1)) (nomark _)) (ne_one (ne_cmp (op_eqE hr.units) eqN (ne_var 0) (ne_var 1) (nomark _))))))))
abbrev s_Ring____eq__ : Stmt := bodyS 28 2
abbrev N_Ring____eq__ : List Str := ["self", "other"]
theorem sc_Ring____eq__ : FnScope N_Ring____eq__ ["self", "other"] (defScope s_Ring____eq__) := ⟨rfl, rfl, rfl, by decide +kernel, rfl, by decide +kernel, by decide +kernel⟩
noncomputable def m_Ring____eq__ : MF := runD 2 (sRet (mAnd (m1 (gIsO "Ring") (mVar 1)) (m2 gEq (m1 (gFld "Ring" "stand_held") (mVar 0)) (m1 (gFld "Ring" "stand_held") (mVar 1)))))
theorem ok_Ring____eq__ (hB : Blts mg) (hG : Globs mg K) (h : DefAtM K "Ring" "__eq__" "Ring.__eq__" s_Ring____eq__ ["self", "other"]) (ow_Ring : OwnW K mg "Ring") (cl_Ring : ClsAt K "Ring") (nf_Ring_stand_held : NoAt K "Ring" "stand_held") : CalM P w K mg base "Ring" "__eq__" 1 2 m_Ring____eq__ := by
  have hN := sc_Ring____eq__.nd
  exact CalM.of (k := 0) h sc_Ring____eq__ fun f cdv A outer s H E hr hgd => (nss_one (ns_ret (ne_and (ne_isO ow_Ring (b_isinstance hB) (ne_var 1)) (ne_one (ne_cmp (op_eqE hr.units) eqN (ne_fld cl_Ring nf_Ring_stand_held (ne_var 0)) (ne_fld cl_Ring nf_Ring_stand_held (ne_var 1)) (nomark _))))))
abbrev s_Ring__history : Stmt := bodyS 28 15
abbrev N_Ring__history : List Str := ["self", "deed", "before"]
theorem sc_Ring__history : FnScope N_Ring__history ["self"] (defScope s_Ring__history) := ⟨rfl, rfl, rfl, by decide +kernel, rfl, by decide +kernel, by decide +kernel⟩
noncomputable def m_Ring__history : MF := runD 3 (sRet (mLc true [1, 2] (iLst (m1 (gFld "Ring" "done_held") (mVar 0))) (gmSq 2 (gmCons (gmN 1) (gmCons (gmN 2) gmNil))) tTrue (mVar 1)))
theorem ok_Ring__history (hB : Blts mg) (hG : Globs mg K) (h : DefAtM K "Ring" "history" "Ring.history" s_Ring__history ["self"]) (cl_Ring : ClsAt K "Ring") (nf_Ring_done_held : NoAt K "Ring" "done_held") : CalM P w K mg base "Ring" "history" 1 1 m_Ring__history := by
  have hN := sc_Ring__history.nd
  exact CalM.of (k := 0) h sc_Ring__history fun f cdv A outer s H E hr hgd => (nss_one (ns_ret (ne_lc (own := [("deed", 1), ("before", 2)]) rfl hN (ni_list (ne_fld cl_Ring nf_Ring_done_held (ne_var 0))) (blkOk_by (N := N_Ring__history) (sc := defScope s_Ring__history) (by decide +kernel)) (fun _ _ _ _ _ => (ng_sq rfl (ngs_cons (ng_name (own := [1, 2]) 1 (by decide) hN rfl (.inl rfl)) (ngs_cons (ng_name (own := [1, 2]) 2 (by decide) hN rfl (.inl rfl)) ngs_nil)))) (fun _ _ _ _ _ => nts_nil) (fun _ _ _ _ _ => (ne_var 1)))))
abbrev s_Ring____len__ : Stmt := bodyS 28 1
abbrev N_Ring____len__ : List Str := ["self"]
theorem sc_Ring____len__ : FnScope N_Ring____len__ ["self"] (defScope s_Ring____len__) := ⟨rfl, rfl, rfl, by decide +kernel, rfl, by decide +kernel, by decide +kernel⟩
noncomputable def m_Ring____len__ : MF := runD 1 (sRet (mCB (on1 gLen) (aCons (m1 (gFld "Ring" "done_held") (mVar 0)) aNil)))
theorem ok_Ring____len__ (hB : Blts mg) (hG : Globs mg K) (h : DefAtM K "Ring" "__len__" "Ring.__len__" s_Ring____len__ ["self"]) (cl_Ring : ClsAt K "Ring") (nf_Ring_done_held : NoAt K "Ring" "done_held") : CalM P w K mg base "Ring" "__len__" 1 1 m_Ring____len__ := by
  have hN := sc_Ring____len__.nd
  exact CalM.of (k := 0) h sc_Ring____len__ fun f cdv A outer s H E hr hgd => (nss_one (ns_ret (ne_callB call_len lenN (b_len hB) (na_cons (ne_fld cl_Ring nf_Ring_done_held (ne_var 0)) na_nil))))
abbrev s__law_all : Stmt := topS 42
abbrev N__law_all : List Str := ["_law_ring_here"]
theorem sc__law_all : FnScope N__law_all ["_law_ring_here"] (defScope s__law_all) := ⟨rfl, rfl, rfl, by decide +kernel, rfl, by decide +kernel, by decide +kernel⟩
noncomputable def m__law_all : MF := runD 1 (sRet (mLst true (aCons (mFz 2 (mM "Ring" "stand" 1 m_Ring__stand (mVar 0) aNil)) (aCons (mFz 2 (mM "Ring" "history" 1 m_Ring__history (mVar 0) aNil)) (aCons (mCB (on1 (gLenO "Ring" 1 m_Ring____len__)) (aCons (mVar 0) aNil)) aNil)))))
theorem ok__law_all (hB : Blts mg) (hG : Globs mg K) (h : DefAt K mg "_law_all" s__law_all ["_law_ring_here"]) (c_Ring__stand : CalM P w K mg base "Ring" "stand" 2 1 m_Ring__stand) (c_Ring__history : CalM P w K mg base "Ring" "history" 1 1 m_Ring__history) (c_Ring____len__ : CalM P w K mg base "Ring" "__len__" 1 1 m_Ring____len__) : Cal P w K mg base "_law_all" 3 1 m__law_all := by
  have hN := sc__law_all.nd
  exact Cal.of (k := 2) h sc__law_all fun f cdv A outer s H E hr hgd => (nss_one (ns_ret (ne_lst (na_cons (ne_fz 2 (ne_meth0 c_Ring__stand (hr.mono (by omega)) hgd pass_cx (ne_var 0))) (na_cons (ne_fz 2 (ne_meth0 c_Ring__history (hr.mono (by omega)) hgd pass_cx (ne_var 0))) (na_cons (ne_lenO c_Ring____len__ (hr.mono (by omega)) hgd pass_cx (b_len hB) (ne_var 0)) na_nil))))))
abbrev s__law_apart_right : Stmt := topS 45
abbrev N__law_apart_right : List Str := ["_law_jar_here", "_law_ring_here", "_law_twin", "_law_size_here", "_law_before", "_law_turn"]
theorem sc__law_apart_right : FnScope N__law_apart_right ["_law_jar_here", "_law_ring_here", "_law_twin", "_law_size_here"] (defScope s__law_apart_right) := ⟨rfl, rfl, rfl, by decide +kernel, rfl, by decide +kernel, by decide +kernel⟩
noncomputable def m__law_apart_right : MF := runK 6 (sSeq (sAsg (mFz 2 (mF 1 m__law_all (aCons (mVar 1) aNil))) (gmN 4))
  (sSeq (sDrop (mF 2 m__law_do_all (aCons (mVar 2) (aCons (m2 (gAdd false) (mFz 2 (mF 3 m__law_acts (aCons (mVar 0) (aCons (mVar 3) (aCons (mC (.int 5)) aNil))))) (mLst false (aCons (mTup (aCons (mC (.str "go")) (aCons (m2 (gAdd false) (mC (.int 1)) (mF 2 m__law_pull (aCons (mVar 0) (aCons (mVar 3) aNil)))) aNil))) aNil))) aNil))))
  (sSeq (sIf (tNotM (mT (mF 2 (m__law_exact 5) (aCons (mFz 2 (mF 1 m__law_all (aCons (mVar 1) aNil))) (aCons (mVar 4) aNil)))))
  (sRet (mC (.bl false)))
  sNil)
  (sSeq (sIf (tOrM (mT (m2 gNe (m2 (gOwn false "Ring" m_Ring____eq__) (mVar 1) (mVar 2)) (m2 gEq (mFz 2 (mM "Ring" "stand" 1 m_Ring__stand (mVar 1) aNil)) (mFz 2 (mM "Ring" "stand" 1 m_Ring__stand (mVar 2) aNil))))) (mT (m2 gEq (m2 (gOwn true "Ring" m_Ring____eq__) (mVar 1) (mVar 2)) (m2 (gOwn false "Ring" m_Ring____eq__) (mVar 1) (mVar 2)))))
  (sRet (mC (.bl false)))
  sNil)
  (sSeq (sFor (iRg1 (aCons (m2 gSub (mCB (on1 (gLenO "Ring" 1 m_Ring____len__)) (aCons (mVar 2) aNil)) (mCB (on1 (gLenO "Ring" 1 m_Ring____len__)) (aCons (mVar 1) aNil))) aNil)) (gmN 5)
  (sDrop (mM "Ring" "back" 1 m_Ring__back (mVar 2) aNil)))
  (sSeq (sIf (tOrM (tNotM (mT (mF 2 (m__law_exact 5) (aCons (mFz 2 (mF 1 m__law_all (aCons (mVar 2) aNil))) (aCons (mVar 4) aNil))))) (tOrM (tNotM (mT (m2 (gOwn false "Ring" m_Ring____eq__) (mVar 1) (mVar 2)))) (mT (m2 (gOwn true "Ring" m_Ring____eq__) (mVar 1) (mVar 2)))))
  (sRet (mC (.bl false)))
  sNil)
  (sSeq (sDrop (mM "Ring" "come" 2 m_Ring__come (mVar 1) (aCons (mC (.int 1)) aNil)))
  (sSeq (sDrop (mM "Ring" "go" 2 m_Ring__go (mVar 1) (aCons (mC (.int 1)) aNil)))
  (sRet (mF 2 (m__law_exact 5) (aCons (mFz 2 (mF 1 m__law_all (aCons (mVar 2) aNil))) (aCons (mVar 4) aNil))))))))))))
theorem ok__law_apart_right (hB : Blts mg) (hG : Globs mg K) (h : DefAt K mg "_law_apart_right" s__law_apart_right ["_law_jar_here", "_law_ring_here", "_law_twin", "_law_size_here"]) (c__law_all : Cal P w K mg base "_law_all" 3 1 m__law_all) (c__law_do_all : Cal P w K mg base "_law_do_all" 6 2 m__law_do_all) (c_Ring__come : CalM P w K mg base "Ring" "come" 5 2 m_Ring__come) (c_Ring__go : CalM P w K mg base "Ring" "go" 5 2 m_Ring__go) (c__law_exact : Cal P w K mg base "_law_exact" 5 2 (m__law_exact 5)) (c_Ring__back : CalM P w K mg base "Ring" "back" 1 1 m_Ring__back) (c_Ring____eq__ : CalM P w K mg base "Ring" "__eq__" 1 2 m_Ring____eq__) (c__law_acts : Cal P w K mg base "_law_acts" 2 3 m__law_acts) (c_Ring____len__ : CalM P w K mg base "Ring" "__len__" 1 1 m_Ring____len__) (c_Ring__stand : CalM P w K mg base "Ring" "stand" 2 1 m_Ring__stand) (c__law_pull : Cal P w K mg base "_law_pull" 1 2 m__law_pull) (ow_Ring : OwnW K mg "Ring") : Cal P w K mg base "_law_apart_right" 7 4 m__law_apart_right := by
  have hN := sc__law_apart_right.nd
  exact Cal.ofK (k := 6) h sc__law_apart_right fun f cdv A outer s H E hr hgd => (nss_cons (ns_set 4 hN rfl (.inl rfl) (ne_fz 2 (ne_cal c__law_all (hr.mono (by omega)) hgd pass_cx (na_cons (ne_var 1) na_nil))))
    (nss_cons (ns_expr (ne_cal c__law_do_all (hr.mono (by omega)) hgd pass_cx (na_cons (ne_var 2) (na_cons (ne_op op_addA addN (ne_fz 2 (ne_cal c__law_acts (hr.mono (by omega)) hgd pass_cx (na_cons (ne_var 0) (na_cons (ne_var 3) (na_cons ne_int na_nil))))) (ne_lst (na_cons (ne_tup (na_cons ne_str (na_cons (ne_op op_addA addN ne_int (ne_cal c__law_pull (hr.mono (by omega)) hgd pass_cx (na_cons (ne_var 0) (na_cons (ne_var 3) na_nil)))) na_nil))) na_nil))) na_nil))))
    (nss_cons (ns_if (nt_not (nt_val (ne_cal c__law_exact (hr.mono (by omega)) hgd pass_cx (na_cons (ne_fz 2 (ne_cal c__law_all (hr.mono (by omega)) hgd pass_cx (na_cons (ne_var 1) na_nil))) (na_cons (ne_var 4) na_nil)))))
    (nss_one (ns_ret ne_bl))
    nss_nil)
    (nss_cons (ns_if (nt_w (nw_or (nt_cmp (op_neE hr.units) neN (ne_ownE ow_Ring c_Ring____eq__ (hr.mono (by omega)) hgd pass_cx (ne_var 1) (ne_var 2) (nomark _)) (ne_cmp (op_eqE hr.units) eqN (ne_fz 2 (ne_meth0 c_Ring__stand (hr.mono (by omega)) hgd pass_cx (ne_var 1))) (ne_fz 2 (ne_meth0 c_Ring__stand (hr.mono (by omega)) hgd pass_cx (ne_var 2))) (nomark _)) (nomark _)) (nw_or1 (nt_cmp (op_eqE hr.units) eqN (ne_ownN ow_Ring c_Ring____eq__ (hr.mono (by omega)) hgd pass_cx (ne_var 1) (ne_var 2) (nomark _)) (ne_ownE ow_Ring c_Ring____eq__ (hr.mono (by omega)) hgd pass_cx (ne_var 1) (ne_var 2) (nomark _)) (nomark _)))))
    (nss_one (ns_ret ne_bl))
    nss_nil)
    (nss_cons (ns_for own_cx rfl (ni_range1 (b_range hB) (na_cons (ne_op op_sub subN (ne_lenO c_Ring____len__ (hr.mono (by omega)) hgd pass_cx (b_len hB) (ne_var 2)) (ne_lenO c_Ring____len__ (hr.mono (by omega)) hgd pass_cx (b_len hB) (ne_var 1))) na_nil)) (ng_name (own := [5]) 5 (by decide) hN rfl (.inl rfl))
    (nss_one (ns_expr (ne_meth0 c_Ring__back (hr.mono (by omega)) hgd pass_cx (ne_var 2)))))
    (nss_cons (ns_if (nt_w (nw_or (nt_not (nt_val (ne_cal c__law_exact (hr.mono (by omega)) hgd pass_cx (na_cons (ne_fz 2 (ne_cal c__law_all (hr.mono (by omega)) hgd pass_cx (na_cons (ne_var 2) na_nil))) (na_cons (ne_var 4) na_nil))))) (nw_or (nt_not (nt_ownE ow_Ring c_Ring____eq__ (hr.mono (by omega)) hgd pass_cx (ne_var 1) (ne_var 2) (nomark _))) (nw_or1 (nt_ownN ow_Ring c_Ring____eq__ (hr.mono (by omega)) hgd pass_cx (ne_var 1) (ne_var 2) (nomark _))))))
    (nss_one (ns_ret ne_bl))
    nss_nil)
    (nss_cons (ns_expr (ne_meth c_Ring__come (hr.mono (by omega)) hgd pass_cx (ne_var 1) (na_cons ne_int na_nil)))
    (nss_cons (ns_expr (ne_meth c_Ring__go (hr.mono (by omega)) hgd pass_cx (ne_var 1) (na_cons ne_int na_nil)))
    (nss_one (ns_ret (ne_cal c__law_exact (hr.mono (by omega)) hgd pass_cx (na_cons (ne_fz 2 (ne_cal c__law_all (hr.mono (by omega)) hgd pass_cx (na_cons (ne_var 2) na_nil))) (na_cons (ne_var 4) na_nil)))))))))))))
abbrev s_law : Stmt := topS 46
abbrev N_law : List Str := ["_law_script", "_law_cells_here", "_law_k", "_law_jar_here", "_law_size_here", "_law_ring_here", "_law_hands_here", "_law_some", "_law_turn", "_law_one", "_law_two", "_law_mate", "_law_due"]
theorem sc_law : FnScope N_law ["_law_script"] (defScope s_law) := ⟨rfl, rfl, rfl, by decide +kernel, rfl, by decide +kernel, by decide +kernel⟩
noncomputable def m_law : MF := runD 13 (sSeq (sAsg (mFz 2 (mF 2 m__law_cells (aCons (mVar 0) (aCons (mC (.int 5)) aNil)))) (gmN 1))
  (sSeq (sFor (iRg1 (aCons (mCB (on1 gLen) (aCons (mVar 1) aNil)) aNil)) (gmN 2)
  (sGc [2, 3, 4, 5, 6, 7, 8, 9, 10, 11, 12, 5] (sSeq (sAsg (mF 2 m__law_jar (aCons (m2 gIx (mVar 1) (mVar 2)) (aCons (mVar 2) aNil))) (gmN 3))
  (sSeq (sAsg (mCB (on2 gMin2) (aCons (mC (.int 60)) (aCons (mFz 2 (mF 2 m__law_size (aCons (mVar 3) (aCons (mVar 0) aNil)))) aNil))) (gmN 4))
  (sSeq (sAsg (mF 2 m__law_begun (aCons (mVar 3) (aCons (mVar 4) aNil))) (gmSq 2 (gmCons (gmN 5) (gmCons (gmN 6) gmNil))))
  (sSeq (sAsg (mFz 2 (mF 3 m__law_acts (aCons (mVar 3) (aCons (mVar 4) (aCons (mIf (mT (m2 gEq (mVar 0) (mLst false aNil))) (mC (.int 4)) (mC (.int 20))) aNil))))) (gmN 7))
  (sSeq (sDrop (mF 2 m__law_do_all (aCons (mVar 5) (aCons (mVar 7) aNil))))
  (sSeq (sFor (iRg1 (aCons (mF 2 m__law_pull (aCons (mVar 3) (aCons (m2 (gAdd false) (mCB (on1 gLen) (aCons (mVar 7) aNil)) (mC (.int 1))) aNil))) aNil)) (gmN 8)
  (sDrop (mM "Ring" "back" 1 m_Ring__back (mVar 5) aNil)))
  (sSeq (sPar 9 10 (aCons (mM "Ring" "twin" 1 m_Ring__twin (mVar 5) aNil) (aCons (mM "Ring" "twin" 1 m_Ring__twin (mVar 5) aNil) aNil)))
  (sSeq (sAsg (mI "Ring" 3 0 1 1 0 m_Ring____init__ aNil (aCons (mFz 2 (mM "Ring" "stand" 1 m_Ring__stand (mVar 5) aNil)) aNil)) (gmN 11))
  (sSeq (sIf (tNotM (mT (mF 2 (m__law_exact 5) (aCons (mLst false (aCons (mFz 2 (mF 1 m__law_all (aCons (mVar 9) aNil))) (aCons (mCB (on1 (gLenO "Ring" 1 m_Ring____len__)) (aCons (mVar 11) aNil)) aNil))) (aCons (mLst false (aCons (mFz 2 (mF 1 m__law_all (aCons (mVar 5) aNil))) (aCons (mC (.int 0)) aNil))) aNil)))))
  (sRet (mC (.bl false)))
  sNil)
  (sSeq (sIf (tOrM (tNotM (mT (m2 (gOwn false "Ring" m_Ring____eq__) (mVar 5) (mVar 9)))) (tOrM (tNotM (mT (m2 (gOwn false "Ring" m_Ring____eq__) (mVar 5) (mVar 11)))) (mT (m2 (gOwn true "Ring" m_Ring____eq__) (mVar 5) (mVar 11)))))
  (sRet (mC (.bl false)))
  sNil)
  (sSeq (sIf (tOrM (mT (m2 (gOwn false "Ring" m_Ring____eq__) (mVar 5) (mFz 2 (mM "Ring" "stand" 1 m_Ring__stand (mVar 5) aNil)))) (tOrM (mT (m2 (gOwn false "Ring" m_Ring____eq__) (mVar 5) (mC (.str "ring")))) (tNotM (mT (m2 (gOwn true "Ring" m_Ring____eq__) (mVar 5) (mC (.int 3)))))))
  (sRet (mC (.bl false)))
  sNil)
  (sSeq (sAsg (mF 1 m__law_again_all (aCons (mVar 9) aNil)) (gmN 12))
  (sSeq (sIf (tOrM (tNotM (mT (mF 2 (m__law_exact 5) (aCons (mFz 2 (mF 1 m__law_all (aCons (mVar 5) aNil))) (aCons (mFz 2 (mF 1 m__law_all (aCons (mVar 10) aNil))) aNil))))) (tNotM (mT (mF 2 (m__law_exact 5) (aCons (mF 1 m__law_again_all (aCons (mVar 10) aNil)) (aCons (mVar 12) aNil))))))
  (sRet (mC (.bl false)))
  sNil)
  (sIf (tOrM (tNotM (mT (mF 2 (m__law_exact 5) (aCons (mF 1 m__law_again_all (aCons (mVar 5) aNil)) (aCons (mVar 12) aNil))))) (tNotM (mT (mF 4 m__law_apart_right (aCons (mVar 3) (aCons (mVar 5) (aCons (mM "Ring" "twin" 1 m_Ring__twin (mVar 5) aNil) (aCons (mVar 4) aNil))))))))
  (sRet (mC (.bl false)))
  sNil))))))))))))))))
  (sRet (mC (.bl true)))))
theorem ok_law {f : Addr} {fd : FuncData} (hB : Blts mg) (hG : Globs mg K) (h : Fun K "law" "law" s_law f fd) (c__law_cells : Cal P w K mg base "_law_cells" 1 2 m__law_cells) (c__law_jar : Cal P w K mg base "_law_jar" 1 2 m__law_jar) (c__law_begun : Cal P w K mg base "_law_begun" 7 2 m__law_begun) (c__law_acts : Cal P w K mg base "_law_acts" 2 3 m__law_acts) (c__law_do_all : Cal P w K mg base "_law_do_all" 6 2 m__law_do_all) (c__law_again_all : Cal P w K mg base "_law_again_all" 5 1 m__law_again_all) (c__law_size : Cal P w K mg base "_law_size" 2 2 m__law_size) (c__law_pull : Cal P w K mg base "_law_pull" 1 2 m__law_pull) (c_Ring__back : CalM P w K mg base "Ring" "back" 1 1 m_Ring__back) (c_Ring__twin : CalM P w K mg base "Ring" "twin" 7 1 m_Ring__twin) (c__law_exact : Cal P w K mg base "_law_exact" 5 2 (m__law_exact 5)) (c_Ring____eq__ : CalM P w K mg base "Ring" "__eq__" 1 2 m_Ring____eq__) (c_Ring__stand : CalM P w K mg base "Ring" "stand" 2 1 m_Ring__stand) (c__law_apart_right : Cal P w K mg base "_law_apart_right" 7 4 m__law_apart_right) (c__law_all : Cal P w K mg base "_law_all" 3 1 m__law_all) (c_Ring____len__ : CalM P w K mg base "Ring" "__len__" 1 1 m_Ring____len__) (cI_Ring_1 : CalI P w K mg base "Ring" 5 3 0 ["stand"] 1 0 m_Ring____init__) (ow_Ring : OwnW K mg "Ring") : FnG P w K mg base 8 f fd ["_law_script"] (spN K mg 1 m_law) := by
  have hN := sc_law.nd
  exact okD (k := 7) h sc_law fun cdv A outer s H E hr hgd => (nss_cons (ns_set 1 hN rfl (.inl rfl) (ne_fz 2 (ne_cal c__law_cells (hr.mono (by omega)) hgd pass_cx (na_cons (ne_var 0) (na_cons ne_int na_nil)))))
    (nss_cons (ns_for own_cx rfl (ni_range1 (b_range hB) (na_cons (ne_callB call_len lenN (b_len hB) (na_cons (ne_var 1) na_nil)) na_nil)) (ng_name (own := [2]) 2 (by decide) hN rfl (.inl rfl))
    (nss_gc [2, 3, 4, 5, 6, 7, 8, 9, 10, 11, 12, 5] (nss_cons (ns_set 3 hN rfl (.inl rfl) (ne_cal c__law_jar (hr.mono (by omega)) hgd pass_cx (na_cons (ne_ix (ne_var 1) (ne_var 2)) (na_cons (ne_var 2) na_nil))))
    (nss_cons (ns_set 4 hN rfl (.inl rfl) (ne_callB (call_min2 rfl) min2N (b_min hB) (na_cons ne_int (na_cons (ne_fz 2 (ne_cal c__law_size (hr.mono (by omega)) hgd pass_cx (na_cons (ne_var 3) (na_cons (ne_var 0) na_nil)))) na_nil))))
    (nss_cons (ns_asg (ne_cal c__law_begun (hr.mono (by omega)) hgd pass_cx (na_cons (ne_var 3) (na_cons (ne_var 4) na_nil))) (ng_sq rfl (ngs_cons (ng_name (own := [5, 6]) 5 (by decide) hN rfl (.inl rfl)) (ngs_cons (ng_name (own := [5, 6]) 6 (by decide) hN rfl (.inl rfl)) ngs_nil))))
    (nss_cons (ns_set 7 hN rfl (.inl rfl) (ne_fz 2 (ne_cal c__law_acts (hr.mono (by omega)) hgd pass_cx (na_cons (ne_var 3) (na_cons (ne_var 4) (na_cons (ne_if (nt_cmp (op_eqE hr.units) eqN (ne_var 0) (ne_lst na_nil) (nomark _)) ne_int ne_int) na_nil))))))
    (nss_cons (ns_expr (ne_cal c__law_do_all (hr.mono (by omega)) hgd pass_cx (na_cons (ne_var 5) (na_cons (ne_var 7) na_nil))))
    (nss_cons (ns_for own_cx rfl (ni_range1 (b_range hB) (na_cons (ne_cal c__law_pull (hr.mono (by omega)) hgd pass_cx (na_cons (ne_var 3) (na_cons (ne_op op_addA addN (ne_callB call_len lenN (b_len hB) (na_cons (ne_var 7) na_nil)) ne_int) na_nil))) na_nil)) (ng_name (own := [8]) 8 (by decide) hN rfl (.inl rfl))
    (nss_one (ns_expr (ne_meth0 c_Ring__back (hr.mono (by omega)) hgd pass_cx (ne_var 5)))))
    (nss_cons (ns_par 9 10 rfl hN rfl rfl (by decide) rfl rfl (na_cons (ne_meth0 c_Ring__twin (hr.mono (by omega)) hgd pass_cx (ne_var 5)) (na_cons (ne_meth0 c_Ring__twin (hr.mono (by omega)) hgd pass_cx (ne_var 5)) na_nil)) (by rfl))
    (nss_cons (ns_set 11 hN rfl (.inl rfl) (ne_makeK cI_Ring_1 (hr.mono (by omega)) hgd pass_cx (nk_cons (ne_fz 2 (ne_meth0 c_Ring__stand (hr.mono (by omega)) hgd pass_cx (ne_var 5))) nk_nil)))
    (nss_cons (ns_if (nt_not (nt_val (ne_cal c__law_exact (hr.mono (by omega)) hgd pass_cx (na_cons (ne_lst (na_cons (ne_fz 2 (ne_cal c__law_all (hr.mono (by omega)) hgd pass_cx (na_cons (ne_var 9) na_nil))) (na_cons (ne_lenO c_Ring____len__ (hr.mono (by omega)) hgd pass_cx (b_len hB) (ne_var 11)) na_nil))) (na_cons (ne_lst (na_cons (ne_fz 2 (ne_cal c__law_all (hr.mono (by omega)) hgd pass_cx (na_cons (ne_var 5) na_nil))) (na_cons ne_int na_nil))) na_nil)))))
    (nss_one (ns_ret ne_bl))
    nss_nil)
    (nss_cons (ns_if (nt_w (nw_or (nt_not (nt_ownE ow_Ring c_Ring____eq__ (hr.mono (by omega)) hgd pass_cx (ne_var 5) (ne_var 9) (nomark _))) (nw_or (nt_not (nt_ownE ow_Ring c_Ring____eq__ (hr.mono (by omega)) hgd pass_cx (ne_var 5) (ne_var 11) (nomark _))) (nw_or1 (nt_ownN ow_Ring c_Ring____eq__ (hr.mono (by omega)) hgd pass_cx (ne_var 5) (ne_var 11) (nomark _))))))
    (nss_one (ns_ret ne_bl))
    nss_nil)
    (nss_cons (ns_if (nt_w (nw_or (nt_ownE ow_Ring c_Ring____eq__ (hr.mono (by omega)) hgd pass_cx (ne_var 5) (ne_fz 2 (ne_meth0 c_Ring__stand (hr.mono (by omega)) hgd pass_cx (ne_var 5))) (nomark _)) (nw_or (nt_ownE ow_Ring c_Ring____eq__ (hr.mono (by omega)) hgd pass_cx (ne_var 5) ne_str (nomark _)) (nw_or1 (nt_not (nt_ownN ow_Ring c_Ring____eq__ (hr.mono (by omega)) hgd pass_cx (ne_var 5) ne_int (nomark _)))))))
    (nss_one (ns_ret ne_bl))
    nss_nil)
    (nss_cons (ns_set 12 hN rfl (.inl rfl) (ne_cal c__law_again_all (hr.mono (by omega)) hgd pass_cx (na_cons (ne_var 9) na_nil)))
    (nss_cons (ns_if (nt_w (nw_or (nt_not (nt_val (ne_cal c__law_exact (hr.mono (by omega)) hgd pass_cx (na_cons (ne_fz 2 (ne_cal c__law_all (hr.mono (by omega)) hgd pass_cx (na_cons (ne_var 5) na_nil))) (na_cons (ne_fz 2 (ne_cal c__law_all (hr.mono (by omega)) hgd pass_cx (na_cons (ne_var 10) na_nil))) na_nil))))) (nw_or1 (nt_not (nt_val (ne_cal c__law_exact (hr.mono (by omega)) hgd pass_cx (na_cons (ne_cal c__law_again_all (hr.mono (by omega)) hgd pass_cx (na_cons (ne_var 10) na_nil)) (na_cons (ne_var 12) na_nil))))))))
    (nss_one (ns_ret ne_bl))
    nss_nil)
    (nss_one (ns_if (nt_w (nw_or (nt_not (nt_val (ne_cal c__law_exact (hr.mono (by omega)) hgd pass_cx (na_cons (ne_cal c__law_again_all (hr.mono (by omega)) hgd pass_cx (na_cons (ne_var 5) na_nil)) (na_cons (ne_var 12) na_nil))))) (nw_or1 (nt_not (nt_val (ne_cal c__law_apart_right (hr.mono (by omega)) hgd pass_cx (na_cons (ne_var 3) (na_cons (ne_var 5) (na_cons (ne_meth0 c_Ring__twin (hr.mono (by omega)) hgd pass_cx (ne_var 5)) (na_cons (ne_var 4) na_nil))))))))))
    (nss_one (ns_ret ne_bl))
    nss_nil)))))))))))))))))
    (nss_one (ns_ret ne_bl))))
theorem okI_Ring_0 (hB : Blts mg) (hG : Globs mg K) (h : DefAtI K mg "Ring" "Ring.__init__" s_Ring____init__ ["self", "n", "stand"] [V.non] [("stand", V.non)] 1 [] 0 1) (c_first_stand : Cal P w K mg base "first_stand" 4 2 m_first_stand) (cl_Ring : ClsAt K "Ring") (nf_Ring_stand_held : NoAt K "Ring" "stand_held") (nf_Ring_done_held : NoAt K "Ring" "done_held") (nf_Ring_back_held : NoAt K "Ring" "back_held") : CalI P w K mg base "Ring" 5 3 1 [] 0 1 m_Ring____init__ := by
  have hN := sc_Ring____init__.nd
  exact CalI.ofK (k := 4) h sc_Ring____init__ fun f cdv A outer s H E hr hgd => (nss_cons (ns_fld cl_Ring nf_Ring_stand_held (ne_var 0) (ne_fz 2 (ne_cal c_first_stand (hr.mono (by omega)) hgd pass_cx (na_cons (ne_var 1) (na_cons (ne_var 2) na_nil)))))
    (nss_cons (ns_fld cl_Ring nf_Ring_done_held (ne_var 0) (ne_lst na_nil))
    (nss_one (ns_fld cl_Ring nf_Ring_back_held (ne_var 0) (ne_lst na_nil)))))
theorem okI_Ring_1 (hB : Blts mg) (hG : Globs mg K) (h : DefAtI K mg "Ring" "Ring.__init__" s_Ring____init__ ["self", "n", "stand"] [V.non] [("stand", V.non)] 0 ["stand"] 1 0) (c_first_stand : Cal P w K mg base "first_stand" 4 2 m_first_stand) (cl_Ring : ClsAt K "Ring") (nf_Ring_stand_held : NoAt K "Ring" "stand_held") (nf_Ring_done_held : NoAt K "Ring" "done_held") (nf_Ring_back_held : NoAt K "Ring" "back_held") : CalI P w K mg base "Ring" 5 3 0 ["stand"] 1 0 m_Ring____init__ := by
  have hN := sc_Ring____init__.nd
  exact CalI.ofK (k := 4) h sc_Ring____init__ fun f cdv A outer s H E hr hgd => (nss_cons (ns_fld cl_Ring nf_Ring_stand_held (ne_var 0) (ne_fz 2 (ne_cal c_first_stand (hr.mono (by omega)) hgd pass_cx (na_cons (ne_var 1) (na_cons (ne_var 2) na_nil)))))
    (nss_cons (ns_fld cl_Ring nf_Ring_done_held (ne_var 0) (ne_lst na_nil))
    (nss_one (ns_fld cl_Ring nf_Ring_back_held (ne_var 0) (ne_lst na_nil)))))
end
section
variable {K : PySem.W.Frag} {mg : Str → Option Value}
theorem at__law_cells {h : Heap} (X : K.In h) (G : h.Ns mainGlobals mg) {f : Addr} {oc : Value} {od an : Option Addr} {osl : Array (Option Value)} {kV dc pm cd ct : Value} (a : PySem.W.nsIn K mainGlobals "_law_cells" = some (some (.ref f))) (l : K.lookup f = some ⟨oc, od, .func (PySem.W.fnOf "_law_cells" "_law_cells" (defArgs s__law_cells) (defBody s__law_cells) (defScope s__law_cells) .none kV dc pm an cd ct), osl⟩) (c : PySem.W.codeIn K cd "_law_cells" = true) (k : PySem.W.keepIn K (.ref f) = true) : DefAt K mg "_law_cells" s__law_cells ["_law_script", "_law_most"] :=
  ⟨f, _, fun_mk l c k, PySem.W.mg_of X G a, (fun_mk l c k).binds fun _ _ _ _ _ _ us hl => match us, hl with | [_, _], _ => rfl⟩
theorem at__law_jar {h : Heap} (X : K.In h) (G : h.Ns mainGlobals mg) {f : Addr} {oc : Value} {od an : Option Addr} {osl : Array (Option Value)} {kV dc pm cd ct : Value} (a : PySem.W.nsIn K mainGlobals "_law_jar" = some (some (.ref f))) (l : K.lookup f = some ⟨oc, od, .func (PySem.W.fnOf "_law_jar" "_law_jar" (defArgs s__law_jar) (defBody s__law_jar) (defScope s__law_jar) .none kV dc pm an cd ct), osl⟩) (c : PySem.W.codeIn K cd "_law_jar" = true) (k : PySem.W.keepIn K (.ref f) = true) : DefAt K mg "_law_jar" s__law_jar ["_law_cell", "_law_k"] :=
  ⟨f, _, fun_mk l c k, PySem.W.mg_of X G a, (fun_mk l c k).binds fun _ _ _ _ _ _ us hl => match us, hl with | [_, _], _ => rfl⟩
theorem at__law_pull {h : Heap} (X : K.In h) (G : h.Ns mainGlobals mg) {f : Addr} {oc : Value} {od an : Option Addr} {osl : Array (Option Value)} {kV dc pm cd ct : Value} (a : PySem.W.nsIn K mainGlobals "_law_pull" = some (some (.ref f))) (l : K.lookup f = some ⟨oc, od, .func (PySem.W.fnOf "_law_pull" "_law_pull" (defArgs s__law_pull) (defBody s__law_pull) (defScope s__law_pull) .none kV dc pm an cd ct), osl⟩) (c : PySem.W.codeIn K cd "_law_pull" = true) (k : PySem.W.keepIn K (.ref f) = true) : DefAt K mg "_law_pull" s__law_pull ["_law_jar_here", "_law_count"] :=
  ⟨f, _, fun_mk l c k, PySem.W.mg_of X G a, (fun_mk l c k).binds fun _ _ _ _ _ _ us hl => match us, hl with | [_, _], _ => rfl⟩
theorem at__law_ring {h : Heap} (X : K.In h) (G : h.Ns mainGlobals mg) {f : Addr} {oc : Value} {od an : Option Addr} {osl : Array (Option Value)} {kV dc pm cd ct : Value} (a : PySem.W.nsIn K mainGlobals "_law_ring" = some (some (.ref f))) (l : K.lookup f = some ⟨oc, od, .func (PySem.W.fnOf "_law_ring" "_law_ring" (defArgs s__law_ring) (defBody s__law_ring) (defScope s__law_ring) .none kV dc pm an cd ct), osl⟩) (c : PySem.W.codeIn K cd "_law_ring" = true) (k : PySem.W.keepIn K (.ref f) = true) : DefAt K mg "_law_ring" s__law_ring ["_law_size_here"] :=
  ⟨f, _, fun_mk l c k, PySem.W.mg_of X G a, (fun_mk l c k).binds fun _ _ _ _ _ _ us hl => match us, hl with | [_], _ => rfl⟩
theorem at__law_acts {h : Heap} (X : K.In h) (G : h.Ns mainGlobals mg) {f : Addr} {oc : Value} {od an : Option Addr} {osl : Array (Option Value)} {kV dc pm cd ct : Value} (a : PySem.W.nsIn K mainGlobals "_law_acts" = some (some (.ref f))) (l : K.lookup f = some ⟨oc, od, .func (PySem.W.fnOf "_law_acts" "_law_acts" (defArgs s__law_acts) (defBody s__law_acts) (defScope s__law_acts) .none kV dc pm an cd ct), osl⟩) (c : PySem.W.codeIn K cd "_law_acts" = true) (k : PySem.W.keepIn K (.ref f) = true) : DefAt K mg "_law_acts" s__law_acts ["_law_jar_here", "_law_size_here", "_law_most"] :=
  ⟨f, _, fun_mk l c k, PySem.W.mg_of X G a, (fun_mk l c k).binds fun _ _ _ _ _ _ us hl => match us, hl with | [_, _, _], _ => rfl⟩
theorem at__law_shown {h : Heap} (X : K.In h) (G : h.Ns mainGlobals mg) {f : Addr} {oc : Value} {od an : Option Addr} {osl : Array (Option Value)} {kV dc pm cd ct : Value} (a : PySem.W.nsIn K mainGlobals "_law_shown" = some (some (.ref f))) (l : K.lookup f = some ⟨oc, od, .func (PySem.W.fnOf "_law_shown" "_law_shown" (defArgs s__law_shown) (defBody s__law_shown) (defScope s__law_shown) .none kV dc pm an cd ct), osl⟩) (c : PySem.W.codeIn K cd "_law_shown" = true) (k : PySem.W.keepIn K (.ref f) = true) : DefAt K mg "_law_shown" s__law_shown ["_law_hands_here"] :=
  ⟨f, _, fun_mk l c k, PySem.W.mg_of X G a, (fun_mk l c k).binds fun _ _ _ _ _ _ us hl => match us, hl with | [_], _ => rfl⟩
theorem at__law_do {h : Heap} (X : K.In h) (G : h.Ns mainGlobals mg) {f : Addr} {oc : Value} {od an : Option Addr} {osl : Array (Option Value)} {kV dc pm cd ct : Value} (a : PySem.W.nsIn K mainGlobals "_law_do" = some (some (.ref f))) (l : K.lookup f = some ⟨oc, od, .func (PySem.W.fnOf "_law_do" "_law_do" (defArgs s__law_do) (defBody s__law_do) (defScope s__law_do) .none kV dc pm an cd ct), osl⟩) (c : PySem.W.codeIn K cd "_law_do" = true) (k : PySem.W.keepIn K (.ref f) = true) : DefAt K mg "_law_do" s__law_do ["_law_hands_here", "_law_act"] :=
  ⟨f, _, fun_mk l c k, PySem.W.mg_of X G a, (fun_mk l c k).binds fun _ _ _ _ _ _ us hl => match us, hl with | [_, _], _ => rfl⟩
theorem at__law_any {h : Heap} (X : K.In h) (G : h.Ns mainGlobals mg) {f : Addr} {oc : Value} {od an : Option Addr} {osl : Array (Option Value)} {kV dc pm cd ct : Value} (a : PySem.W.nsIn K mainGlobals "_law_any" = some (some (.ref f))) (l : K.lookup f = some ⟨oc, od, .func (PySem.W.fnOf "_law_any" "_law_any" (defArgs s__law_any) (defBody s__law_any) (defScope s__law_any) .none kV dc pm an cd ct), osl⟩) (c : PySem.W.codeIn K cd "_law_any" = true) (k : PySem.W.keepIn K (.ref f) = true) : DefAt K mg "_law_any" s__law_any ["_law_jar_here", "_law_size_here"] :=
  ⟨f, _, fun_mk l c k, PySem.W.mg_of X G a, (fun_mk l c k).binds fun _ _ _ _ _ _ us hl => match us, hl with | [_, _], _ => rfl⟩
theorem at_is_between {h : Heap} (X : K.In h) (G : h.Ns mainGlobals mg) {f : Addr} {oc : Value} {od an : Option Addr} {osl : Array (Option Value)} {kV dc pm cd ct : Value} (a : PySem.W.nsIn K mainGlobals "is_between" = some (some (.ref f))) (l : K.lookup f = some ⟨oc, od, .func (PySem.W.fnOf "is_between" "is_between" (defArgs s_is_between) (defBody s_is_between) (defScope s_is_between) .none kV dc pm an cd ct), osl⟩) (c : PySem.W.codeIn K cd "is_between" = true) (k : PySem.W.keepIn K (.ref f) = true) : DefAt K mg "is_between" s_is_between ["thing", "least", "most"] :=
  ⟨f, _, fun_mk l c k, PySem.W.mg_of X G a, (fun_mk l c k).binds fun _ _ _ _ _ _ us hl => match us, hl with | [_, _, _], _ => rfl⟩
theorem at_is_stand {h : Heap} (X : K.In h) (G : h.Ns mainGlobals mg) {f : Addr} {oc : Value} {od an : Option Addr} {osl : Array (Option Value)} {kV dc pm cd ct : Value} (a : PySem.W.nsIn K mainGlobals "is_stand" = some (some (.ref f))) (l : K.lookup f = some ⟨oc, od, .func (PySem.W.fnOf "is_stand" "is_stand" (defArgs s_is_stand) (defBody s_is_stand) (defScope s_is_stand) .none kV dc pm an cd ct), osl⟩) (c : PySem.W.codeIn K cd "is_stand" = true) (k : PySem.W.keepIn K (.ref f) = true) : DefAt K mg "is_stand" s_is_stand ["thing"] :=
  ⟨f, _, fun_mk l c k, PySem.W.mg_of X G a, (fun_mk l c k).binds fun _ _ _ _ _ _ us hl => match us, hl with | [_], _ => rfl⟩
theorem at_need_stand {h : Heap} (X : K.In h) (G : h.Ns mainGlobals mg) {f : Addr} {oc : Value} {od an : Option Addr} {osl : Array (Option Value)} {kV dc pm cd ct : Value} (a : PySem.W.nsIn K mainGlobals "need_stand" = some (some (.ref f))) (l : K.lookup f = some ⟨oc, od, .func (PySem.W.fnOf "need_stand" "need_stand" (defArgs s_need_stand) (defBody s_need_stand) (defScope s_need_stand) .none kV dc pm an cd ct), osl⟩) (c : PySem.W.codeIn K cd "need_stand" = true) (k : PySem.W.keepIn K (.ref f) = true) : DefAt K mg "need_stand" s_need_stand ["stand"] :=
  ⟨f, _, fun_mk l c k, PySem.W.mg_of X G a, (fun_mk l c k).binds fun _ _ _ _ _ _ us hl => match us, hl with | [_], _ => rfl⟩
theorem at_copied {h : Heap} (X : K.In h) (G : h.Ns mainGlobals mg) {f : Addr} {oc : Value} {od an : Option Addr} {osl : Array (Option Value)} {kV dc pm cd ct : Value} (a : PySem.W.nsIn K mainGlobals "copied" = some (some (.ref f))) (l : K.lookup f = some ⟨oc, od, .func (PySem.W.fnOf "copied" "copied" (defArgs s_copied) (defBody s_copied) (defScope s_copied) .none kV dc pm an cd ct), osl⟩) (c : PySem.W.codeIn K cd "copied" = true) (k : PySem.W.keepIn K (.ref f) = true) : DefAt K mg "copied" s_copied ["stand"] :=
  ⟨f, _, fun_mk l c k, PySem.W.mg_of X G a, (fun_mk l c k).binds fun _ _ _ _ _ _ us hl => match us, hl with | [_], _ => rfl⟩
theorem at_need_dancers {h : Heap} (X : K.In h) (G : h.Ns mainGlobals mg) {f : Addr} {oc : Value} {od an : Option Addr} {osl : Array (Option Value)} {kV dc pm cd ct : Value} (a : PySem.W.nsIn K mainGlobals "need_dancers" = some (some (.ref f))) (l : K.lookup f = some ⟨oc, od, .func (PySem.W.fnOf "need_dancers" "need_dancers" (defArgs s_need_dancers) (defBody s_need_dancers) (defScope s_need_dancers) .none kV dc pm an cd ct), osl⟩) (c : PySem.W.codeIn K cd "need_dancers" = true) (k : PySem.W.keepIn K (.ref f) = true) : DefAt K mg "need_dancers" s_need_dancers ["n"] :=
  ⟨f, _, fun_mk l c k, PySem.W.mg_of X G a, (fun_mk l c k).binds fun _ _ _ _ _ _ us hl => match us, hl with | [_], _ => rfl⟩
theorem at_whole {h : Heap} (X : K.In h) (G : h.Ns mainGlobals mg) {f : Addr} {oc : Value} {od an : Option Addr} {osl : Array (Option Value)} {kV dc pm cd ct : Value} (a : PySem.W.nsIn K mainGlobals "whole" = some (some (.ref f))) (l : K.lookup f = some ⟨oc, od, .func (PySem.W.fnOf "whole" "whole" (defArgs s_whole) (defBody s_whole) (defScope s_whole) .none kV dc pm an cd ct), osl⟩) (c : PySem.W.codeIn K cd "whole" = true) (k : PySem.W.keepIn K (.ref f) = true) : DefAt K mg "whole" s_whole ["n"] :=
  ⟨f, _, fun_mk l c k, PySem.W.mg_of X G a, (fun_mk l c k).binds fun _ _ _ _ _ _ us hl => match us, hl with | [_], _ => rfl⟩
theorem at_first_stand {h : Heap} (X : K.In h) (G : h.Ns mainGlobals mg) {f : Addr} {oc : Value} {od an : Option Addr} {osl : Array (Option Value)} {kV dc pm cd ct : Value} (a : PySem.W.nsIn K mainGlobals "first_stand" = some (some (.ref f))) (l : K.lookup f = some ⟨oc, od, .func (PySem.W.fnOf "first_stand" "first_stand" (defArgs s_first_stand) (defBody s_first_stand) (defScope s_first_stand) .none kV dc pm an cd ct), osl⟩) (c : PySem.W.codeIn K cd "first_stand" = true) (k : PySem.W.keepIn K (.ref f) = true) : DefAt K mg "first_stand" s_first_stand ["n", "stand"] :=
  ⟨f, _, fun_mk l c k, PySem.W.mg_of X G a, (fun_mk l c k).binds fun _ _ _ _ _ _ us hl => match us, hl with | [_, _], _ => rfl⟩
theorem atI_Ring_0 {h : Heap} (X : K.In h) (G : h.Ns mainGlobals mg) {C f T Dk : Addr} {oc ocT : Value} {od an odT : Option Addr} {osl oslT : Array (Option Value)} {nT : Nat} {dc pm cd ct : Value} (aC : PySem.W.nsIn K mainGlobals "Ring" = some (some (.ref C))) (mk : PySem.W.makesIn K C = true) (mi : PySem.W.findIn K (.ref C) "__init__" = some (some (.ref f))) (mf : PySem.W.isFn K (.ref f) = true) (kC : PySem.W.keepIn K (.ref C) = true) (k : PySem.W.keepIn K (.ref f) = true) (l : K.lookup f = some ⟨oc, od, .func (PySem.W.fnOf "__init__" "Ring.__init__" (defArgs s_Ring____init__) (defBody s_Ring____init__) (defScope s_Ring____init__) (.ref T) (.ref Dk) dc pm an cd ct), osl⟩) (c : PySem.W.codeIn K cd "Ring.__init__" = true) (lT : K.lookup T = some ⟨ocT, odT, .seq #[.none] nT, oslT⟩) (lk0 : PySem.W.nsIn K Dk "stand" = some (some .none)) : DefAtI K mg "Ring" "Ring.__init__" s_Ring____init__ ["self", "n", "stand"] [V.non] [("stand", V.non)] 1 [] 0 1 := by
  have F : FunDf K "__init__" "Ring.__init__" s_Ring____init__ [V.non] [("stand", V.non)] f _ := ⟨⟨oc, od, .ref T, .ref Dk, dc, pm, an, cd, ct, osl, rfl, l, c, .inr ⟨by decide, T, _, [.none], nT, rfl, lT, rfl, (.cons rfl .nil)⟩, .inr ⟨Dk, rfl, fun q hq => by
    simp only [List.mem_cons, List.not_mem_nil, or_false] at hq
    rcases hq with rfl
    all_goals exact ⟨.none, lk0, rfl⟩⟩⟩, k⟩
  obtain ⟨its, mv, hb⟩ := F.kbinds (ps := ["self", "n", "stand"]) 2 [] [("stand", V.non)] (fun vs ds mz zs => vs ++ ((zs ++ mz))) (by decide) (by decide) (by decide) (fun h1 h2 h3 h4 => h1.append (h4.append h3)) (fun T D doc pm an cdv ct us its mv ws l1 l2 l3 l4 => match us, its, mv, ws, l1, l2, l3, l4 with | [_, _], [_], [_], [], _, _, _, _ => ⟨_, rfl, kw_one rfl rfl rfl⟩)
  exact ⟨C, f, _, _, PySem.W.mg_of X G aC, aC, ⟨mk, mi, mf, kC⟩, F, hb⟩
theorem atI_Ring_1 {h : Heap} (X : K.In h) (G : h.Ns mainGlobals mg) {C f T Dk : Addr} {oc ocT : Value} {od an odT : Option Addr} {osl oslT : Array (Option Value)} {nT : Nat} {dc pm cd ct : Value} (aC : PySem.W.nsIn K mainGlobals "Ring" = some (some (.ref C))) (mk : PySem.W.makesIn K C = true) (mi : PySem.W.findIn K (.ref C) "__init__" = some (some (.ref f))) (mf : PySem.W.isFn K (.ref f) = true) (kC : PySem.W.keepIn K (.ref C) = true) (k : PySem.W.keepIn K (.ref f) = true) (l : K.lookup f = some ⟨oc, od, .func (PySem.W.fnOf "__init__" "Ring.__init__" (defArgs s_Ring____init__) (defBody s_Ring____init__) (defScope s_Ring____init__) (.ref T) (.ref Dk) dc pm an cd ct), osl⟩) (c : PySem.W.codeIn K cd "Ring.__init__" = true) (lT : K.lookup T = some ⟨ocT, odT, .seq #[.none] nT, oslT⟩) (lk0 : PySem.W.nsIn K Dk "stand" = some (some .none)) : DefAtI K mg "Ring" "Ring.__init__" s_Ring____init__ ["self", "n", "stand"] [V.non] [("stand", V.non)] 0 ["stand"] 1 0 := by
  have F : FunDf K "__init__" "Ring.__init__" s_Ring____init__ [V.non] [("stand", V.non)] f _ := ⟨⟨oc, od, .ref T, .ref Dk, dc, pm, an, cd, ct, osl, rfl, l, c, .inr ⟨by decide, T, _, [.none], nT, rfl, lT, rfl, (.cons rfl .nil)⟩, .inr ⟨Dk, rfl, fun q hq => by
    simp only [List.mem_cons, List.not_mem_nil, or_false] at hq
    rcases hq with rfl
    all_goals exact ⟨.none, lk0, rfl⟩⟩⟩, k⟩
  obtain ⟨its, mv, hb⟩ := F.kbinds (ps := ["self", "n", "stand"]) 1 ["stand"] [] (fun vs ds mz zs => vs ++ (ds ++ (zs ++ []))) (by decide) (by decide) (by decide) (fun h1 h2 h3 h4 => h1.append (h2.append (h4.append .nil))) (fun T D doc pm an cdv ct us its mv ws l1 l2 l3 l4 => match us, its, mv, ws, l1, l2, l3, l4 with | [_], [_], [], [_], _, _, _, _ => ⟨_, rfl, kw_nil rfl⟩)
  exact ⟨C, f, _, _, PySem.W.mg_of X G aC, aC, ⟨mk, mi, mf, kC⟩, F, hb⟩
theorem at__law_hands {h : Heap} (X : K.In h) (G : h.Ns mainGlobals mg) {f : Addr} {oc : Value} {od an : Option Addr} {osl : Array (Option Value)} {kV dc pm cd ct : Value} (a : PySem.W.nsIn K mainGlobals "_law_hands" = some (some (.ref f))) (l : K.lookup f = some ⟨oc, od, .func (PySem.W.fnOf "_law_hands" "_law_hands" (defArgs s__law_hands) (defBody s__law_hands) (defScope s__law_hands) .none kV dc pm an cd ct), osl⟩) (c : PySem.W.codeIn K cd "_law_hands" = true) (k : PySem.W.keepIn K (.ref f) = true) : DefAt K mg "_law_hands" s__law_hands ["_law_pair"] :=
  ⟨f, _, fun_mk l c k, PySem.W.mg_of X G a, (fun_mk l c k).binds fun _ _ _ _ _ _ us hl => match us, hl with | [_], _ => rfl⟩
theorem at__law_begun {h : Heap} (X : K.In h) (G : h.Ns mainGlobals mg) {f : Addr} {oc : Value} {od an : Option Addr} {osl : Array (Option Value)} {kV dc pm cd ct : Value} (a : PySem.W.nsIn K mainGlobals "_law_begun" = some (some (.ref f))) (l : K.lookup f = some ⟨oc, od, .func (PySem.W.fnOf "_law_begun" "_law_begun" (defArgs s__law_begun) (defBody s__law_begun) (defScope s__law_begun) .none kV dc pm an cd ct), osl⟩) (c : PySem.W.codeIn K cd "_law_begun" = true) (k : PySem.W.keepIn K (.ref f) = true) : DefAt K mg "_law_begun" s__law_begun ["_law_jar_here", "_law_size_here"] :=
  ⟨f, _, fun_mk l c k, PySem.W.mg_of X G a, (fun_mk l c k).binds fun _ _ _ _ _ _ us hl => match us, hl with | [_, _], _ => rfl⟩
theorem at_hands_by {h : Heap} (X : K.In h) (G : h.Ns mainGlobals mg) {f : Addr} {oc : Value} {od an : Option Addr} {osl : Array (Option Value)} {kV dc pm cd ct : Value} (a : PySem.W.nsIn K mainGlobals "hands_by" = some (some (.ref f))) (l : K.lookup f = some ⟨oc, od, .func (PySem.W.fnOf "hands_by" "hands_by" (defArgs s_hands_by) (defBody s_hands_by) (defScope s_hands_by) .none kV dc pm an cd ct), osl⟩) (c : PySem.W.codeIn K cd "hands_by" = true) (k : PySem.W.keepIn K (.ref f) = true) : DefAt K mg "hands_by" s_hands_by ["stand", "deed"] :=
  ⟨f, _, fun_mk l c k, PySem.W.mg_of X G a, (fun_mk l c k).binds fun _ _ _ _ _ _ us hl => match us, hl with | [_, _], _ => rfl⟩
theorem at_with_deed {h : Heap} (X : K.In h) (G : h.Ns mainGlobals mg) {f : Addr} {oc : Value} {od an : Option Addr} {osl : Array (Option Value)} {kV dc pm cd ct : Value} (a : PySem.W.nsIn K mainGlobals "with_deed" = some (some (.ref f))) (l : K.lookup f = some ⟨oc, od, .func (PySem.W.fnOf "with_deed" "with_deed" (defArgs s_with_deed) (defBody s_with_deed) (defScope s_with_deed) .none kV dc pm an cd ct), osl⟩) (c : PySem.W.codeIn K cd "with_deed" = true) (k : PySem.W.keepIn K (.ref f) = true) : DefAt K mg "with_deed" s_with_deed ["stand", "deed"] :=
  ⟨f, _, fun_mk l c k, PySem.W.mg_of X G a, (fun_mk l c k).binds fun _ _ _ _ _ _ us hl => match us, hl with | [_, _], _ => rfl⟩
theorem at_Ring__put {h : Heap} (X : K.In h) (G : h.Ns mainGlobals mg) {C f : Addr} {oc : Value} {od an : Option Addr} {osl : Array (Option Value)} {kV dc pm cd ct : Value} (aC : PySem.W.nsIn K mainGlobals "Ring" = some (some (.ref C))) (pg : PySem.W.plainGet K C Str.empty = true) (hd : PySem.W.hasDictIn K C = true) (po : PySem.W.plainOver K C = true) (sa : PySem.W.findIn K (.ref C) "__setattr__" = some (some (.builtin "object.__setattr__"))) (ma : PySem.W.findIn K (.ref C) "put" = some (some (.ref f))) (mf : PySem.W.isFn K (.ref f) = true) (k : PySem.W.keepIn K (.ref f) = true) (l : K.lookup f = some ⟨oc, od, .func (PySem.W.fnOf "put" "Ring.put" (defArgs s_Ring__put) (defBody s_Ring__put) (defScope s_Ring__put) .none kV dc pm an cd ct), osl⟩) (c : PySem.W.codeIn K cd "Ring.put" = true) : DefAtM K "Ring" "put" "Ring.put" s_Ring__put ["self", "deed"] :=
  ⟨C, f, _, (fun C2 h2 => by rw [aC] at h2; cases h2; rfl), ⟨pg, hd, po, sa⟩, ⟨ma, mf, k⟩, fun_mk (st := s_Ring__put) l c k, (fun_mk (st := s_Ring__put) l c k).binds fun _ _ _ _ _ _ us hl => match us, hl with | [_, _], _ => rfl⟩
theorem at_is_deed {h : Heap} (X : K.In h) (G : h.Ns mainGlobals mg) {f : Addr} {oc : Value} {od an : Option Addr} {osl : Array (Option Value)} {kV dc pm cd ct : Value} (a : PySem.W.nsIn K mainGlobals "is_deed" = some (some (.ref f))) (l : K.lookup f = some ⟨oc, od, .func (PySem.W.fnOf "is_deed" "is_deed" (defArgs s_is_deed) (defBody s_is_deed) (defScope s_is_deed) .none kV dc pm an cd ct), osl⟩) (c : PySem.W.codeIn K cd "is_deed" = true) (k : PySem.W.keepIn K (.ref f) = true) : DefAt K mg "is_deed" s_is_deed ["thing", "most"] :=
  ⟨f, _, fun_mk l c k, PySem.W.mg_of X G a, (fun_mk l c k).binds fun _ _ _ _ _ _ us hl => match us, hl with | [_, _], _ => rfl⟩
theorem at_dancers_of {h : Heap} (X : K.In h) (G : h.Ns mainGlobals mg) {f : Addr} {oc : Value} {od an : Option Addr} {osl : Array (Option Value)} {kV dc pm cd ct : Value} (a : PySem.W.nsIn K mainGlobals "dancers_of" = some (some (.ref f))) (l : K.lookup f = some ⟨oc, od, .func (PySem.W.fnOf "dancers_of" "dancers_of" (defArgs s_dancers_of) (defBody s_dancers_of) (defScope s_dancers_of) .none kV dc pm an cd ct), osl⟩) (c : PySem.W.codeIn K cd "dancers_of" = true) (k : PySem.W.keepIn K (.ref f) = true) : DefAt K mg "dancers_of" s_dancers_of ["stand"] :=
  ⟨f, _, fun_mk l c k, PySem.W.mg_of X G a, (fun_mk l c k).binds fun _ _ _ _ _ _ us hl => match us, hl with | [_], _ => rfl⟩
theorem at_Ring__did {h : Heap} (X : K.In h) (G : h.Ns mainGlobals mg) {C f : Addr} {oc : Value} {od an : Option Addr} {osl : Array (Option Value)} {kV dc pm cd ct : Value} (aC : PySem.W.nsIn K mainGlobals "Ring" = some (some (.ref C))) (pg : PySem.W.plainGet K C Str.empty = true) (hd : PySem.W.hasDictIn K C = true) (po : PySem.W.plainOver K C = true) (sa : PySem.W.findIn K (.ref C) "__setattr__" = some (some (.builtin "object.__setattr__"))) (ma : PySem.W.findIn K (.ref C) "did" = some (some (.ref f))) (mf : PySem.W.isFn K (.ref f) = true) (k : PySem.W.keepIn K (.ref f) = true) (l : K.lookup f = some ⟨oc, od, .func (PySem.W.fnOf "did" "Ring.did" (defArgs s_Ring__did) (defBody s_Ring__did) (defScope s_Ring__did) .none kV dc pm an cd ct), osl⟩) (c : PySem.W.codeIn K cd "Ring.did" = true) : DefAtM K "Ring" "did" "Ring.did" s_Ring__did ["self", "word", "dancer"] :=
  ⟨C, f, _, (fun C2 h2 => by rw [aC] at h2; cases h2; rfl), ⟨pg, hd, po, sa⟩, ⟨ma, mf, k⟩, fun_mk (st := s_Ring__did) l c k, (fun_mk (st := s_Ring__did) l c k).binds fun _ _ _ _ _ _ us hl => match us, hl with | [_, _, _], _ => rfl⟩
theorem at_Ring__go {h : Heap} (X : K.In h) (G : h.Ns mainGlobals mg) {C f : Addr} {oc : Value} {od an : Option Addr} {osl : Array (Option Value)} {kV dc pm cd ct : Value} (aC : PySem.W.nsIn K mainGlobals "Ring" = some (some (.ref C))) (pg : PySem.W.plainGet K C Str.empty = true) (hd : PySem.W.hasDictIn K C = true) (po : PySem.W.plainOver K C = true) (sa : PySem.W.findIn K (.ref C) "__setattr__" = some (some (.builtin "object.__setattr__"))) (ma : PySem.W.findIn K (.ref C) "go" = some (some (.ref f))) (mf : PySem.W.isFn K (.ref f) = true) (k : PySem.W.keepIn K (.ref f) = true) (l : K.lookup f = some ⟨oc, od, .func (PySem.W.fnOf "go" "Ring.go" (defArgs s_Ring__go) (defBody s_Ring__go) (defScope s_Ring__go) .none kV dc pm an cd ct), osl⟩) (c : PySem.W.codeIn K cd "Ring.go" = true) : DefAtM K "Ring" "go" "Ring.go" s_Ring__go ["self", "x"] :=
  ⟨C, f, _, (fun C2 h2 => by rw [aC] at h2; cases h2; rfl), ⟨pg, hd, po, sa⟩, ⟨ma, mf, k⟩, fun_mk (st := s_Ring__go) l c k, (fun_mk (st := s_Ring__go) l c k).binds fun _ _ _ _ _ _ us hl => match us, hl with | [_, _], _ => rfl⟩
theorem at_Ring__come {h : Heap} (X : K.In h) (G : h.Ns mainGlobals mg) {C f : Addr} {oc : Value} {od an : Option Addr} {osl : Array (Option Value)} {kV dc pm cd ct : Value} (aC : PySem.W.nsIn K mainGlobals "Ring" = some (some (.ref C))) (pg : PySem.W.plainGet K C Str.empty = true) (hd : PySem.W.hasDictIn K C = true) (po : PySem.W.plainOver K C = true) (sa : PySem.W.findIn K (.ref C) "__setattr__" = some (some (.builtin "object.__setattr__"))) (ma : PySem.W.findIn K (.ref C) "come" = some (some (.ref f))) (mf : PySem.W.isFn K (.ref f) = true) (k : PySem.W.keepIn K (.ref f) = true) (l : K.lookup f = some ⟨oc, od, .func (PySem.W.fnOf "come" "Ring.come" (defArgs s_Ring__come) (defBody s_Ring__come) (defScope s_Ring__come) .none kV dc pm an cd ct), osl⟩) (c : PySem.W.codeIn K cd "Ring.come" = true) : DefAtM K "Ring" "come" "Ring.come" s_Ring__come ["self", "x"] :=
  ⟨C, f, _, (fun C2 h2 => by rw [aC] at h2; cases h2; rfl), ⟨pg, hd, po, sa⟩, ⟨ma, mf, k⟩, fun_mk (st := s_Ring__come) l c k, (fun_mk (st := s_Ring__come) l c k).binds fun _ _ _ _ _ _ us hl => match us, hl with | [_, _], _ => rfl⟩
theorem at__law_do_all {h : Heap} (X : K.In h) (G : h.Ns mainGlobals mg) {f : Addr} {oc : Value} {od an : Option Addr} {osl : Array (Option Value)} {kV dc pm cd ct : Value} (a : PySem.W.nsIn K mainGlobals "_law_do_all" = some (some (.ref f))) (l : K.lookup f = some ⟨oc, od, .func (PySem.W.fnOf "_law_do_all" "_law_do_all" (defArgs s__law_do_all) (defBody s__law_do_all) (defScope s__law_do_all) .none kV dc pm an cd ct), osl⟩) (c : PySem.W.codeIn K cd "_law_do_all" = true) (k : PySem.W.keepIn K (.ref f) = true) : DefAt K mg "_law_do_all" s__law_do_all ["_law_ring_here", "_law_some"] :=
  ⟨f, _, fun_mk l c k, PySem.W.mg_of X G a, (fun_mk l c k).binds fun _ _ _ _ _ _ us hl => match us, hl with | [_, _], _ => rfl⟩
theorem at_Ring__again {h : Heap} (X : K.In h) (G : h.Ns mainGlobals mg) {C f : Addr} {oc : Value} {od an : Option Addr} {osl : Array (Option Value)} {kV dc pm cd ct : Value} (aC : PySem.W.nsIn K mainGlobals "Ring" = some (some (.ref C))) (pg : PySem.W.plainGet K C Str.empty = true) (hd : PySem.W.hasDictIn K C = true) (po : PySem.W.plainOver K C = true) (sa : PySem.W.findIn K (.ref C) "__setattr__" = some (some (.builtin "object.__setattr__"))) (ma : PySem.W.findIn K (.ref C) "again" = some (some (.ref f))) (mf : PySem.W.isFn K (.ref f) = true) (k : PySem.W.keepIn K (.ref f) = true) (l : K.lookup f = some ⟨oc, od, .func (PySem.W.fnOf "again" "Ring.again" (defArgs s_Ring__again) (defBody s_Ring__again) (defScope s_Ring__again) .none kV dc pm an cd ct), osl⟩) (c : PySem.W.codeIn K cd "Ring.again" = true) : DefAtM K "Ring" "again" "Ring.again" s_Ring__again ["self"] :=
  ⟨C, f, _, (fun C2 h2 => by rw [aC] at h2; cases h2; rfl), ⟨pg, hd, po, sa⟩, ⟨ma, mf, k⟩, fun_mk (st := s_Ring__again) l c k, (fun_mk (st := s_Ring__again) l c k).binds fun _ _ _ _ _ _ us hl => match us, hl with | [_], _ => rfl⟩
theorem at_Ring__stand {h : Heap} (X : K.In h) (G : h.Ns mainGlobals mg) {C f : Addr} {oc : Value} {od an : Option Addr} {osl : Array (Option Value)} {kV dc pm cd ct : Value} (aC : PySem.W.nsIn K mainGlobals "Ring" = some (some (.ref C))) (pg : PySem.W.plainGet K C Str.empty = true) (hd : PySem.W.hasDictIn K C = true) (po : PySem.W.plainOver K C = true) (sa : PySem.W.findIn K (.ref C) "__setattr__" = some (some (.builtin "object.__setattr__"))) (ma : PySem.W.findIn K (.ref C) "stand" = some (some (.ref f))) (mf : PySem.W.isFn K (.ref f) = true) (k : PySem.W.keepIn K (.ref f) = true) (l : K.lookup f = some ⟨oc, od, .func (PySem.W.fnOf "stand" "Ring.stand" (defArgs s_Ring__stand) (defBody s_Ring__stand) (defScope s_Ring__stand) .none kV dc pm an cd ct), osl⟩) (c : PySem.W.codeIn K cd "Ring.stand" = true) : DefAtM K "Ring" "stand" "Ring.stand" s_Ring__stand ["self"] :=
  ⟨C, f, _, (fun C2 h2 => by rw [aC] at h2; cases h2; rfl), ⟨pg, hd, po, sa⟩, ⟨ma, mf, k⟩, fun_mk (st := s_Ring__stand) l c k, (fun_mk (st := s_Ring__stand) l c k).binds fun _ _ _ _ _ _ us hl => match us, hl with | [_], _ => rfl⟩
theorem at__law_again_all {h : Heap} (X : K.In h) (G : h.Ns mainGlobals mg) {f : Addr} {oc : Value} {od an : Option Addr} {osl : Array (Option Value)} {kV dc pm cd ct : Value} (a : PySem.W.nsIn K mainGlobals "_law_again_all" = some (some (.ref f))) (l : K.lookup f = some ⟨oc, od, .func (PySem.W.fnOf "_law_again_all" "_law_again_all" (defArgs s__law_again_all) (defBody s__law_again_all) (defScope s__law_again_all) .none kV dc pm an cd ct), osl⟩) (c : PySem.W.codeIn K cd "_law_again_all" = true) (k : PySem.W.keepIn K (.ref f) = true) : DefAt K mg "_law_again_all" s__law_again_all ["_law_ring_here"] :=
  ⟨f, _, fun_mk l c k, PySem.W.mg_of X G a, (fun_mk l c k).binds fun _ _ _ _ _ _ us hl => match us, hl with | [_], _ => rfl⟩
theorem at__law_size {h : Heap} (X : K.In h) (G : h.Ns mainGlobals mg) {f : Addr} {oc : Value} {od an : Option Addr} {osl : Array (Option Value)} {kV dc pm cd ct : Value} (a : PySem.W.nsIn K mainGlobals "_law_size" = some (some (.ref f))) (l : K.lookup f = some ⟨oc, od, .func (PySem.W.fnOf "_law_size" "_law_size" (defArgs s__law_size) (defBody s__law_size) (defScope s__law_size) .none kV dc pm an cd ct), osl⟩) (c : PySem.W.codeIn K cd "_law_size" = true) (k : PySem.W.keepIn K (.ref f) = true) : DefAt K mg "_law_size" s__law_size ["_law_jar_here", "_law_script"] :=
  ⟨f, _, fun_mk l c k, PySem.W.mg_of X G a, (fun_mk l c k).binds fun _ _ _ _ _ _ us hl => match us, hl with | [_, _], _ => rfl⟩
theorem at_Ring__back {h : Heap} (X : K.In h) (G : h.Ns mainGlobals mg) {C f : Addr} {oc : Value} {od an : Option Addr} {osl : Array (Option Value)} {kV dc pm cd ct : Value} (aC : PySem.W.nsIn K mainGlobals "Ring" = some (some (.ref C))) (pg : PySem.W.plainGet K C Str.empty = true) (hd : PySem.W.hasDictIn K C = true) (po : PySem.W.plainOver K C = true) (sa : PySem.W.findIn K (.ref C) "__setattr__" = some (some (.builtin "object.__setattr__"))) (ma : PySem.W.findIn K (.ref C) "back" = some (some (.ref f))) (mf : PySem.W.isFn K (.ref f) = true) (k : PySem.W.keepIn K (.ref f) = true) (l : K.lookup f = some ⟨oc, od, .func (PySem.W.fnOf "back" "Ring.back" (defArgs s_Ring__back) (defBody s_Ring__back) (defScope s_Ring__back) .none kV dc pm an cd ct), osl⟩) (c : PySem.W.codeIn K cd "Ring.back" = true) : DefAtM K "Ring" "back" "Ring.back" s_Ring__back ["self"] :=
  ⟨C, f, _, (fun C2 h2 => by rw [aC] at h2; cases h2; rfl), ⟨pg, hd, po, sa⟩, ⟨ma, mf, k⟩, fun_mk (st := s_Ring__back) l c k, (fun_mk (st := s_Ring__back) l c k).binds fun _ _ _ _ _ _ us hl => match us, hl with | [_], _ => rfl⟩
theorem at_Ring__twin {h : Heap} (X : K.In h) (G : h.Ns mainGlobals mg) {C f : Addr} {oc : Value} {od an : Option Addr} {osl : Array (Option Value)} {kV dc pm cd ct : Value} (aC : PySem.W.nsIn K mainGlobals "Ring" = some (some (.ref C))) (pg : PySem.W.plainGet K C Str.empty = true) (hd : PySem.W.hasDictIn K C = true) (po : PySem.W.plainOver K C = true) (sa : PySem.W.findIn K (.ref C) "__setattr__" = some (some (.builtin "object.__setattr__"))) (ma : PySem.W.findIn K (.ref C) "twin" = some (some (.ref f))) (mf : PySem.W.isFn K (.ref f) = true) (k : PySem.W.keepIn K (.ref f) = true) (l : K.lookup f = some ⟨oc, od, .func (PySem.W.fnOf "twin" "Ring.twin" (defArgs s_Ring__twin) (defBody s_Ring__twin) (defScope s_Ring__twin) .none kV dc pm an cd ct), osl⟩) (c : PySem.W.codeIn K cd "Ring.twin" = true) : DefAtM K "Ring" "twin" "Ring.twin" s_Ring__twin ["self"] :=
  ⟨C, f, _, (fun C2 h2 => by rw [aC] at h2; cases h2; rfl), ⟨pg, hd, po, sa⟩, ⟨ma, mf, k⟩, fun_mk (st := s_Ring__twin) l c k, (fun_mk (st := s_Ring__twin) l c k).binds fun _ _ _ _ _ _ us hl => match us, hl with | [_], _ => rfl⟩
theorem at__law_exact {h : Heap} (X : K.In h) (G : h.Ns mainGlobals mg) {f : Addr} {oc : Value} {od an : Option Addr} {osl : Array (Option Value)} {kV dc pm cd ct : Value} (a : PySem.W.nsIn K mainGlobals "_law_exact" = some (some (.ref f))) (l : K.lookup f = some ⟨oc, od, .func (PySem.W.fnOf "_law_exact" "_law_exact" (defArgs s__law_exact) (defBody s__law_exact) (defScope s__law_exact) .none kV dc pm an cd ct), osl⟩) (c : PySem.W.codeIn K cd "_law_exact" = true) (k : PySem.W.keepIn K (.ref f) = true) : DefAt K mg "_law_exact" s__law_exact ["_law_found", "_law_due"] :=
  ⟨f, _, fun_mk l c k, PySem.W.mg_of X G a, (fun_mk l c k).binds fun _ _ _ _ _ _ us hl => match us, hl with | [_, _], _ => rfl⟩
theorem at_Ring____eq__ {h : Heap} (X : K.In h) (G : h.Ns mainGlobals mg) {C f : Addr} {oc : Value} {od an : Option Addr} {osl : Array (Option Value)} {kV dc pm cd ct : Value} (aC : PySem.W.nsIn K mainGlobals "Ring" = some (some (.ref C))) (pg : PySem.W.plainGet K C Str.empty = true) (hd : PySem.W.hasDictIn K C = true) (po : PySem.W.plainOver K C = true) (sa : PySem.W.findIn K (.ref C) "__setattr__" = some (some (.builtin "object.__setattr__"))) (ma : PySem.W.findIn K (.ref C) "__eq__" = some (some (.ref f))) (mf : PySem.W.isFn K (.ref f) = true) (k : PySem.W.keepIn K (.ref f) = true) (l : K.lookup f = some ⟨oc, od, .func (PySem.W.fnOf "__eq__" "Ring.__eq__" (defArgs s_Ring____eq__) (defBody s_Ring____eq__) (defScope s_Ring____eq__) .none kV dc pm an cd ct), osl⟩) (c : PySem.W.codeIn K cd "Ring.__eq__" = true) : DefAtM K "Ring" "__eq__" "Ring.__eq__" s_Ring____eq__ ["self", "other"] :=
  ⟨C, f, _, (fun C2 h2 => by rw [aC] at h2; cases h2; rfl), ⟨pg, hd, po, sa⟩, ⟨ma, mf, k⟩, fun_mk (st := s_Ring____eq__) l c k, (fun_mk (st := s_Ring____eq__) l c k).binds fun _ _ _ _ _ _ us hl => match us, hl with | [_, _], _ => rfl⟩
theorem at_Ring__history {h : Heap} (X : K.In h) (G : h.Ns mainGlobals mg) {C f : Addr} {oc : Value} {od an : Option Addr} {osl : Array (Option Value)} {kV dc pm cd ct : Value} (aC : PySem.W.nsIn K mainGlobals "Ring" = some (some (.ref C))) (pg : PySem.W.plainGet K C Str.empty = true) (hd : PySem.W.hasDictIn K C = true) (po : PySem.W.plainOver K C = true) (sa : PySem.W.findIn K (.ref C) "__setattr__" = some (some (.builtin "object.__setattr__"))) (ma : PySem.W.findIn K (.ref C) "history" = some (some (.ref f))) (mf : PySem.W.isFn K (.ref f) = true) (k : PySem.W.keepIn K (.ref f) = true) (l : K.lookup f = some ⟨oc, od, .func (PySem.W.fnOf "history" "Ring.history" (defArgs s_Ring__history) (defBody s_Ring__history) (defScope s_Ring__history) .none kV dc pm an cd ct), osl⟩) (c : PySem.W.codeIn K cd "Ring.history" = true) : DefAtM K "Ring" "history" "Ring.history" s_Ring__history ["self"] :=
  ⟨C, f, _, (fun C2 h2 => by rw [aC] at h2; cases h2; rfl), ⟨pg, hd, po, sa⟩, ⟨ma, mf, k⟩, fun_mk (st := s_Ring__history) l c k, (fun_mk (st := s_Ring__history) l c k).binds fun _ _ _ _ _ _ us hl => match us, hl with | [_], _ => rfl⟩
theorem at_Ring____len__ {h : Heap} (X : K.In h) (G : h.Ns mainGlobals mg) {C f : Addr} {oc : Value} {od an : Option Addr} {osl : Array (Option Value)} {kV dc pm cd ct : Value} (aC : PySem.W.nsIn K mainGlobals "Ring" = some (some (.ref C))) (pg : PySem.W.plainGet K C Str.empty = true) (hd : PySem.W.hasDictIn K C = true) (po : PySem.W.plainOver K C = true) (sa : PySem.W.findIn K (.ref C) "__setattr__" = some (some (.builtin "object.__setattr__"))) (ma : PySem.W.findIn K (.ref C) "__len__" = some (some (.ref f))) (mf : PySem.W.isFn K (.ref f) = true) (k : PySem.W.keepIn K (.ref f) = true) (l : K.lookup f = some ⟨oc, od, .func (PySem.W.fnOf "__len__" "Ring.__len__" (defArgs s_Ring____len__) (defBody s_Ring____len__) (defScope s_Ring____len__) .none kV dc pm an cd ct), osl⟩) (c : PySem.W.codeIn K cd "Ring.__len__" = true) : DefAtM K "Ring" "__len__" "Ring.__len__" s_Ring____len__ ["self"] :=
  ⟨C, f, _, (fun C2 h2 => by rw [aC] at h2; cases h2; rfl), ⟨pg, hd, po, sa⟩, ⟨ma, mf, k⟩, fun_mk (st := s_Ring____len__) l c k, (fun_mk (st := s_Ring____len__) l c k).binds fun _ _ _ _ _ _ us hl => match us, hl with | [_], _ => rfl⟩
theorem at__law_all {h : Heap} (X : K.In h) (G : h.Ns mainGlobals mg) {f : Addr} {oc : Value} {od an : Option Addr} {osl : Array (Option Value)} {kV dc pm cd ct : Value} (a : PySem.W.nsIn K mainGlobals "_law_all" = some (some (.ref f))) (l : K.lookup f = some ⟨oc, od, .func (PySem.W.fnOf "_law_all" "_law_all" (defArgs s__law_all) (defBody s__law_all) (defScope s__law_all) .none kV dc pm an cd ct), osl⟩) (c : PySem.W.codeIn K cd "_law_all" = true) (k : PySem.W.keepIn K (.ref f) = true) : DefAt K mg "_law_all" s__law_all ["_law_ring_here"] :=
  ⟨f, _, fun_mk l c k, PySem.W.mg_of X G a, (fun_mk l c k).binds fun _ _ _ _ _ _ us hl => match us, hl with | [_], _ => rfl⟩
theorem at__law_apart_right {h : Heap} (X : K.In h) (G : h.Ns mainGlobals mg) {f : Addr} {oc : Value} {od an : Option Addr} {osl : Array (Option Value)} {kV dc pm cd ct : Value} (a : PySem.W.nsIn K mainGlobals "_law_apart_right" = some (some (.ref f))) (l : K.lookup f = some ⟨oc, od, .func (PySem.W.fnOf "_law_apart_right" "_law_apart_right" (defArgs s__law_apart_right) (defBody s__law_apart_right) (defScope s__law_apart_right) .none kV dc pm an cd ct), osl⟩) (c : PySem.W.codeIn K cd "_law_apart_right" = true) (k : PySem.W.keepIn K (.ref f) = true) : DefAt K mg "_law_apart_right" s__law_apart_right ["_law_jar_here", "_law_ring_here", "_law_twin", "_law_size_here"] :=
  ⟨f, _, fun_mk l c k, PySem.W.mg_of X G a, (fun_mk l c k).binds fun _ _ _ _ _ _ us hl => match us, hl with | [_, _, _, _], _ => rfl⟩
theorem blts_of {h : Heap} (X : K.In h) (G : h.Ns mainGlobals mg) (z0 : PySem.W.nsIn K mainGlobals "all" = some none) (z1 : PySem.W.nsIn K mainGlobals "bool" = some none) (z2 : PySem.W.nsIn K mainGlobals "int" = some none) (z3 : PySem.W.nsIn K mainGlobals "isinstance" = some none) (z4 : PySem.W.nsIn K mainGlobals "len" = some none) (z5 : PySem.W.nsIn K mainGlobals "list" = some none) (z6 : PySem.W.nsIn K mainGlobals "max" = some none) (z7 : PySem.W.nsIn K mainGlobals "min" = some none) (z8 : PySem.W.nsIn K mainGlobals "range" = some none) (z9 : PySem.W.nsIn K mainGlobals "str" = some none) (z10 : PySem.W.nsIn K mainGlobals "tuple" = some none) (z11 : PySem.W.nsIn K mainGlobals "zip" = some none) : Blts mg := by
  show ∀ x ∈ bltNames, mg x = none
  unfold bltNames
  exact List.forall_mem_cons.mpr ⟨PySem.W.mg_none_of X G z0, List.forall_mem_cons.mpr ⟨PySem.W.mg_none_of X G z1, List.forall_mem_cons.mpr ⟨PySem.W.mg_none_of X G z2, List.forall_mem_cons.mpr ⟨PySem.W.mg_none_of X G z3, List.forall_mem_cons.mpr ⟨PySem.W.mg_none_of X G z4, List.forall_mem_cons.mpr ⟨PySem.W.mg_none_of X G z5, List.forall_mem_cons.mpr ⟨PySem.W.mg_none_of X G z6, List.forall_mem_cons.mpr ⟨PySem.W.mg_none_of X G z7, List.forall_mem_cons.mpr ⟨PySem.W.mg_none_of X G z8, List.forall_mem_cons.mpr ⟨PySem.W.mg_none_of X G z9, List.forall_mem_cons.mpr ⟨PySem.W.mg_none_of X G z10, List.forall_mem_cons.mpr ⟨PySem.W.mg_none_of X G z11, fun x hx => nomatch hx⟩⟩⟩⟩⟩⟩⟩⟩⟩⟩⟩⟩
theorem gc_COME {h : Heap} (X : K.In h) (G : h.Ns mainGlobals mg) {t : Tok} (a : PySem.W.nsIn K mainGlobals "COME" = some (some (.str "come" t))) : GlobC mg K "COME" k_COME := ⟨_, .str "come", PySem.W.mg_of X G a, ⟨t, rfl⟩, fun _ _ => rfl⟩
theorem gc_GO {h : Heap} (X : K.In h) (G : h.Ns mainGlobals mg) {t : Tok} (a : PySem.W.nsIn K mainGlobals "GO" = some (some (.str "go" t))) : GlobC mg K "GO" k_GO := ⟨_, .str "go", PySem.W.mg_of X G a, ⟨t, rfl⟩, fun _ _ => rfl⟩
theorem gc_LEAST_DANCER {h : Heap} (X : K.In h) (G : h.Ns mainGlobals mg) {t : Tok} (a : PySem.W.nsIn K mainGlobals "LEAST_DANCER" = some (some (.int 1 t))) : GlobC mg K "LEAST_DANCER" k_LEAST_DANCER := ⟨_, .int 1, PySem.W.mg_of X G a, ⟨t, rfl⟩, fun _ _ => rfl⟩
theorem gc_LEFT {h : Heap} (X : K.In h) (G : h.Ns mainGlobals mg) {t : Tok} (a : PySem.W.nsIn K mainGlobals "LEFT" = some (some (.str "left" t))) : GlobC mg K "LEFT" k_LEFT := ⟨_, .str "left", PySem.W.mg_of X G a, ⟨t, rfl⟩, fun _ _ => rfl⟩
theorem gc_MOST_DANCERS {h : Heap} (X : K.In h) (G : h.Ns mainGlobals mg) {t : Tok} (a : PySem.W.nsIn K mainGlobals "MOST_DANCERS" = some (some (.int 200 t))) : GlobC mg K "MOST_DANCERS" k_MOST_DANCERS := ⟨_, .int 200, PySem.W.mg_of X G a, ⟨t, rfl⟩, fun _ _ => rfl⟩
theorem gc_RIGHT {h : Heap} (X : K.In h) (G : h.Ns mainGlobals mg) {t : Tok} (a : PySem.W.nsIn K mainGlobals "RIGHT" = some (some (.str "right" t))) : GlobC mg K "RIGHT" k_RIGHT := ⟨_, .str "right", PySem.W.mg_of X G a, ⟨t, rfl⟩, fun _ _ => rfl⟩
theorem gc_WORDS {h : Heap} (X : K.In h) (G : h.Ns mainGlobals mg) {a : Addr} {od : Option Addr} {its : Array Value} {n : Nat} {osl : Array (Option Value)} (e : PySem.W.nsIn K mainGlobals "WORDS" = some (some (.ref a))) (l : K.lookup a = some ⟨.type "tuple", od, .seq its n, osl⟩) (z : its.size ≤ sizeLine) (v : Vals [.str "go", .str "come"] its.toList) : GlobC mg K "WORDS" k_WORDS := gc_tup (PySem.W.mg_of X G e) l z v fun _ _ => ⟨_, _, rfl, rfl, ⟨_, _, rfl, rfl, rfl⟩⟩
theorem fa_cl_Ring {h : Heap} (X : K.In h) (G : h.Ns mainGlobals mg) {C : Addr} (aC : PySem.W.nsIn K mainGlobals "Ring" = some (some (.ref C))) (pg : PySem.W.plainGet K C Str.empty = true) (hd : PySem.W.hasDictIn K C = true) (po : PySem.W.plainOver K C = true) (sa : PySem.W.findIn K (.ref C) "__setattr__" = some (some (.builtin "object.__setattr__"))) : ClsAt K "Ring" := fun C2 h2 => by
  rw [aC] at h2
  cases h2
  exact ⟨pg, hd, po, sa⟩
theorem fa_nf_Ring_stand_held {h : Heap} (X : K.In h) (G : h.Ns mainGlobals mg) {C : Addr} (aC : PySem.W.nsIn K mainGlobals "Ring" = some (some (.ref C))) (nf : PySem.W.findIn K (.ref C) "stand_held" = some none) : NoAt K "Ring" "stand_held" := fun C2 h2 => by
  rw [aC] at h2
  cases h2
  exact nf
theorem fa_nf_Ring_done_held {h : Heap} (X : K.In h) (G : h.Ns mainGlobals mg) {C : Addr} (aC : PySem.W.nsIn K mainGlobals "Ring" = some (some (.ref C))) (nf : PySem.W.findIn K (.ref C) "done_held" = some none) : NoAt K "Ring" "done_held" := fun C2 h2 => by
  rw [aC] at h2
  cases h2
  exact nf
theorem fa_nf_Ring_back_held {h : Heap} (X : K.In h) (G : h.Ns mainGlobals mg) {C : Addr} (aC : PySem.W.nsIn K mainGlobals "Ring" = some (some (.ref C))) (nf : PySem.W.findIn K (.ref C) "back_held" = some none) : NoAt K "Ring" "back_held" := fun C2 h2 => by
  rw [aC] at h2
  cases h2
  exact nf
theorem fa_r_Nothing {h : Heap} (X : K.In h) (G : h.Ns mainGlobals mg) {C : Addr} (aC : PySem.W.nsIn K mainGlobals "Nothing" = some (some (.ref C))) (ex : PySem.W.excIn K C [.type "ValueError", .type "Exception", .type "BaseException", .type "object"] "ValueError.__new__" = true) (kp : PySem.W.keepIn K (.ref C) = true) (sb : PySem.W.subIn K (.ref C) (.type "BaseException") = some true) (ty : PySem.W.typeIn K (.ref C) = some (.type "type")) : Raise0 K mg "Nothing" := ⟨C, PySem.W.mg_of X G aC, ex, kp, sb, ty⟩
theorem fa_kp_Nothing {h : Heap} (X : K.In h) (G : h.Ns mainGlobals mg) {C0 R : Addr} (aC0 : PySem.W.nsIn K mainGlobals "Nothing" = some (some (.ref C0))) (aR : PySem.W.nsIn K mainGlobals "Nothing" = some (some (.ref R))) (s1 : PySem.W.subIn K (.ref R) (.type "BaseException") = some true) (s2 : PySem.W.hasDictIn K R = true) (s3 : PySem.W.typeIn K (.ref R) = some (.type "type")) (s40 : PySem.W.subIn K (.ref C0) (.ref R) = some true) : KeepX K mg "Nothing" ["Nothing"] := keepX_of (PySem.W.mg_of X G aR) (keepF_cons aC0 (PySem.W.mg_of X G aC0) (PySem.W.exm_ref s1 s2 s3 s40) keepF_nil)
theorem fa_ow_Ring {h : Heap} (X : K.In h) (G : h.Ns mainGlobals mg) {C : Addr} (aC : PySem.W.nsIn K mainGlobals "Ring" = some (some (.ref C))) (pg : PySem.W.plainGet K C Str.empty = true) (hd : PySem.W.hasDictIn K C = true) (po : PySem.W.plainOver K C = true) (sa : PySem.W.findIn K (.ref C) "__setattr__" = some (some (.builtin "object.__setattr__"))) (xa : PySem.W.findIn K (.ref C) "__class__" = some (some (.builtin "object.__class__"))) (xn : PySem.W.specialIn K (.builtin "object.__class__") "__get__" = some (some (.builtin "getset_descriptor.__get__"))) (xt : PySem.W.takesIn K (.builtin "object.__class__") = some true) (xm : PySem.W.mroIn K C (.type "object") = some true) (xe : PySem.W.findIn K (.ref C) "__ne__" = some (some (.builtin "object.__ne__"))) (ty : PySem.W.typeIn K (.ref C) = some (.type "type")) : OwnW K mg "Ring" := ⟨C, PySem.W.mg_of X G aC, aC, ⟨⟨pg, hd, po, sa⟩, xa, xn, xt, xm, xe, ty⟩⟩
theorem all_mk {l0 : PySem.W.OpenLaw} {w : World} {h : Heap} {fa : Addr} (X : K.In h) (G : h.Ns mainGlobals mg) (hfa : mg "law" = some (.ref fa)) (hB : Blts mg) (hG : Globs mg K)
    (d__law_cells : DefAt K mg "_law_cells" s__law_cells ["_law_script", "_law_most"]) (d__law_jar : DefAt K mg "_law_jar" s__law_jar ["_law_cell", "_law_k"]) (d__law_pull : DefAt K mg "_law_pull" s__law_pull ["_law_jar_here", "_law_count"]) (d__law_ring : DefAt K mg "_law_ring" s__law_ring ["_law_size_here"]) (d__law_acts : DefAt K mg "_law_acts" s__law_acts ["_law_jar_here", "_law_size_here", "_law_most"]) (d__law_shown : DefAt K mg "_law_shown" s__law_shown ["_law_hands_here"]) (d__law_do : DefAt K mg "_law_do" s__law_do ["_law_hands_here", "_law_act"]) (d__law_any : DefAt K mg "_law_any" s__law_any ["_law_jar_here", "_law_size_here"]) (d_is_between : DefAt K mg "is_between" s_is_between ["thing", "least", "most"]) (d_is_stand : DefAt K mg "is_stand" s_is_stand ["thing"]) (d_need_stand : DefAt K mg "need_stand" s_need_stand ["stand"]) (d_copied : DefAt K mg "copied" s_copied ["stand"]) (d_need_dancers : DefAt K mg "need_dancers" s_need_dancers ["n"]) (d_whole : DefAt K mg "whole" s_whole ["n"]) (d_first_stand : DefAt K mg "first_stand" s_first_stand ["n", "stand"]) (d__law_hands : DefAt K mg "_law_hands" s__law_hands ["_law_pair"]) (d__law_begun : DefAt K mg "_law_begun" s__law_begun ["_law_jar_here", "_law_size_here"]) (d_hands_by : DefAt K mg "hands_by" s_hands_by ["stand", "deed"]) (d_with_deed : DefAt K mg "with_deed" s_with_deed ["stand", "deed"]) (d_is_deed : DefAt K mg "is_deed" s_is_deed ["thing", "most"]) (d_dancers_of : DefAt K mg "dancers_of" s_dancers_of ["stand"]) (d__law_do_all : DefAt K mg "_law_do_all" s__law_do_all ["_law_ring_here", "_law_some"]) (d__law_again_all : DefAt K mg "_law_again_all" s__law_again_all ["_law_ring_here"]) (d__law_size : DefAt K mg "_law_size" s__law_size ["_law_jar_here", "_law_script"]) (d__law_exact : DefAt K mg "_law_exact" s__law_exact ["_law_found", "_law_due"]) (d__law_all : DefAt K mg "_law_all" s__law_all ["_law_ring_here"]) (d__law_apart_right : DefAt K mg "_law_apart_right" s__law_apart_right ["_law_jar_here", "_law_ring_here", "_law_twin", "_law_size_here"]) (dI_Ring_0 : DefAtI K mg "Ring" "Ring.__init__" s_Ring____init__ ["self", "n", "stand"] [V.non] [("stand", V.non)] 1 [] 0 1) (dI_Ring_1 : DefAtI K mg "Ring" "Ring.__init__" s_Ring____init__ ["self", "n", "stand"] [V.non] [("stand", V.non)] 0 ["stand"] 1 0) (d_Ring__put : DefAtM K "Ring" "put" "Ring.put" s_Ring__put ["self", "deed"]) (d_Ring__did : DefAtM K "Ring" "did" "Ring.did" s_Ring__did ["self", "word", "dancer"]) (d_Ring__go : DefAtM K "Ring" "go" "Ring.go" s_Ring__go ["self", "x"]) (d_Ring__come : DefAtM K "Ring" "come" "Ring.come" s_Ring__come ["self", "x"]) (d_Ring__again : DefAtM K "Ring" "again" "Ring.again" s_Ring__again ["self"]) (d_Ring__stand : DefAtM K "Ring" "stand" "Ring.stand" s_Ring__stand ["self"]) (d_Ring__back : DefAtM K "Ring" "back" "Ring.back" s_Ring__back ["self"]) (d_Ring__twin : DefAtM K "Ring" "twin" "Ring.twin" s_Ring__twin ["self"]) (d_Ring____eq__ : DefAtM K "Ring" "__eq__" "Ring.__eq__" s_Ring____eq__ ["self", "other"]) (d_Ring__history : DefAtM K "Ring" "history" "Ring.history" s_Ring__history ["self"]) (d_Ring____len__ : DefAtM K "Ring" "__len__" "Ring.__len__" s_Ring____len__ ["self"]) (cl_Ring : ClsAt K "Ring") (nf_Ring_stand_held : NoAt K "Ring" "stand_held") (nf_Ring_done_held : NoAt K "Ring" "done_held") (nf_Ring_back_held : NoAt K "Ring" "back_held") (r_Nothing : Raise0 K mg "Nothing") (kp_Nothing : KeepX K mg "Nothing" ["Nothing"]) (ow_Ring : OwnW K mg "Ring")
    {f : Addr} {oc : Value} {od an : Option Addr} {osl : Array (Option Value)} {kV dc pm cd ct : Value} (a : PySem.W.nsIn K mainGlobals "law" = some (some (.ref f))) (l : K.lookup f = some ⟨oc, od, .func (PySem.W.fnOf "law" "law" (defArgs s_law) (defBody s_law) (defScope s_law) .none kV dc pm an cd ct), osl⟩) (c : PySem.W.codeIn K cd "law" = true) (k : PySem.W.keepIn K (.ref f) = true) :
    ∃ fd : FuncData, (∀ (s : Shared) (v : Value), BindsTo s fd ⟨[v], []⟩ [("_law_script", v)]) ∧ ∀ base : Heap, K.In base → base.Ns mainGlobals mg → FnG l0.prog w K mg base 8 fa fd ["_law_script"] (spN K mg 1 m_law) := by
  have e := hfa.symm.trans (PySem.W.mg_of X G a)
  cases e
  refine ⟨PySem.W.fnOf "law" "law" (defArgs s_law) (defBody s_law) (defScope s_law) .none kV dc pm an cd ct, fun s v => .of_eq rfl, fun base _ _ => ?_⟩
  have c__law_cells := ok__law_cells (P := l0.prog) (w := w) (base := base) hB hG d__law_cells 
  have c__law_jar := ok__law_jar (P := l0.prog) (w := w) (base := base) hB hG d__law_jar 
  have c__law_pull := ok__law_pull (P := l0.prog) (w := w) (base := base) hB hG d__law_pull 
  have c__law_ring := ok__law_ring (P := l0.prog) (w := w) (base := base) hB hG d__law_ring 
  have c__law_acts := ok__law_acts (P := l0.prog) (w := w) (base := base) hB hG d__law_acts c__law_pull
  have c__law_shown := ok__law_shown (P := l0.prog) (w := w) (base := base) hB hG d__law_shown 
  have c__law_do := ok__law_do (P := l0.prog) (w := w) (base := base) hB hG d__law_do 
  have c__law_any := ok__law_any (P := l0.prog) (w := w) (base := base) hB hG d__law_any c__law_pull c__law_ring c__law_acts c__law_shown c__law_do
  have c_is_between := ok_is_between (P := l0.prog) (w := w) (base := base) hB hG d_is_between 
  have c_is_stand := ok_is_stand (P := l0.prog) (w := w) (base := base) hB hG d_is_stand c_is_between
  have c_need_stand := ok_need_stand (P := l0.prog) (w := w) (base := base) hB hG d_need_stand c_is_stand
  have c_copied := ok_copied (P := l0.prog) (w := w) (base := base) hB hG d_copied 
  have c_need_dancers := ok_need_dancers (P := l0.prog) (w := w) (base := base) hB hG d_need_dancers c_is_between
  have c_whole := ok_whole (P := l0.prog) (w := w) (base := base) hB hG d_whole c_need_dancers
  have c_first_stand := ok_first_stand (P := l0.prog) (w := w) (base := base) hB hG d_first_stand c_need_stand c_copied c_whole
  have cI_Ring_0 := okI_Ring_0 (P := l0.prog) (w := w) (base := base) hB hG dI_Ring_0 c_first_stand cl_Ring nf_Ring_stand_held nf_Ring_done_held nf_Ring_back_held
  have cI_Ring_1 := okI_Ring_1 (P := l0.prog) (w := w) (base := base) hB hG dI_Ring_1 c_first_stand cl_Ring nf_Ring_stand_held nf_Ring_done_held nf_Ring_back_held
  have c__law_hands := ok__law_hands (P := l0.prog) (w := w) (base := base) hB hG d__law_hands 
  have c__law_begun := ok__law_begun (P := l0.prog) (w := w) (base := base) hB hG d__law_begun c__law_any c__law_pull c__law_hands c__law_ring cI_Ring_0 cI_Ring_1
  have c_hands_by := ok_hands_by (P := l0.prog) (w := w) (base := base) hB hG d_hands_by 
  have c_with_deed := ok_with_deed (P := l0.prog) (w := w) (base := base) hB hG d_with_deed c_copied c_hands_by
  have c_Ring__put := ok_Ring__put (P := l0.prog) (w := w) (base := base) hB hG d_Ring__put c_with_deed cl_Ring nf_Ring_done_held nf_Ring_stand_held
  have c_is_deed := ok_is_deed (P := l0.prog) (w := w) (base := base) hB hG d_is_deed c_is_between
  have c_dancers_of := ok_dancers_of (P := l0.prog) (w := w) (base := base) hB hG d_dancers_of 
  have c_Ring__did := ok_Ring__did (P := l0.prog) (w := w) (base := base) hB hG d_Ring__did c_Ring__put c_is_deed c_dancers_of cl_Ring nf_Ring_stand_held nf_Ring_back_held
  have c_Ring__go := ok_Ring__go (P := l0.prog) (w := w) (base := base) hB hG d_Ring__go c_Ring__did
  have c_Ring__come := ok_Ring__come (P := l0.prog) (w := w) (base := base) hB hG d_Ring__come c_Ring__did
  have c__law_do_all := ok__law_do_all (P := l0.prog) (w := w) (base := base) hB hG d__law_do_all c_Ring__go c_Ring__come
  have c_Ring__again := ok_Ring__again (P := l0.prog) (w := w) (base := base) hB hG d_Ring__again c_Ring__put cl_Ring nf_Ring_back_held r_Nothing
  have c_Ring__stand := ok_Ring__stand (P := l0.prog) (w := w) (base := base) hB hG d_Ring__stand c_copied cl_Ring nf_Ring_stand_held
  have c__law_again_all := ok__law_again_all (P := l0.prog) (w := w) (base := base) hB hG d__law_again_all c_Ring__again c_Ring__stand kp_Nothing
  have c__law_size := ok__law_size (P := l0.prog) (w := w) (base := base) hB hG d__law_size c__law_pull
  have c_Ring__back := ok_Ring__back (P := l0.prog) (w := w) (base := base) hB hG d_Ring__back cl_Ring nf_Ring_done_held r_Nothing nf_Ring_back_held nf_Ring_stand_held
  have c_Ring__twin := ok_Ring__twin (P := l0.prog) (w := w) (base := base) hB hG d_Ring__twin cI_Ring_1 cl_Ring nf_Ring_stand_held nf_Ring_done_held nf_Ring_back_held
  have c__law_exact := ok__law_exact (P := l0.prog) (w := w) (base := base) hB hG d__law_exact  5
  have c_Ring____eq__ := ok_Ring____eq__ (P := l0.prog) (w := w) (base := base) hB hG d_Ring____eq__ ow_Ring cl_Ring nf_Ring_stand_held
  have c_Ring__history := ok_Ring__history (P := l0.prog) (w := w) (base := base) hB hG d_Ring__history cl_Ring nf_Ring_done_held
  have c_Ring____len__ := ok_Ring____len__ (P := l0.prog) (w := w) (base := base) hB hG d_Ring____len__ cl_Ring nf_Ring_done_held
  have c__law_all := ok__law_all (P := l0.prog) (w := w) (base := base) hB hG d__law_all c_Ring__stand c_Ring__history c_Ring____len__
  have c__law_apart_right := ok__law_apart_right (P := l0.prog) (w := w) (base := base) hB hG d__law_apart_right c__law_all c__law_do_all c_Ring__come c_Ring__go c__law_exact c_Ring__back c_Ring____eq__ c__law_acts c_Ring____len__ c_Ring__stand c__law_pull ow_Ring
  exact ok_law hB hG (fun_mk l c k) c__law_cells c__law_jar c__law_begun c__law_acts c__law_do_all c__law_again_all c__law_size c__law_pull c_Ring__back c_Ring__twin c__law_exact c_Ring____eq__ c_Ring__stand c__law_apart_right c__law_all c_Ring____len__ cI_Ring_1 ow_Ring
end
end Tk

namespace Tk
open PySem PySem.Spec PyProof.Rows L2 Nv
local macro_rules | `(tactic| walk_at "sp") => `(tactic| with_unfolding_all first | (exact (by simp only [pmV_nil, List.length_cons, List.length_nil, Nat.reduceAdd, if_true, List.filterMap_cons, List.filterMap_nil, List.getElem?_cons_zero, List.getElem?_cons_succ]; rfl)) | rfl)
local macro_rules | `(tactic| walk_at "sn") => `(tactic| with_unfolding_all first | (exact (by simp only [List.set_cons_zero, List.set_cons_succ]; rfl)) | rfl)
local macro_rules | `(tactic| walk_at "sr") => `(tactic| with_unfolding_all first | (exact (by simp only [List.map_cons, List.map_nil, List.length_cons, List.length_nil, Nat.reduceAdd, Nat.reduceSub, List.reduceReplicate, List.cons_append, List.nil_append]; rfl)) | rfl)
local macro_rules | `(tactic| walk_at "sw") => `(tactic| with_unfolding_all first | (exact (by simp only [wipeS, List.set_cons_zero, List.set_cons_succ]; rfl)) | rfl)
local macro_rules | `(tactic| walk_at "sd") => `(tactic| first | assumption | decide | omega | (simp (config := { failIfUnchanged := false }) [rgD_length, rgDown_length, enumD_length, pairsLen] <;> omega))
local macro_rules | `(tactic| walk_at "lo") => `(tactic| (refine low_of ?_ ?_ <;> walk_at "sd"))
local macro_rules | `(tactic| walk_at "le") => `(tactic| (refine len_le ?_ <;> walk_at "sd"))
local macro_rules | `(tactic| walk_at "cl") => `(tactic| with_unfolding_all first | assumption | rfl | exact at_app | exact at_app0 | exact at_lo (by assumption) | exact get_set_self at_app0 | exact get_set_self at_app | exact get_set_self (by assumption) | exact get_set_self (by rfl))
local macro_rules | `(tactic| walk_at "evs") => `(tactic| with_reducible first | refine le_and (by walk_at "le") ?_ | fail)
local macro_rules | `(tactic| walk_at "evs") => `(tactic| with_reducible first | refine w_forqR ?_ | refine w_forqC ?_ | refine w_forqB ?_ | refine low_and (by walk_at "lo") ?_ | fail)
local macro_rules | `(tactic| walk_at "evs") => `(tactic| with_reducible first | refine isS_and (by with_unfolding_all rfl) ?_ | refine IsLst.len (by assumption) ?_ | refine IsLst.ix (by assumption) (by with_unfolding_all first | assumption | rfl) ?_ | refine w_forq ?_ | fail)
local macro_rules | `(tactic| walk_at "evs") => `(tactic| with_reducible first | refine le_and (by first | assumption | exact le0 | exact le1 | exact le2 | exact le3 | exact le4 | exact le5 | exact le6 | exact le7 | exact le8) ?_ | refine w_lcNil ?_ | refine w_lcCons ?_ | refine isL_and (by with_unfolding_all first | assumption | rfl) ?_ | fail)
local macro_rules | `(tactic| walk_at "evs") => `(tactic| with_reducible first | refine w_runn (by walk_at "sr") ?_ | refine w_run ?_ | refine len_and (by with_unfolding_all rfl) ?_ | refine low_and (by first | assumption | decide) ?_ | fail)
local macro_rules | `(tactic| walk_at "evs") => `(tactic| with_reducible first | refine w_max2 ?_ | refine w_min2 ?_ | refine w_intI ?_ | refine w_intB ?_ | fail)
local macro_rules | `(tactic| walk_at "evs") => `(tactic| with_reducible first | refine w_append (by walk_at "cl") (by first | assumption | exact lt0 | exact lt1 | exact lt1a) ?_ | refine w_lenL ?_ | refine w_lenT ?_ | refine w_lenC (by walk_at "cl") ?_ | fail)
local macro_rules | `(tactic| walk_at "evs") => `(tactic| with_reducible first | refine w_ixL (by with_unfolding_all first | assumption | rfl) ?_ | refine w_ixT (by with_unfolding_all first | assumption | rfl) ?_ | refine w_ixC (by walk_at "cl") (by with_unfolding_all first | assumption | rfl) ?_ | refine w_set (by walk_at "cl") (by with_unfolding_all first | assumption | rfl) ?_ | fail)
local macro_rules | `(tactic| walk_at "evs") => `(tactic| with_reducible first | refine w_mulI (by with_unfolding_all first | with_reducible assumption | (right; left; with_reducible assumption) | (left; with_reducible assumption) | (left; decide) | (right; left; decide) | assumption) ?_ | refine w_modI (by with_unfolding_all first | assumption | decide) ?_ | refine w_divI (by with_unfolding_all first | assumption | decide) (by with_unfolding_all first | assumption | decide) ?_ | refine w_powI (by with_unfolding_all decide) (by with_unfolding_all decide) (by with_unfolding_all first | assumption | decide) (by with_unfolding_all first | assumption | decide) ?_ | fail)
local macro_rules | `(tactic| walk_at "evs") => `(tactic| with_reducible first | refine w_eqS ?_ | refine w_neS ?_ | refine w_eqB ?_ | refine w_neB ?_ | fail)
local macro_rules | `(tactic| walk_at "evs") => `(tactic| with_reducible first | refine w_gtI ?_ | refine w_geI ?_ | refine w_eqI ?_ | refine w_neI ?_ | fail)
local macro_rules | `(tactic| walk_at "evs") => `(tactic| with_reducible first | refine w_subI ?_ | refine w_negI ?_ | refine w_ltI ?_ | refine w_leI ?_ | fail)
local macro_rules | `(tactic| walk_at "evs") => `(tactic| with_reducible first | refine bl_b ?_ | refine int_i ?_ | refine par_2 ?_ | refine w_addI ?_ | fail)
local macro_rules | `(tactic| walk_at "evs") => `(tactic| with_reducible first | refine lstG_l ?_ | refine lstG_c (by walk_at "cl") ?_ | refine one_1 ?_ | refine one_i ?_ | fail)
local macro_rules | `(tactic| walk_at "evs") => `(tactic| with_reducible first | refine ite_t (by with_unfolding_all first | rfl | assumption) ?_ | refine ite_f (by with_unfolding_all first | rfl | assumption) ?_ | refine w_iTp ?_ | refine tup_t ?_ | fail)
local macro_rules | `(tactic| walk_at "evs") => `(tactic| with_reducible first | refine w_isiT (by with_unfolding_all first | assumption | rfl) (by decide +kernel) ?_ | refine w_isiF (by with_unfolding_all first | assumption | rfl) (by decide +kernel) ?_ | refine w_isiLT (by with_unfolding_all first | assumption | rfl) (by decide +kernel) ?_ | refine w_isiLF (by with_unfolding_all first | assumption | rfl) (by decide +kernel) ?_ | fail)
local macro_rules | `(tactic| walk_at "evs") => `(tactic| with_reducible first | refine w_iZp ?_ | refine w_tTrue ?_ | refine w_isC (by with_unfolding_all rfl) ?_ | refine w_isNotC (by with_unfolding_all rfl) ?_ | fail)
local macro_rules | `(tactic| walk_at "evs") => `(tactic| with_reducible first | refine w_iRg1 ?_ | refine w_iRg2 ?_ | refine w_iRg3 ?_ | refine w_iEn ?_ | fail)
local macro_rules | `(tactic| walk_at "evs") => `(tactic| with_reducible first | refine w_runKn (by walk_at "sr") ?_ | refine w_runK ?_ | refine w_mLc ?_ | refine w_iLst ?_ | fail)
local macro_rules | `(tactic| walk_at "evs") => `(tactic| with_reducible first | refine w_sFor ?_ | refine w_gc ?_ | refine gc_r ?_ | refine gc_b ?_ | fail)
local macro_rules | `(tactic| walk_at "evs") => `(tactic| with_reducible first | refine w_oSome ?_ | refine w_F ?_ | refine w_FK ?_ | refine pm_i (by walk_at "sp") ?_ | fail)
local macro_rules | `(tactic| walk_at "evs") => `(tactic| with_reducible first | refine w_newF ?_ | refine w_newC ?_ | refine w_sl ?_ | refine w_oNone ?_ | fail)
local macro_rules | `(tactic| walk_at "evs") => `(tactic| with_reducible first | refine w_mt ?_ | refine w_mt0 ?_ | refine w_rep ?_ | refine w_cb ?_ | fail)
local macro_rules | `(tactic| walk_at "evs") => `(tactic| with_reducible first | refine w_aNil ?_ | refine w_aCons ?_ | refine w_lst ?_ | refine w_tup ?_ | fail)
local macro_rules | `(tactic| walk_at "evs") => `(tactic| with_reducible first | refine w_or ?_ | refine w_not ?_ | refine w_if ?_ | refine w_ch ?_ | fail)
local macro_rules | `(tactic| walk_at "evs") => `(tactic| with_reducible first | refine w_tAnd ?_ | refine w_tOr ?_ | refine w_tNot ?_ | refine w_and ?_ | fail)
local macro_rules | `(tactic| walk_at "evs") => `(tactic| with_reducible first | refine w_c ?_ | refine w_2 ?_ | refine w_1 ?_ | refine w_T ?_ | fail)
local macro_rules | `(tactic| walk_at "evs") => `(tactic| with_reducible first | refine slset_i (by walk_at "sn") ?_ | refine w_aug (by with_unfolding_all rfl) ?_ | refine w_gmSub ?_ | refine w_var (by with_unfolding_all rfl) ?_ | fail)
local macro_rules | `(tactic| walk_at "evs") => `(tactic| with_reducible first | refine w_gmTup (by with_unfolding_all rfl) ?_ | refine w_gmSqT (by with_unfolding_all rfl) ?_ | refine w_gmSqL (by with_unfolding_all rfl) ?_ | refine w_parn ?_ | fail)
local macro_rules | `(tactic| walk_at "evs") => `(tactic| with_reducible first | refine w_gmNn (by walk_at "sn") ?_ | refine w_gmN ?_ | refine w_gmNil ?_ | refine w_gmCons ?_ | fail)
local macro_rules | `(tactic| walk_at "evs") => `(tactic| with_reducible first | refine w_drop ?_ | refine w_ret ?_ | refine w_retN ?_ | refine w_asg ?_ | fail)
local macro_rules | `(tactic| walk_at "evs") => `(tactic| with_reducible first | refine w_thenC ?_ | refine w_nil ?_ | refine w_bk ?_ | refine w_ct ?_ | fail)
local macro_rules | `(tactic| walk_at "evs") => `(tactic| with_reducible first | refine w_seq ?_ | refine w_then ?_ | refine w_thenR ?_ | refine w_thenB ?_ | fail)
local macro_rules | `(tactic| walk_at "ev") => `(tactic| first | with_reducible refine w_sif ?_ | walk_at "evs" | fail)
local macro_rules | `(tactic| walk_at "evp") => `(tactic| first | exact ⟨rfl, rfl⟩ | walk_at "ev" | fail)
local macro_rules | `(tactic| walk_at "evp") => `(tactic| first | with_reducible apply w_andV | with_reducible apply w_orV | with_reducible apply w_tAndV | with_reducible apply w_tOrV | fail)
local macro_rules | `(tactic| walk_at "evq") => `(tactic| first | exact ⟨rfl, rfl⟩ | walk_at "evs" | fail)
local macro_rules | `(tactic| walk_at "evq") => `(tactic| first | with_reducible apply w_andV | with_reducible apply w_orV | with_reducible apply w_tAndV | with_reducible apply w_tOrV | fail)

abbrev iL (l : List Int) : Cell := .lst (l.map D.int)
@[simp] theorem closed_iL (n : Nat) (l : List Int) : closedC n (iL l) = true := closedDs_ints n l
@[simp] theorem closed_iL' (n : Nat) (l : List Int) : closedC n (.lst (l.map D.int)) = true := closedDs_ints n l
structure Vs (rs ls : List Int) : Prop where
  len : ls.length = rs.length
  two : 2 ≤ rs.length
  top : rs.length ≤ 202
  r : ∀ (i : Nat) (x : Int), rs[i]? = some x → i + 1 ≤ x ∧ x ≤ rs.length
  l : ∀ (i : Nat) (x : Int), ls[i]? = some x → 0 ≤ x ∧ x ≤ i
theorem get_ex {A : Type} {l : List A} {i : Nat} (h : i < l.length) : ∃ x, l[i]? = some x := ⟨l[i], List.getElem?_eq_getElem h⟩
theorem getD_of {l : List Int} {i : Nat} {x : Int} (h : l[i]? = some x) : l.getD i 0 = x := by rw [List.getD_eq_getElem?_getD, h]; rfl
theorem Vs.setR {rs ls : List Int} {i : Nat} {x : Int} (h : Vs rs ls) (h1 : i + 1 ≤ x) (h2 : x ≤ rs.length) : Vs (rs.set i x) ls := by
  refine ⟨by simp [h.len], by simpa using h.two, by simpa using h.top, fun j y hj => ?_, h.l⟩
  rw [List.getElem?_set] at hj
  rw [List.length_set]
  split at hj
  · rename_i e
    subst e
    split at hj
    · cases hj
      exact ⟨h1, h2⟩
    · cases hj
  · exact h.r j y hj
theorem Vs.setL {rs ls : List Int} {i : Nat} {x : Int} (h : Vs rs ls) (h1 : 0 ≤ x) (h2 : x ≤ i) : Vs rs (ls.set i x) := by
  refine ⟨by simp [h.len], h.two, h.top, h.r, fun j y hj => ?_⟩
  rw [List.getElem?_set] at hj
  split at hj
  · rename_i e
    subst e
    split at hj
    · cases hj
      exact ⟨h1, h2⟩
    · cases hj
  · exact h.l j y hj
theorem Vs.sm1 {rs ls : List Int} (v : Vs rs ls) : ∀ x ∈ rs, smI x := fun x hx => by
  obtain ⟨i, hi, e⟩ := List.getElem_of_mem hx
  have h1 := v.r i x (by rw [List.getElem?_eq_getElem hi, e])
  have := v.top
  exact ⟨by omega, by omega⟩
theorem Vs.sm2 {rs ls : List Int} (v : Vs rs ls) : ∀ x ∈ ls, smI x := fun x hx => by
  obtain ⟨i, hi, e⟩ := List.getElem_of_mem hx
  have h1 := v.l i x (by rw [List.getElem?_eq_getElem hi, e])
  have := v.top
  have := v.len
  exact ⟨by omega, by omega⟩
/-- whom i holds by the right hand, whom by the left (of i + 1) -/
theorem Vs.rx {rs ls : List Int} (v : Vs rs ls) {i : Int} (h0 : 0 ≤ i) (h1 : i < rs.length) : ∃ x, rs[i.toNat]? = some x ∧ atI (rs.map D.int) i = some (.int x) ∧ i + 1 ≤ x ∧ x ≤ rs.length ∧ rs.getD i.toNat 0 = x := by
  obtain ⟨x, hx⟩ := get_ex (l := rs) (i := i.toNat) (by omega)
  have := v.r _ _ hx
  exact ⟨x, hx, atI_map h0 hx, by omega, by omega, getD_of hx⟩
theorem Vs.lx {rs ls : List Int} (v : Vs rs ls) {i : Int} (h0 : 0 ≤ i) (h1 : i < rs.length) : ∃ x, ls[i.toNat]? = some x ∧ atI (ls.map D.int) i = some (.int x) ∧ 0 ≤ x ∧ x ≤ i ∧ ls.getD i.toNat 0 = x := by
  have hl := v.len
  obtain ⟨x, hx⟩ := get_ex (l := ls) (i := i.toNat) (by omega)
  have := v.l _ _ hx
  exact ⟨x, hx, atI_map h0 hx, by omega, by omega, getD_of hx⟩
abbrev sD (rs ls : List Int) : D := .tup [.lst (rs.map D.int), .lst (ls.map D.int)]
/-- a stand, of lists or cells -/
def IsSt (C : Store) (x : D) (rs ls : List Int) : Prop := ∃ a b, x = .tup [a, b] ∧ IsLst C a (rs.map D.int) ∧ IsLst C b (ls.map D.int)
theorem IsSt.f {C : Store} (rs ls : List Int) : IsSt C (sD rs ls) rs ls := ⟨_, _, rfl, .f _, .f _⟩
theorem IsSt.c {C : Store} {i j : Nat} {rs ls : List Int} (h1 : C[i]? = some (iL rs)) (h2 : C[j]? = some (iL ls)) : IsSt C (.tup [.cell i, .cell j]) rs ls := ⟨_, _, rfl, .c _ _ h1, .c _ _ h2⟩
theorem IsSt.app {C X : Store} {x : D} {rs ls : List Int} (h : IsSt C x rs ls) : IsSt (C ++ X) x rs ls := by
  obtain ⟨a, b, e, h1, h2⟩ := h
  exact ⟨a, b, e, h1.app, h2.app⟩
theorem Shw.stand {rs ls : List Int} (v : Vs rs ls) : Shw (sD rs ls) 17000 2 (.tuple [.list (rs.map PyData.int), .list (ls.map PyData.int)]) := by
  have h := Shw.tup2 (Shw.ints v.sm1) (Shw.ints v.sm2)
  have h1 := v.top
  have h2 := v.len
  exact ⟨h.to, h.sh, h.la, h.de, Nat.le_trans h.we (by omega), h.si⟩
theorem Alk.stand {C : Store} {n : Nat} {x y : D} {rs ls : List Int} (v : Vs rs ls) (hx : IsSt C x rs ls) (hy : IsSt C y rs ls) : Alk C (n + 3) x y := by
  obtain ⟨a, b, rfl, h1, h2⟩ := hx
  obtain ⟨a', b', rfl, h3, h4⟩ := hy
  have t1 := v.top
  have t2 := v.len
  exact Alk.tup2 (Alk.ints h1 h3 (by omega)) (Alk.ints h2 h4 (by omega))
/-- the whole ring -/
def whR (n : Nat) : List Int := (List.range (n + 1)).map fun i : Nat => 1 + (i : Int)
def whL (n : Nat) : List Int := (List.range (n + 1)).map fun i : Nat => (i : Int)
theorem whR_get {n i : Nat} (h : i < n + 1) : (whR n)[i]? = some (1 + (i : Int)) := by simp [whR, h]
theorem whL_get {n i : Nat} (h : i < n + 1) : (whL n)[i]? = some (i : Int) := by simp [whL, h]
theorem whR_len (n : Nat) : (whR n).length = n + 1 := by simp [whR]
theorem whL_len (n : Nat) : (whL n).length = n + 1 := by simp [whL]
theorem wh_vs {n : Nat} (h1 : 1 ≤ n) (h2 : n ≤ 201) : Vs (whR n) (whL n) := by
  refine ⟨by rw [whR_len, whL_len], by rw [whR_len]; omega, by rw [whR_len]; omega, fun i x h => ?_, fun i x h => ?_⟩
  · have hi := (List.getElem?_eq_some_iff.mp h).1
    rw [whR_len] at hi ⊢
    rw [whR_get hi] at h
    cases h
    omega
  · have hi := (List.getElem?_eq_some_iff.mp h).1
    rw [whL_len] at hi
    rw [whL_get hi] at h
    cases h
    omega
theorem rg_whR (n : Nat) : rangeD 1 (n + 2 : Int) = (whR n).map D.int := by
  unfold rangeD whR
  rw [show ((n : Int) + 2 - 1).toNat = n + 1 from by omega]
  simp
theorem rg_whL (n : Nat) : rangeD 0 (n + 1 : Int) = (whL n).map D.int := by
  unfold rangeD whL
  rw [show ((n : Int) + 1 - 0).toNat = n + 1 from by omega]
  simp


/-- a jar -/
def Jr (c : Cell) : Prop := ∃ a b k : Int, c = .lst [.int a, .int b, .int k] ∧ 0 ≤ b ∧ b < 10 ^ 120
theorem Jr.closed {c : Cell} (h : Jr c) (n : Nat) : closedC n c = true := by
  obtain ⟨a, b, k, rfl, _⟩ := h
  rfl
section
variable {C G X : Store} {k : Nat} {n : Int} {S : Cell} {QD : D → Store → Prop}
theorem pull_ok (hC : C[k]? = some S) (h : Jr S) (h0 : 0 < n) (h1 : n ≤ 10 ^ 60) (q : ∀ (r : Int) (S' : Cell), 0 ≤ r → r < n → Jr S' → QD (.int r) (C.set k S')) : W (m__law_pull [.cell k, .int n] C) QD := by
  obtain ⟨a, b, c, rfl, hb, hb2⟩ := h
  unfold m__law_pull
  repeat' walk_at "ev"
  by_cases ha0 : 0 < a
  · refine ite_t (by simpa using ha0) ?_
    repeat' walk_at "ev"
    exact fin_set1 rfl rfl rfl (q _ _ (Int.emod_nonneg _ (by omega)) (Int.emod_lt_of_pos _ h0) ⟨_, _, _, rfl, hb, hb2⟩)
  · refine ite_f (by simpa using ha0) ?_
    have hk : (C.set k (.lst [.int a, .int b, .int (c + 1)]))[k]? = some (.lst [.int a, .int b, .int (c + 1)]) := get_set_self hC
    have p1 : -powLine < b := by unfold powLine; omega
    have p2 : b < powLine := by unfold powLine; omega
    have g0 := Int.emod_nonneg (b ^ Int.toNat 3 + 362880007 * (c + 1) + 5) (b := 10 ^ Int.toNat 33 + 61) (by decide)
    have g1 := Int.emod_lt_of_pos (b ^ Int.toNat 3 + 362880007 * (c + 1) + 5) (b := 10 ^ Int.toNat 33 + 61) (by decide)
    repeat' walk_at "ev"
    generalize (b ^ Int.toNat 3 + 362880007 * (c + 1) + 5) % (10 ^ Int.toNat 33 + 61) = G at g0 g1 ⊢
    rw [show Int.toNat 33 = 33 from rfl] at g1
    have hk2 : ((C.set k (.lst [.int a, .int b, .int (c + 1)])).set k (.lst [.int a, .int G, .int (c + 1)]))[k]? = some (.lst [.int a, .int G, .int (c + 1)]) := get_set_self hk
    repeat' walk_at "ev"
    rw [List.set_set]
    exact fin_set1 rfl rfl rfl (q _ _ (Int.emod_nonneg _ (by omega)) (Int.emod_lt_of_pos _ h0) ⟨_, _, _, rfl, g0, by omega⟩)
theorem pull_c (h : Jr S) (h0 : 0 < n) (h1 : n ≤ 10 ^ 60) (q : ∀ (r : Int) (S' : Cell), 0 ≤ r → r < n → Jr S' → QD (.int r) ((S' :: G) ++ X)) : W (m__law_pull [.cell 0, .int n] ((S :: G) ++ X)) QD :=
  pull_ok (C := (S :: G) ++ X) (S := S) rfl h h0 h1 fun r S' r0 r1 hS' => q r S' r0 r1 hS'
theorem pull_c0 (h : Jr S) (h0 : 0 < n) (h1 : n ≤ 10 ^ 60) (q : ∀ (r : Int) (S' : Cell), 0 ≤ r → r < n → Jr S' → QD (.int r) (S' :: G)) : W (m__law_pull [.cell 0, .int n] (S :: G)) QD :=
  pull_ok (C := S :: G) (S := S) rfl h h0 h1 fun r S' r0 r1 hS' => q r S' r0 r1 hS'
theorem jar_ok {cell j : Int} (h0 : 0 ≤ j) (h1 : j ≤ 100) (q : ∀ S', Jr S' → QD (.cell C.length) (C ++ [S'])) : W (m__law_jar [.int cell, .int j] C) QD := by
  have g0 := Int.emod_nonneg cell (b := 10 ^ Int.toNat 38 + 133) (by decide)
  have g1 := Int.emod_lt_of_pos cell (b := 10 ^ Int.toNat 38 + 133) (by decide)
  have p1 : -powLine < cell % (10 ^ Int.toNat 38 + 133) := by unfold powLine; omega
  have p2 : cell % (10 ^ Int.toNat 38 + 133) < powLine := by
    rw [show Int.toNat 38 = 38 from rfl] at g1 ⊢
    unfold powLine
    omega
  unfold m__law_jar
  repeat' walk_at "ev"
  rw [show Int.toNat 38 = 38 from rfl] at g0 g1 ⊢
  generalize cell % (10 ^ 38 + 133) = G at g0 g1 ⊢
  rw [show Int.toNat 3 = 3 from rfl]
  have c1 : 0 ≤ G ^ 3 := by
    rw [show G ^ 3 = G * G * G from by rw [Int.pow_succ, Int.pow_succ, Int.pow_succ, Int.pow_zero, Int.one_mul]]
    exact Int.mul_nonneg (Int.mul_nonneg g0 g0) g0
  have c2 : G ^ 3 ≤ 10 ^ 39 * 10 ^ 39 * 10 ^ 39 := by
    rw [show G ^ 3 = G * G * G from by rw [Int.pow_succ, Int.pow_succ, Int.pow_succ, Int.pow_zero, Int.one_mul]]
    have k1 : G ≤ 10 ^ 39 := by omega
    exact Int.mul_le_mul (Int.mul_le_mul k1 k1 g0 (by decide)) k1 g0 (by decide)
  generalize G ^ 3 = T at c1 c2 ⊢
  exact W.of (fin_cell0 rfl) (q _ ⟨_, _, _, rfl, by omega, by omega⟩)
/-- how many dancers -/
theorem size_ok {ns : List Int} (h : Jr S) (hG : ClS G) (q : ∀ (r : Int) (S' : Cell), 1 ≤ r → r ≤ 200 → (ns = [] → r ≤ 3) → Jr S' → QD (.int r) (S' :: G)) : W (m__law_size [.cell 0, .lst (ns.map D.int)] (S :: G)) QD := by
  have hfin : ∀ (r : Int) (S' : Cell), Jr S' → QD (.int r) (S' :: G) → W (fin (S :: G) (.int r) (S' :: G)) QD := fun r S' hS' q => fin_closed10 rfl (ClS.cons (hS'.closed 0) hG) rfl q
  unfold m__law_size
  repeat' walk_at "ev"
  refine w_eqLI (m := []) ?_
  repeat' walk_at "ev"
  by_cases hn : ns = []
  · refine ite_t (decide_eq_true hn) ?_
    repeat' walk_at "ev"
    refine pull_c0 h (by decide) (by decide) fun r S' r0 r1 hS' => ?_
    repeat' walk_at "ev"
    exact hfin _ _ hS' (q _ _ (by omega) (by omega) (fun _ => by omega) hS')
  · refine ite_f (decide_eq_false hn) ?_
    repeat' walk_at "ev"
    refine pull_c0 h (by decide) (by decide) fun r1 S1 a1 b1 hS1 => ?_
    repeat' walk_at "ev"
    refine pull_c0 hS1 (by decide) (by decide) fun r2 S2 a2 b2 hS2 => ?_
    repeat' walk_at "ev"
    refine pull_c0 hS2 (by decide) (by decide) fun r3 S3 a3 b3 hS3 => ?_
    repeat' walk_at "ev"
    refine pull_c0 hS3 (by decide) (by decide) fun r4 S4 a4 b4 hS4 => ?_
    repeat' walk_at "ev"
    refine pull_c0 hS4 (by decide) (by decide) fun r5 S5 a5 b5 hS5 => ?_
    obtain ⟨x, hx, x0, x1⟩ : ∃ x : Int, atI [D.int 1, D.int (1 + r1), D.int (1 + r2), D.int (200 - r3), D.int (41 + r4)] r5 = some (.int x) ∧ 1 ≤ x ∧ x ≤ 200 := by
      have : r5 = 0 ∨ r5 = 1 ∨ r5 = 2 ∨ r5 = 3 ∨ r5 = 4 := by omega
      rcases this with rfl | rfl | rfl | rfl | rfl
      · exact ⟨_, rfl, by omega, by omega⟩
      · exact ⟨_, rfl, by omega, by omega⟩
      · exact ⟨_, rfl, by omega, by omega⟩
      · exact ⟨_, rfl, by omega, by omega⟩
      · exact ⟨_, rfl, by omega, by omega⟩
    repeat' walk_at "ev"
    exact hfin _ _ hS5 (q _ _ x0 x1 (fun z => absurd z hn) hS5)
end


section
variable {rs ls : List Int} {C : Store} {QD : D → Store → Prop} {x : D}
theorem between_ok {x a b : Int} (q : QD (.bl (decide (a ≤ x ∧ x ≤ b))) C) : W (m_is_between [.int x, .int a, .int b] C) QD := by
  unfold m_is_between
  repeat' walk_at "ev"
  refine w_ite (fun e => ?_) (fun e => ?_)
  · repeat' walk_at "ev"
    refine fin_same rfl rfl ?_
    rw [show decide (a ≤ x ∧ x ≤ b) = decide (x ≤ b) from by have := of_decide_eq_true e; simp [this]] at q
    exact q
  · repeat' walk_at "ev"
    refine fin_same rfl rfl ?_
    rw [show decide (a ≤ x ∧ x ≤ b) = false from by have := of_decide_eq_false e; simp [this]] at q
    exact q
theorem stand_ok (hx : IsSt C x rs ls) (v : Vs rs ls) (q : QD (.bl true) C) : W (m_is_stand [x] C) QD := by
  obtain ⟨a, b, rfl, ha, hb⟩ := hx
  have ta := ha.ty
  have tb := hb.ty
  have h2 := v.two
  have h3 := v.top
  have h4 := v.len
  unfold m_is_stand
  repeat' walk_at "ev"
  refine w_all (bs := [true, true]) ?_
  repeat' walk_at "ev"
  refine ite_f (by simp; omega) ?_
  repeat' walk_at "ev"
  refine ite_f (by simp; omega) ?_
  repeat' walk_at "ev"
  refine w_lcTrue (fun i d hd => ?_) ?_
  · obtain ⟨h, rfl⟩ := rgD_get hd
    obtain ⟨x, hx, a1, b1, b2, _⟩ := v.rx (i := i) (by omega) (by simpa using h)
    repeat' walk_at "ev"
    refine between_ok ⟨?_, rfl⟩
    simp
    omega
  repeat' walk_at "ev"
  refine w_all ?_
  rw [all_true]
  repeat' walk_at "ev"
  refine w_lcTrue (fun i d hd => ?_) ?_
  · obtain ⟨h, rfl⟩ := rgD_get hd
    obtain ⟨x, hx, a1, b1, b2, _⟩ := v.lx (i := i) (by omega) (by simpa using h)
    repeat' walk_at "ev"
    refine between_ok ⟨?_, rfl⟩
    simp
    omega
  repeat' walk_at "ev"
  refine w_all ?_
  rw [all_true]
  exact fin_same rfl rfl q
theorem need_ok (hx : IsSt C x rs ls) (v : Vs rs ls) (q : QD .non C) : W (m_need_stand [x] C) QD := by
  unfold m_need_stand
  repeat' walk_at "ev"
  refine stand_ok hx v ?_
  repeat' walk_at "ev"
  exact fin_same rfl rfl q
end


section
variable {rs ls : List Int} {C : Store} {QD : D → Store → Prop} {x : D}
end


section
variable {rs ls : List Int} {C : Store} {QD : D → Store → Prop} {x : D}
end


abbrev Dd := Str × Int
abbrev dD (e : Dd) : D := .tup [.str e.1, .int e.2]
def OkD (n : Int) (e : Dd) : Prop := (e.1 = "go" ∨ e.1 = "come") ∧ 1 ≤ e.2 ∧ e.2 ≤ n
def OkH (n : Int) (h : List Dd) : Prop := ∀ e ∈ h, OkD n e
/-- a deed, done to both lists -/
def doR (p : List Int × List Int) (e : Dd) : Int := p.1.getD e.2.toNat 0
def doL (p : List Int × List Int) (e : Dd) : Int := p.2.getD (e.2 - 1).toNat 0
def step (p : List Int × List Int) (e : Dd) : List Int × List Int :=
  (p.1.set (doL p e).toNat (if e.1 = "go" then doR p e else e.2), p.2.set (doR p e - 1).toNat (if e.1 = "go" then doL p e else e.2))
def run (p : List Int × List Int) (h : List Dd) : List Int × List Int := h.foldl step p
theorem step_vs {rs ls : List Int} {n : Int} {e : Dd} (v : Vs rs ls) (hn : n = rs.length - 1) (he : OkD n e) : Vs (step (rs, ls) e).1 (step (rs, ls) e).2 ∧ (step (rs, ls) e).1.length = rs.length := by
  obtain ⟨h0, h1, h2⟩ := he
  obtain ⟨r, hr, _, r1, r2, er⟩ := v.rx (i := e.2) (by omega) (by omega)
  obtain ⟨l, hl, _, l1, l2, el⟩ := v.lx (i := e.2 - 1) (by omega) (by omega)
  have e1 : doR (rs, ls) e = r := er
  have e2 : doL (rs, ls) e = l := el
  unfold step
  rw [e1, e2]
  refine ⟨(v.setR ?_ ?_).setL ?_ ?_, by simp⟩
  all_goals split <;> omega
theorem run_vs {n : Int} : ∀ {h : List Dd} {rs ls : List Int}, Vs rs ls → n = rs.length - 1 → OkH n h → Vs (run (rs, ls) h).1 (run (rs, ls) h).2 ∧ (run (rs, ls) h).1.length = rs.length
  | [], _, _, v, _, _ => ⟨v, rfl⟩
  | e :: h, rs, ls, v, hn, hh => by
    obtain ⟨v1, l1⟩ := step_vs v hn (hh e List.mem_cons_self)
    obtain ⟨v2, l2⟩ := run_vs (h := h) v1 (by rw [l1]; exact hn) fun x hx => hh x (List.mem_cons_of_mem _ hx)
    exact ⟨v2, l2.trans l1⟩
theorem OkH.take {n : Int} {h : List Dd} (k : Nat) (hh : OkH n h) : OkH n (h.take k) := fun e he => hh e (List.mem_of_mem_take he)
theorem OkH.drop {n : Int} {h : List Dd} (k : Nat) (hh : OkH n h) : OkH n (h.drop k) := fun e he => hh e (List.mem_of_mem_drop he)
theorem OkH.app {n : Int} {h k : List Dd} (hh : OkH n h) (hk : OkH n k) : OkH n (h ++ k) := fun e he => (List.mem_append.mp he).elim (hh e) (hk e)
theorem OkH.one {n : Int} {e : Dd} (h : OkD n e) : OkH n [e] := fun x hx => by cases List.mem_singleton.mp hx; exact h
theorem OkH.nil {n : Int} : OkH n [] := fun x hx => nomatch hx
section
variable {rs ls : List Int} {C : Store} {QD : D → Store → Prop} {x y : D} {h : List Dd} {e : Dd} {n : Int}
theorem isdeed_ok (he : OkD n e) (q : QD (.bl true) C) : W (m_is_deed [dD e, .int n] C) QD := by
  obtain ⟨k, d⟩ := e
  obtain ⟨h0, h1, h2⟩ := he
  unfold m_is_deed
  repeat' walk_at "ev"
  refine w_inT (l := ["go", "come"]) ?_
  rw [show (if true = true then !((["go", "come"] : List Str).any fun y => y == k) else (["go", "come"] : List Str).any fun y => y == k) = false from by
    rcases h0 with h0 | h0 <;> rw [show k = _ from h0] <;> decide +kernel]
  repeat' walk_at "ev"
  refine between_ok ?_
  rw [show decide (1 ≤ d ∧ d ≤ n) = true from decide_eq_true ⟨h1, h2⟩]
  exact fin_same rfl rfl q
theorem copied_ok (hx : IsSt C x rs ls) (q : QD (.tup [.cell C.length, .cell (C.length + 1)]) (C ++ [iL rs, iL ls])) : W (m_copied [x] C) QD := by
  obtain ⟨a, b, rfl, ha, hb⟩ := hx
  unfold m_copied
  repeat' walk_at "ev"
  refine ha.list ?_
  repeat' walk_at "ev"
  refine hb.app.list ?_
  repeat' walk_at "ev"
  rw [List.append_assoc, List.length_append]
  exact fin_two0 (j := 0) (k := 1) rfl rfl (by decide) (closed_iL _ _) (closed_iL _ _) q
theorem dancers_ok (hx : IsSt C x rs ls) (q : QD (.int ((rs.length : Int) - 1)) C) : W (m_dancers_of [x] C) QD := by
  obtain ⟨a, b, rfl, ha, hb⟩ := hx
  unfold m_dancers_of
  repeat' walk_at "ev"
  rw [List.length_map]
  exact fin_same rfl rfl q
theorem handsby_ok (hx : IsSt C x rs ls) (v : Vs rs ls) (hn : n = rs.length - 1) (he : OkD n e)
    (q : QD (.cell C.length) (C ++ [.lst [.tup [.str "right", .int (doL (rs, ls) e), .int (doL (rs, ls) e), .int (if e.1 = "go" then doR (rs, ls) e else e.2)], .tup [.str "left", .int (doR (rs, ls) e), .int (doR (rs, ls) e - 1), .int (if e.1 = "go" then doL (rs, ls) e else e.2)]]])) :
    W (m_hands_by [x, dD e] C) QD := by
  obtain ⟨a, b, rfl, ha, hb⟩ := hx
  obtain ⟨k, d⟩ := e
  obtain ⟨h0, h1, h2⟩ := he
  simp only at h1 h2
  obtain ⟨r, hr, a1, r1, r2, er⟩ := v.rx (i := d) (by omega) (by omega)
  obtain ⟨l, hl, a2, l1, l2, el⟩ := v.lx (i := d - 1) (by omega) (by omega)
  have e1 : doR (rs, ls) (k, d) = r := er
  have e2 : doL (rs, ls) (k, d) = l := el
  rw [e1, e2] at q
  unfold m_hands_by
  repeat' walk_at "ev"
  by_cases hk : k = "go"
  · simp only [if_pos hk] at q
    refine ite_t (decide_eq_true hk) ?_
    repeat' walk_at "ev"
    exact W.of (fin_cell0 rfl) q
  · simp only [if_neg hk] at q
    refine ite_f (decide_eq_false hk) ?_
    repeat' walk_at "ev"
    exact W.of (fin_cell0 rfl) q
theorem ixN_in {m : Nat} {i : Int} (h0 : 0 ≤ i) (h : i < m) : ixN m i = some i.toNat := ixN_int h0 h
end


theorem Shw.word {w : Str} (h : w = "go" ∨ w = "come") : Shw (.str w) 4 0 (.str w) := by
  refine ⟨fun _ => rfl, rfl, ?_, Nat.le_refl _, ?_, rfl⟩
  · show PyData.strOk w = true
    rcases h with rfl | rfl <;> decide +kernel
  · show w.cps.size ≤ 4
    rcases h with rfl | rfl <;> decide +kernel
theorem Shw.deed {n : Int} {e : Dd} (h : OkD n e) (hn : n ≤ 1000000) : Shw (dD e) 47 1 (.tuple [.str e.1, .int e.2]) := by
  obtain ⟨h0, h1, h2⟩ := h
  exact Shw.tup2 (Shw.word h0) (Shw.int ⟨by omega, by omega⟩)
theorem Shw.deeds {n : Int} {l : List Dd} (h : OkH n l) (hn : n ≤ 1000000) : Shw (.lst (l.map dD)) (48 * l.length) 2 (.list (l.map fun e => .tuple [.str e.1, .int e.2])) :=
  Shw.map (fun _ _ => rfl) fun e he => Shw.deed (h e he) hn


theorem pick2 {r : Int} (h0 : 0 ≤ r) (h1 : r < 2) : ∃ x : Str, atI [D.str "go", D.str "come"] r = some (.str x) ∧ (x = "go" ∨ x = "come") := by
  have : r = 0 ∨ r = 1 := by omega
  rcases this with rfl | rfl <;> exact ⟨_, rfl, by first | exact .inl rfl | exact .inr rfl⟩
theorem run_snoc (p : List Int × List Int) (h : List Dd) (e : Dd) : run p (h ++ [e]) = step (run p h) e := by unfold run; rw [List.foldl_append]; rfl
theorem run_take {p : List Int × List Int} {h : List Dd} {i : Nat} {e : Dd} (he : h[i]? = some e) : run p (h.take (i + 1)) = step (run p (h.take i)) e := by
  rw [List.take_succ, he]
  exact run_snoc p _ e
theorem dD_closed (l : List Dd) : closedC 0 (.lst (l.map dD)) = true := closedDs_map (fun _ => rfl) l
theorem sD_closed (rs ls : List Int) : closedD 0 (sD rs ls) = true := by show (closedDs 0 _ && (closedDs 0 _ && true)) = true; rw [closedDs_ints, closedDs_ints]; rfl
abbrev pD (e : Dd) : PyData := .tuple [.str e.1, .int e.2]
theorem toPs0_deeds : ∀ l : List Dd, toPs0 (l.map dD) = some (l.map pD)
  | [] => rfl
  | x :: l => by
    show (match toP0 (dD x), toPs0 (l.map dD) with
      | some p, some ps => some (p :: ps)
      | _, _ => none) = _
    rw [toPs0_deeds l]
    rfl
theorem toP_cell {C : Store} {k : Nat} {ds : List D} {ps : List PyData} (h : C[k]? = some (.lst ds)) (e : toPs0 ds = some ps) : toP C (.cell k) = some (.list ps) := by
  show (lstAt C k).bind (fun ds => (toPs0 ds).map PyData.list) = _
  rw [lstAt_lst h, Option.bind_some, e]
  rfl
theorem w_neDeeds {C : Store} {QD : D → Store → Prop} {n : Int} {k : Nat} {h : List Dd} (hk : C[k]? = some (.lst (h.map dD))) (hh : OkH n h) (hn : n ≤ 1000000) (q : QD (.bl (!decide (h = []))) C) : W (gNe (.cell k) (.lst []) C) QD := by
  have hs := Shw.deeds hh hn
  refine w_neP (p := .list (h.map pD)) (q := .list []) (toP_cell hk (toPs0_deeds h)) rfl ?_ rfl (fun a e => by cases e) ?_
  · show (PyData.canLay0 _ && decide (PyData.depth _ ≤ 64)) = true
    rw [hs.la, decide_eq_true (Nat.le_trans hs.de (by decide))]
    rfl
  · cases h with
    | nil => exact q
    | cons e h => exact q


/-! hands in a dict, by side and dancer -/
abbrev kR (i : Int) : List Key := [.inr "right", .inl i]
abbrev kL (i : Int) : List Key := [.inr "left", .inl i]
theorem kR_inj {i j : Int} : kR i = kR j ↔ i = j := by simp [kR]
theorem kL_inj {i j : Int} : kL i = kL j ↔ i = j := by simp [kL]
theorem rl_str : ¬ (("right" : Str) = "left") := by decide +kernel
theorem kRL {i j : Int} : ¬ kR i = kL j := fun h => by
  have := (List.cons.inj h).1
  exact rl_str (Sum.inr.inj this)
theorem kLR {i j : Int} : ¬ kL i = kR j := fun h => kRL h.symm
section
variable {κ : Type} [DecidableEq κ]
theorem valD_put (k k' : κ) (d : D) : ∀ kvs : List (κ × D), valD (putD kvs k d) k' = if k' = k then some d else valD kvs k' := by
  intro kvs
  have hmap : ∀ kvs : List (κ × D), valD (kvs.map fun kv => if kv.1 = k then (kv.1, d) else kv) k' = if k' = k then (if (kvs.any fun kv => decide (kv.1 = k)) = true then some d else none) else valD kvs k' := by
    intro kvs
    induction kvs with
    | nil => unfold valD; split <;> rfl
    | cons kv kvs ih =>
      unfold valD at ih ⊢
      rw [List.map_cons, List.find?_cons, List.find?_cons, List.any_cons]
      by_cases h1 : kv.1 = k
      · rw [if_pos h1]
        by_cases h2 : k' = k
        · subst h2
          simp [h1]
        · have h3 : ¬ kv.1 = k' := fun z => h2 (z ▸ h1)
          simp only [decide_eq_false h3, if_neg h2] at ih ⊢
          exact ih
      · rw [if_neg h1]
        by_cases h2 : kv.1 = k'
        · have h3 : ¬ k' = k := fun z => h1 (h2.trans z)
          rw [if_neg h3]
          simp [h2]
        · simp only [decide_eq_false h2, decide_eq_false h1, Bool.false_or] at ih ⊢
          exact ih
  unfold putD
  split
  · rename_i h
    rw [hmap, h]
    rfl
  · rename_i h
    have hn : ∀ kvs : List (κ × D), valD (kvs ++ [(k, d)]) k' = (valD kvs k').or (if k = k' then some d else none) := by
      intro kvs
      unfold valD
      rw [List.find?_append]
      cases kvs.find? fun kv => decide (kv.1 = k') with
      | none =>
        by_cases hk : k = k'
        · simp [hk]
        · simp [hk]
      | some x => rfl
    rw [hn]
    by_cases hk : k' = k
    · subst hk
      rw [if_pos rfl, if_pos rfl]
      have : valD kvs k' = none := by
        unfold valD
        rw [Option.map_eq_none_iff, List.find?_eq_none]
        intro x hx hd
        exact h (List.any_eq_true.mpr ⟨x, hx, hd⟩)
      rw [this]
      rfl
    · rw [if_neg hk, if_neg (Ne.symm hk)]
      cases valD kvs k' <;> rfl
theorem put_len (k : κ) (d : D) (kvs : List (κ × D)) : (putD kvs k d).length = if valD kvs k = none then kvs.length + 1 else kvs.length := by
  have e : (kvs.any fun kv => decide (kv.1 = k)) = true ↔ ¬ valD kvs k = none := by
    unfold valD
    rw [Option.map_eq_none_iff, List.find?_eq_none, List.any_eq_true]
    constructor
    · rintro ⟨x, hx, hd⟩ h
      exact h x hx hd
    · intro h
      exact Classical.byContradiction fun z => h fun x hx hd => z ⟨x, hx, hd⟩
  unfold putD
  split
  · rename_i h
    rw [if_neg (e.mp h), List.length_map]
  · rename_i h
    rw [if_pos (Classical.byContradiction fun z => h (e.mpr z)), List.length_append]
    rfl
theorem put_vals (k : κ) (d : D) (kvs : List (κ × D)) (h : closedDs 0 (kvs.map (·.2)) = true) (hd : closedD 0 d = true) : closedDs 0 ((putD kvs k d).map (·.2)) = true := by
  have app : ∀ l m : List D, closedDs 0 l = true → closedDs 0 m = true → closedDs 0 (l ++ m) = true := by
    intro l m h1 h2
    induction l with
    | nil => exact h2
    | cons x l ih =>
      unfold closedDs at h1
      rw [Bool.and_eq_true] at h1
      show (closedD 0 x && closedDs 0 (l ++ m)) = true
      rw [h1.1, ih h1.2]
      rfl
  unfold putD
  split
  · clear app
    rename_i hx
    clear hx
    induction kvs with
    | nil => rfl
    | cons kv kvs ih =>
      have h : (closedD 0 kv.2 && closedDs 0 (kvs.map (·.2))) = true := h
      rw [Bool.and_eq_true] at h
      show (closedD 0 (if kv.1 = k then (kv.1, d) else kv).2 && closedDs 0 _) = true
      rw [ih h.2]
      split
      · rw [hd]; rfl
      · rw [h.1]; rfl
  · rw [List.map_append]
    exact app _ _ h (by show (closedD 0 d && true) = true; rw [hd]; rfl)
end
structure DHas (kvs : List (List Key × D)) (rs ls : List Int) : Prop where
  len : kvs.length = 2 * rs.length
  lr : ls.length = rs.length
  r : ∀ (i : Nat) (x : Int), rs[i]? = some x → valD kvs (kR i) = some (.int x)
  l : ∀ (i : Nat) (x : Int), ls[i]? = some x → valD kvs (kL (i + 1 : Int)) = some (.int x)
  nr : ∀ i : Nat, rs.length ≤ i → valD kvs (kR i) = none
  nl : ∀ i : Nat, rs.length ≤ i → valD kvs (kL (i + 1 : Int)) = none
  cl : closedDs 0 (kvs.map (·.2)) = true
theorem DHas.nil : DHas [] [] [] := ⟨rfl, rfl, (fun _ _ h => nomatch h), (fun _ _ h => nomatch h), (fun _ _ => rfl), (fun _ _ => rfl), rfl⟩
theorem DHas.snoc {kvs : List (List Key × D)} {rs ls : List Int} (h : DHas kvs rs ls) (a b : Int) : DHas (putD (putD kvs (kR rs.length) (.int a)) (kL (rs.length + 1 : Int)) (.int b)) (rs ++ [a]) (ls ++ [b]) := by
  have v1 := h.nr rs.length (Nat.le_refl _)
  have v2 := h.nl rs.length (Nat.le_refl _)
  refine ⟨?_, by simp [h.lr], fun i x hx => ?_, fun i x hx => ?_, fun i hi => ?_, fun i hi => ?_, put_vals _ _ _ (put_vals _ _ _ h.cl rfl) rfl⟩
  · rw [put_len, valD_put, if_neg kLR, if_pos v2, put_len, if_pos v1, h.len]
    simp
    omega
  · rw [valD_put, if_neg kRL, valD_put]
    by_cases hi : i < rs.length
    · rw [List.getElem?_append_left hi] at hx
      rw [if_neg (by rw [kR_inj]; omega)]
      exact h.r i x hx
    · have hl := (List.getElem?_eq_some_iff.mp hx).1
      have : i = rs.length := by simp at hl; omega
      subst this
      simp at hx
      subst hx
      rw [if_pos rfl]
  · rw [valD_put]
    by_cases hi : i < ls.length
    · rw [List.getElem?_append_left hi] at hx
      have := h.lr
      rw [if_neg (by rw [kL_inj]; omega), valD_put, if_neg kLR]
      exact h.l i x hx
    · have hl := (List.getElem?_eq_some_iff.mp hx).1
      have : i = ls.length := by simp at hl; omega
      subst this
      simp at hx
      subst hx
      rw [h.lr, if_pos rfl]
  · simp at hi
    rw [valD_put, if_neg kRL, valD_put, if_neg (by rw [kR_inj]; omega)]
    exact h.nr i (by omega)
  · simp at hi
    rw [valD_put, if_neg (by rw [kL_inj]; omega), valD_put, if_neg kLR]
    exact h.nl i (by omega)
theorem DHas.setR {kvs : List (List Key × D)} {rs ls : List Int} (h : DHas kvs rs ls) {i : Nat} (hi : i < rs.length) (x : Int) : DHas (putD kvs (kR i) (.int x)) (rs.set i x) ls := by
  have v1 := h.r i _ (List.getElem?_eq_getElem hi)
  refine ⟨?_, by simp [h.lr], fun j y hy => ?_, fun j y hy => ?_, fun j hj => ?_, fun j hj => ?_, put_vals _ _ _ h.cl rfl⟩
  · rw [put_len, v1, if_neg (by simp), h.len, List.length_set]
  · rw [valD_put]
    rw [List.getElem?_set] at hy
    by_cases hij : i = j
    · subst hij
      rw [if_pos rfl, if_pos hi] at hy
      rw [if_pos rfl, ← Option.some.inj hy]
    · rw [if_neg hij] at hy
      rw [if_neg (by rw [kR_inj]; omega)]
      exact h.r j y hy
  · rw [valD_put, if_neg kLR]
    exact h.l j y hy
  · rw [List.length_set] at hj
    rw [valD_put, if_neg (by rw [kR_inj]; omega)]
    exact h.nr j hj
  · rw [List.length_set] at hj
    rw [valD_put, if_neg kLR]
    exact h.nl j hj
theorem DHas.setL {kvs : List (List Key × D)} {rs ls : List Int} (h : DHas kvs rs ls) {i : Nat} (hi : i < rs.length) (x : Int) : DHas (putD kvs (kL (i + 1 : Int)) (.int x)) rs (ls.set i x) := by
  have hl := h.lr
  have v1 := h.l i _ (List.getElem?_eq_getElem (by omega))
  refine ⟨?_, by simp [h.lr], fun j y hy => ?_, fun j y hy => ?_, fun j hj => ?_, fun j hj => ?_, put_vals _ _ _ h.cl rfl⟩
  · rw [put_len, v1, if_neg (by simp), h.len]
  · rw [valD_put, if_neg kRL]
    exact h.r j y hy
  · rw [valD_put]
    rw [List.getElem?_set] at hy
    by_cases hij : i = j
    · subst hij
      rw [if_pos rfl, if_pos (by omega)] at hy
      rw [if_pos rfl, ← Option.some.inj hy]
    · rw [if_neg hij] at hy
      rw [if_neg (by rw [kL_inj]; omega)]
      exact h.l j y hy
  · rw [valD_put, if_neg kRL]
    exact h.nr j hj
  · rw [valD_put, if_neg (by rw [kL_inj]; omega)]
    exact h.nl j hj


section
variable {rs ls : List Int} {C : Store} {QD : D → Store → Prop} {QS : Fl → Sl → Store → Prop} {x y : D} {h : List Dd} {e : Dd} {n : Int} {kvs : List (List Key × D)} {k : Nat} {sl : Sl} {mo mv : ME} {mas : MG (List D)}
theorem doB_ok (hC : C[k]? = some (.dt kvs)) (hd : DHas kvs rs ls) (v : Vs rs ls) (hn : n = rs.length - 1) (he : OkD n e) (q : ∀ kvs', DHas kvs' (step (rs, ls) e).1 (step (rs, ls) e).2 → QD .non (C.set k (.dt kvs'))) : W (m__law_do [.cell k, dD e] C) QD := by
  obtain ⟨w, d⟩ := e
  obtain ⟨h0, h1, h2⟩ := he
  simp only at h1 h2
  obtain ⟨r, hr, a1, r1, r2, er⟩ := v.rx (i := d) (by omega) (by omega)
  obtain ⟨l, hl, a2, l1, l2, el⟩ := v.lx (i := d - 1) (by omega) (by omega)
  have t0 := v.top
  have e1 : doR (rs, ls) (w, d) = r := er
  have e2 : doL (rs, ls) (w, d) = l := el
  unfold step at q
  rw [e1, e2] at q
  have g1 : valD kvs (kL d) = some (.int l) := by
    have := hd.l _ _ hl
    rwa [show (((d - 1).toNat : Nat) : Int) + 1 = d from by omega] at this
  have g2 : valD kvs (kR d) = some (.int r) := by
    have := hd.r _ _ hr
    rwa [show ((d.toNat : Nat) : Int) = d from by omega] at this
  have hkl := hd.len
  have b1 : kvs.length + 1 < sizeLine := Nat.lt_of_lt_of_le (by omega : kvs.length + 1 < 1000) (by decide)
  have key : ∀ y z : Int, DHas (putD (putD kvs (kR l) (.int y)) (kL r) (.int z)) (rs.set l.toNat y) (ls.set (r - 1).toNat z) := fun y z => by
    have hA := hd.setR (i := l.toNat) (by omega) y
    rw [show ((l.toNat : Nat) : Int) = l from by omega] at hA
    have hB := hA.setL (i := (r - 1).toNat) (by rw [List.length_set]; omega) z
    rwa [show (((r - 1).toNat : Nat) : Int) + 1 = r from by omega] at hB
  have b2 : ∀ y : Int, (putD kvs (kR l) (.int y)).length < sizeLine := fun y => by
    rw [put_len]
    split <;> omega
  unfold m__law_do
  repeat' walk_at "ev"
  refine w_dgetT ?_
  repeat' walk_at "ev"
  refine ⟨k, kvs, kL d, .int l, rfl, hC, rfl, g1, by simp [sizeLine], ?_⟩
  repeat' walk_at "ev"
  refine w_dgetT ?_
  repeat' walk_at "ev"
  refine ⟨k, kvs, kR d, .int r, rfl, hC, rfl, g2, by simp [sizeLine], ?_⟩
  repeat' walk_at "ev"
  by_cases hk : w = "go"
  · simp only [if_pos hk] at q
    refine w_dputT ?_
    repeat' walk_at "ev"
    refine ite_t (decide_eq_true hk) ?_
    repeat' walk_at "ev"
    refine ⟨k, kvs, kR l, rfl, hC, rfl, by simp [sizeLine], by omega, ?_⟩
    have hC2 := get_set_self (d := .dt (putD kvs (kR l) (.int r))) hC
    repeat' walk_at "ev"
    refine w_dputT ?_
    repeat' walk_at "ev"
    refine ite_t (decide_eq_true hk) ?_
    repeat' walk_at "ev"
    refine ⟨k, _, kL r, rfl, hC2, rfl, by simp [sizeLine], b2 r, ?_⟩
    rw [List.set_set]
    exact fin_set1 (closedC_mono (Nat.zero_le _) _ (key r l).cl) rfl rfl (q _ (key r l))
  · simp only [if_neg hk] at q
    refine w_dputT ?_
    repeat' walk_at "ev"
    refine ite_f (decide_eq_false hk) ?_
    repeat' walk_at "ev"
    refine ⟨k, kvs, kR l, rfl, hC, rfl, by simp [sizeLine], by omega, ?_⟩
    have hC2 := get_set_self (d := .dt (putD kvs (kR l) (.int d))) hC
    repeat' walk_at "ev"
    refine w_dputT ?_
    repeat' walk_at "ev"
    refine ite_f (decide_eq_false hk) ?_
    repeat' walk_at "ev"
    refine ⟨k, _, kL r, rfl, hC2, rfl, by simp [sizeLine], b2 d, ?_⟩
    rw [List.set_set]
    exact fin_set1 (closedC_mono (Nat.zero_le _) _ (key d d).cl) rfl rfl (q _ (key d d))
theorem shown_ok (hC : C[k]? = some (.dt kvs)) (hd : DHas kvs rs ls) (v : Vs rs ls) (q : QD (.tup [.cell C.length, .cell (C.length + 1)]) (C ++ [iL rs, iL ls])) : W (m__law_shown [.cell k] C) QD := by
  have t0 := v.top
  have t2 := v.two
  have vl := v.len
  have hkl := hd.len
  unfold m__law_shown
  repeat' walk_at "ev"
  refine w_lenT2 hC ?_
  repeat' walk_at "ev"
  rw [show ((kvs.length : Nat) : Int) / 2 - 1 = (rs.length : Int) - 1 from by omega]
  repeat' walk_at "ev"
  rw [show (rs.length : Int) - 1 + 1 = rs.length from by omega]
  refine w_lcMapIx (f := fun i => .int (rs.getD i 0)) (fun i d hd2 => ?_) ?_
  · obtain ⟨hi, rfl⟩ := rgD_get hd2
    obtain ⟨r, hr⟩ := get_ex hi
    repeat' walk_at "ev"
    refine w_dgetT ?_
    repeat' walk_at "ev"
    exact ⟨k, kvs, kR i, .int r, rfl, hC, rfl, hd.r _ _ hr, by simp [sizeLine], by rw [getD_of hr], rfl⟩
  rw [rgD_length, show ((rs.length : Int) - 0).toNat = rs.length from by omega, map_getD]
  repeat' walk_at "ev"
  rw [show (rs.length : Int) - 1 + 1 = rs.length from by omega]
  have hC2 : (C ++ [iL rs])[k]? = some (.dt kvs) := at_lo hC
  refine w_lcMapIx (f := fun i => .int (ls.getD i 0)) (fun i d hd2 => ?_) ?_
  · obtain ⟨hi, rfl⟩ := rgD_get hd2
    obtain ⟨r, hr⟩ := get_ex (l := ls) (i := i) (by omega)
    repeat' walk_at "ev"
    refine w_dgetT ?_
    repeat' walk_at "ev"
    exact ⟨k, kvs, kL (i + 1 : Int), .int r, rfl, hC2, rfl, hd.l _ _ hr, by simp [sizeLine], by rw [getD_of hr], rfl⟩
  rw [rgD_length, show ((rs.length : Int) - 0).toNat = ls.length from by omega, map_getD]
  refine w_newC ?_
  rw [List.append_assoc, List.length_append]
  repeat' walk_at "ev"
  exact fin_two0 (j := 0) (k := 1) rfl rfl (by decide) (closed_iL _ _) (closed_iL _ _) q
where map_getD {l : List Int} : (List.range l.length).map (fun i => D.int (l.getD i 0)) = l.map D.int := by
        apply List.ext_getElem?
        intro i
        rw [List.getElem?_map, List.getElem?_map]
        by_cases h : i < l.length
        · rw [List.getElem?_range h, List.getElem?_eq_getElem h]
          simp [List.getD_eq_getElem?_getD, List.getElem?_eq_getElem h]
        · rw [List.getElem?_eq_none (by simpa using h), List.getElem?_eq_none (by omega)]
          rfl
end


section
variable {rs ls : List Int} {C : Store} {QD : D → Store → Prop} {QS : Fl → Sl → Store → Prop} {x y : D} {h : List Dd} {e : Dd} {n : Int} {kvs : List (List Key × D)} {k : Nat} {sl : Sl} {mo mv : ME} {mas : MG (List D)}
theorem hands_ok0 (hx : IsSt C x rs ls) (v : Vs rs ls) (q : ∀ kvs, DHas kvs rs ls → valD kvs (kL 0) = none → QD (.cell C.length) (C ++ [.dt kvs])) : W (m__law_hands [x] C) QD := by
  obtain ⟨a, b, rfl, ha, hb⟩ := hx
  have t0 := v.top
  have vl := v.len
  unfold m__law_hands
  repeat' walk_at "ev"
  refine w_dnewT ?_
  repeat' walk_at "ev"
  refine (ha.app).len ?_
  repeat' walk_at "ev"
  refine w_forM (fun i sl C1 => ∃ x2 kvs, sl = [some (.tup [a, b]), some (.cell C.length), x2] ∧ C1 = C ++ [.dt kvs] ∧ DHas kvs (rs.take i) (ls.take i) ∧ valD kvs (kL 0) = none) (fun _ _ _ _ => okG_nil _) ?_ ?_ ⟨_, [], rfl, rfl, by simpa using DHas.nil, rfl⟩
  · intro i d sl C1 hd hi
    obtain ⟨x2, kvs, rfl, rfl, hk, h0⟩ := hi
    rw [List.length_map] at hd
    obtain ⟨hi, rfl⟩ := rgD_get hd
    obtain ⟨r, hr, a1, _, _, er⟩ := v.rx (i := i) (by omega) (by omega)
    obtain ⟨l, hl, a2, _, _, el⟩ := v.lx (i := i) (by omega) (by omega)
    rw [Int.toNat_natCast] at hr hl
    have hA := ha.app (X := [.dt kvs])
    have hB := hb.app (X := [.dt kvs])
    have hkl := hk.len
    rw [List.length_take, Nat.min_eq_left (by omega)] at hkl
    have hs := hk.snoc r l
    rw [List.length_take, Nat.min_eq_left (by omega)] at hs
    repeat' walk_at "ev"
    refine w_dputT ?_
    repeat' walk_at "ev"
    refine ⟨C.length, kvs, kR i, rfl, at_app0, rfl, by simp [sizeLine], by rw [hkl]; exact Nat.lt_of_lt_of_le (by omega : 2 * i < 1000) (by decide), ?_⟩
    rw [set_app0]
    simp only [List.set_cons_zero]
    have hB2 := hb.app (X := [.dt (putD kvs (kR i) (.int r))])
    repeat' walk_at "ev"
    refine w_dputT ?_
    repeat' walk_at "ev"
    refine ⟨C.length, _, kL (i + 1 : Int), rfl, at_app0, rfl, by simp [sizeLine], ?_, ?_⟩
    · rw [put_len]
      have : kvs.length + 1 < sizeLine := by rw [hkl]; exact Nat.lt_of_lt_of_le (by omega : 2 * i + 1 < 1000) (by decide)
      split <;> omega
    rw [set_app0]
    simp only [List.set_cons_zero]
    refine ⟨_, _, rfl, rfl, ?_, ?_⟩
    · rw [List.take_succ, hr, List.take_succ, hl]
      exact hs
    · rw [valD_put, if_neg (fun z => by have := kL_inj.mp z; omega), valD_put, if_neg kLR]
      exact h0
  · intro sl C1 hi
    obtain ⟨x2, kvs, rfl, rfl, hk, h0⟩ := hi
    rw [rgD_length, List.length_map, show ((rs.length : Int) - 0).toNat = rs.length from by omega, List.take_length, show ls.take rs.length = ls from by rw [← vl, List.take_length]] at hk
    repeat' walk_at "ev"
    exact W.of (fin_cell0 (show closedC 0 (.dt kvs) = true from hk.cl)) (q kvs hk h0)
theorem hands_okB (hx : IsSt C x rs ls) (v : Vs rs ls) (q : ∀ kvs, DHas kvs rs ls → QD (.cell C.length) (C ++ [.dt kvs])) : W (m__law_hands [x] C) QD := hands_ok0 hx v fun kvs h _ => q kvs h
end


section
variable {G X : Store} {n most : Int} {S : Cell} {QD : D → Store → Prop}
theorem acts_ok (hS : Jr S) (hG : ClS G) (n0 : 1 ≤ n) (n1 : n ≤ 1000) (m0 : 0 ≤ most) (m1 : most ≤ 1000) (q : ∀ S' h, Jr S' → OkH n h → (h.length : Int) ≤ most → QD (.cell (S :: G).length) ((S' :: G) ++ [.lst (h.map dD)])) : W (m__law_acts [.cell 0, .int n, .int most] (S :: G)) QD := by
  unfold m__law_acts
  repeat' walk_at "ev"
  refine pull_c0 hS (by omega) (by omega) fun ct S1 k0 k1 hS1 => ?_
  obtain ⟨ct, rfl⟩ : ∃ t' : Nat, ct = t' := ⟨ct.toNat, by omega⟩
  repeat' walk_at "ev"
  refine pull_c0 hS1 (by omega) (by omega) fun way S2 r0 r1 hS2 => ?_
  repeat' walk_at "ev"
  refine w_forM (fun i sl C => ∃ S' h x6 x7 x8, sl = [some (.cell 0), some (.int n), some (.int most), some (.int ct), some (.int way), some (.cell (S :: G).length), x6, x7, x8] ∧ C = (S' :: G) ++ [.lst (h.map dD)] ∧ Jr S' ∧ OkH n h ∧ h.length = i) (fun _ _ _ _ => okG_nil _) ?_ ?_ ⟨S2, [], _, _, _, rfl, rfl, hS2, .nil, rfl⟩
  · intro i d sl C hd hi
    obtain ⟨S', h, x6, x7, x8, rfl, rfl, hS', hh, hl⟩ := hi
    obtain ⟨hi, rfl⟩ := rgD_get (n := ct) hd
    have hlen : (h.map dD).length < sizeLine := by
      rw [List.length_map]
      exact Nat.lt_of_lt_of_le (by omega : h.length < 10000) (by decide)
    repeat' walk_at "evq"
    refine ite_cut (fun (x : D) C' => ∃ w S1, x = .str w ∧ C' = (S1 :: G) ++ [.lst (h.map dD)] ∧ Jr S1 ∧ (w = "go" ∨ w = "come")) (fun _ => ?_) (fun _ => ?_) ?_
    · repeat' walk_at "ev"
      exact ⟨"go", S', rfl, rfl, hS', .inl rfl⟩
    · repeat' walk_at "ev"
      refine pull_c hS' (by decide) (by decide) fun rc S6 c0 c1 hS6 => ?_
      obtain ⟨w, hwd, hw2⟩ := pick2 c0 c1
      repeat' walk_at "ev"
      exact ⟨w, S6, rfl, rfl, hS6, hw2⟩
    rintro x C' ⟨w, S6, rfl, rfl, hS6, hw⟩
    repeat' walk_at "evq"
    refine pull_c hS6 (by omega) (by omega) fun rb S7 b0 b1 hS7 => ?_
    repeat' walk_at "evs"
    refine w_scut (QS' := fun f sl' C' => ∃ S' who, f = .nx ∧ sl' = [some (.cell 0), some (.int n), some (.int most), some (.int ct), some (.int way), some (.cell (S :: G).length), some (.int i), some (.str w), some (.int who)] ∧ C' = (S' :: G) ++ [.lst (h.map dD)] ∧ Jr S' ∧ 1 ≤ who ∧ who ≤ n) ?_ ?_
    · repeat' walk_at "ev"
      have base : ∃ S' who, (Fl.nx : Fl) = .nx ∧ [some (D.cell 0), some (.int n), some (.int most), some (.int ct), some (.int way), some (.cell (S :: G).length), some (.int i), some (.str w), some (.int (1 + rb))] = [some (.cell 0), some (.int n), some (.int most), some (.int ct), some (.int way), some (.cell (S :: G).length), some (.int i), some (.str w), some (.int who)] ∧ (S7 :: G) ++ [Cell.lst (h.map dD)] = (S' :: G) ++ [.lst (h.map dD)] ∧ Jr S' ∧ 1 ≤ who ∧ who ≤ n := ⟨S7, 1 + rb, rfl, rfl, rfl, hS7, by omega, by omega⟩
      by_cases hk : way = 1
      · refine ite_t (decide_eq_true hk) ?_
        repeat' walk_at "ev"
        refine w_neDeeds (h := h) (by exact at_app0) hh (by omega) ?_
        repeat' walk_at "ev"
        cases hlast : h.getLast? with
        | none =>
          have : h = [] := List.getLast?_eq_none_iff.mp hlast
          subst this
          refine ite_f rfl ?_
          refine ite_f rfl ?_
          repeat' walk_at "ev"
          exact base
        | some e =>
          have hne : h ≠ [] := fun z => by subst z; cases hlast
          have he := hh e (List.mem_of_getLast? hlast)
          have al : atI (h.map dD) (-1) = some (dD e) := atI_last hlast
          refine ite_t (by simpa using hne) ?_
          repeat' walk_at "ev"
          refine pull_c hS7 (by decide) (by decide) fun rd S8 d0 d1 hS8 => ?_
          repeat' walk_at "ev"
          refine w_ite (fun _ => ?_) (fun _ => ?_)
          · repeat' walk_at "ev"
            exact ⟨S8, e.2, rfl, rfl, rfl, hS8, he.2.1, he.2.2⟩
          · repeat' walk_at "ev"
            exact ⟨S8, 1 + rb, rfl, rfl, rfl, hS8, by omega, by omega⟩
      · refine ite_f (decide_eq_false hk) ?_
        refine ite_f rfl ?_
        repeat' walk_at "ev"
        exact base
    · rintro f sl' C' ⟨S8, who, rfl, rfl, rfl, hS8, w0, w1⟩
      have he : OkD n (w, who) := ⟨hw, w0, w1⟩
      repeat' walk_at "ev"
      refine isL_and (w_chkC at_app0) ?_
      repeat' walk_at "ev"
      rw [show (S :: G).length = (S8 :: G).length from rfl, set_app0, show [Cell.lst (h.map dD)].set 0 (.lst (h.map dD ++ [dD (w, who)])) = [.lst ((h ++ [(w, who)]).map dD)] from by simp]
      exact ⟨S8, _, _, _, _, rfl, rfl, hS8, hh.app (.one he), by simp [hl]⟩
  · intro sl C hi
    obtain ⟨S', h, x6, x7, x8, rfl, rfl, hS', hh, hl⟩ := hi
    rw [rgD_length] at hl
    repeat' walk_at "ev"
    refine fin_one1 (C1 := S' :: G) (j := 0) rfl (ClS.cons (hS'.closed _) hG) rfl (dD_closed _) (q S' _ hS' hh ?_)
    omega
end


section
variable {G : Store} {n : Nat} {S : Cell} {QD : D → Store → Prop} {sl : Sl}
theorem ring_ok {C : Store} (h1 : 1 ≤ n) (h2 : n ≤ 201) (q : ∀ kvs, DHas kvs (whR n) (whL n) → QD (.cell C.length) (C ++ [.dt kvs])) : W (m__law_ring [.int n] C) QD := by
  unfold m__law_ring
  repeat' walk_at "ev"
  refine w_dnewT ?_
  repeat' walk_at "ev"
  refine w_forM (fun i sl C1 => ∃ x2 kvs, sl = [some (.int n), some (.cell C.length), x2] ∧ C1 = C ++ [.dt kvs] ∧ DHas kvs ((whR n).take i) ((whL n).take i)) (fun _ _ _ _ => okG_nil _) ?_ ?_ ⟨_, [], rfl, rfl, by simpa using DHas.nil⟩
  · intro i d sl C1 hd hi
    obtain ⟨x2, kvs, rfl, rfl, hk⟩ := hi
    obtain ⟨hi, rfl⟩ := rgD_get (n := n + 1) hd
    have hr := whR_get (n := n) hi
    have hl := whL_get (n := n) hi
    have e1 := whR_len n
    have hkl := hk.len
    rw [List.length_take, Nat.min_eq_left (by omega)] at hkl
    have hs := hk.snoc (1 + (i : Int)) i
    rw [List.length_take, Nat.min_eq_left (by omega)] at hs
    repeat' walk_at "ev"
    refine w_dputT ?_
    repeat' walk_at "ev"
    refine ⟨C.length, kvs, kR i, rfl, at_app0, rfl, by simp [sizeLine], by rw [hkl]; exact Nat.lt_of_lt_of_le (by omega : 2 * i < 1000) (by decide), ?_⟩
    rw [set_app0]
    simp only [List.set_cons_zero]
    repeat' walk_at "ev"
    refine w_dputT ?_
    repeat' walk_at "ev"
    refine ⟨C.length, _, kL (i + 1 : Int), rfl, at_app0, rfl, by simp [sizeLine], ?_, ?_⟩
    · rw [put_len]
      have : kvs.length + 1 < sizeLine := by rw [hkl]; exact Nat.lt_of_lt_of_le (by omega : 2 * i + 1 < 1000) (by decide)
      split <;> omega
    rw [set_app0]
    simp only [List.set_cons_zero]
    refine ⟨_, _, rfl, rfl, ?_⟩
    rw [List.take_succ, hr, List.take_succ, hl, show (i : Int) + 1 = 1 + i from by omega]
    rw [show (i : Int) + 1 = 1 + i from by omega] at hs
    exact hs
  · intro sl C1 hi
    obtain ⟨x2, kvs, rfl, rfl, hk⟩ := hi
    rw [rgD_length, show ((n : Int) + 1 - 0).toNat = n + 1 from by omega, List.take_of_length_le (by rw [whR_len]; exact Nat.le_refl _), List.take_of_length_le (by rw [whL_len]; exact Nat.le_refl _)] at hk
    repeat' walk_at "ev"
    exact W.of (fin_cell0 (show closedC 0 (.dt kvs) = true from hk.cl)) (q kvs hk)
theorem actsF_ok {k i j : Nat} {m2 : ME} {most : Int} (hS : Jr S) (hG : ClS G) (n0 : 1 ≤ n) (n1 : n ≤ 1000) (m0 : 0 ≤ most) (m1 : most ≤ 1000) (hi : sl[i]? = some (some (.cell 0))) (hj : sl[j]? = some (some (.int n))) (h2 : W (m2 sl (S :: G)) fun x C => x = .int most ∧ C = S :: G)
    (q : ∀ S' h, Jr S' → OkH n h → (h.length : Int) ≤ most → QD (.lst (h.map dD)) (S' :: G)) : W (mFz (k + 1) (mF 3 m__law_acts (aCons (mVar i) (aCons (mVar j) (aCons m2 aNil)))) sl (S :: G)) QD := by
  refine w_fz1 ?_
  refine w_F ?_
  refine w_aCons (w_var hi ?_)
  refine w_aCons (w_var hj ?_)
  refine w_aCons (h2.imp fun x C h => ?_)
  obtain ⟨rfl, rfl⟩ := h
  repeat' walk_at "ev"
  refine acts_ok hS hG (by omega) (by omega) m0 m1 fun S' h hS' hh hl => ?_
  exact ⟨_, S' :: G, rfl, rfl, rfl, ClS.at (ClS.cons (hS'.closed _) hG) _, dD_closed _, q S' h hS' hh hl⟩
/-- a history done in a dict: a loop's turn -/
theorem any_ok (hS : Jr S) (hG : ClS G) (n0 : 1 ≤ n) (n1 : n ≤ 200) (q : ∀ S' rs ls, Jr S' → Vs rs ls → rs.length = n + 1 → QD (.tup [.cell (S :: G).length, .cell ((S :: G).length + 1)]) ((S' :: G) ++ [iL rs, iL ls])) : W (m__law_any [.cell 0, .int n] (S :: G)) QD := by
  have v0 := wh_vs (n := n) n0 (by omega)
  have hn' : (n : Int) = (whR n).length - 1 := by rw [whR_len]; omega
  unfold m__law_any
  repeat' walk_at "ev"
  refine pull_c0 hS (by decide) (by decide) fun r S1 r0 r1 hS1 => ?_
  repeat' walk_at "ev"
  refine w_ite (fun _ => ?_) (fun _ => ?_)
  · repeat' walk_at "ev"
    refine ring_ok n0 (by omega) fun kvs hk => ?_
    repeat' walk_at "ev"
    rw [show (S1 :: G) ++ [Cell.dt kvs] = S1 :: (G ++ [Cell.dt kvs]) from rfl]
    refine actsF_ok (sl := [some (D.cell 0), some (D.int n), some (D.cell (S1 :: G).length), none, none, none, none]) (k := 1) (i := 0) (j := 1) (G := G ++ [.dt kvs]) (most := 2 * min (n : Int) 30) hS1 (hG.app (ClS.one (show closedC 0 (.dt kvs) = true from hk.cl))) n0 (by omega) (by omega) (by omega) (by rfl) (by rfl) ?_ fun S2 h hS2 hh hl => ?_
    · repeat' walk_at "ev"
      exact ⟨rfl, rfl⟩
    repeat' walk_at "ev"
    refine w_forM (fun i sl C => ∃ x3 kvs, sl = [some (.cell 0), some (.int n), some (.cell (S :: G).length), x3, none, none, none] ∧ C = (S2 :: G) ++ [.dt kvs] ∧ DHas kvs (run (whR n, whL n) (h.take i)).1 (run (whR n, whL n) (h.take i)).2) (fun _ _ _ _ => okG_nil _) ?_ ?_ ⟨_, kvs, rfl, rfl, hk⟩
    · intro i d sl C hd hi
      obtain ⟨x3, kvs, rfl, rfl, hk⟩ := hi
      rw [List.getElem?_map, Option.map_eq_some_iff] at hd
      obtain ⟨e, he, rfl⟩ := hd
      obtain ⟨v1, l1⟩ := run_vs v0 hn' (hh.take i)
      repeat' walk_at "ev"
      refine doB_ok (n := n) (k := (S2 :: G).length) at_app0 hk v1 (by rw [l1]; exact hn') (hh e (List.mem_of_getElem? he)) fun kvs' hk' => ?_
      rw [set_app0]
      rw [show step ((run (whR n, whL n) (h.take i)).1, (run (whR n, whL n) (h.take i)).2) e = run (whR n, whL n) (h.take (i + 1)) from (run_take he).symm] at hk'
      exact ⟨_, kvs', rfl, rfl, hk'⟩
    · intro sl C hi
      obtain ⟨x3, kvs, rfl, rfl, hk⟩ := hi
      rw [List.length_map, List.take_length] at hk
      obtain ⟨v1, l1⟩ := run_vs v0 hn' hh
      repeat' walk_at "ev"
      refine shown_ok (k := (S2 :: G).length) at_app0 hk v1 ?_
      rw [List.append_assoc, List.length_append]
      repeat' walk_at "ev"
      exact fin_two1 (C1 := S2 :: G) (j := 1) (k := 2) rfl (ClS.cons (hS2.closed 0) hG) rfl rfl (by decide) (closed_iL _ _) (closed_iL _ _) (q S2 _ _ hS2 v1 (by rw [l1, whR_len]))
  · repeat' walk_at "ev"
    refine w_lcMapIx (f := fun i => .int ((n : Int) - i + 1)) (fun i d hd => ?_) ?_
    · obtain ⟨hi, rfl⟩ := rgD_get (n := n + 1) hd
      repeat' walk_at "ev"
      exact ⟨rfl, rfl⟩
    rw [show (rgD 0 ((n : Int) + 1), ([] : Gd)).1.length = n + 1 from rgD_len (n + 1)]
    repeat' walk_at "ev"
    refine w_lcEff (fun C => ∃ S', C = S' :: G ∧ Jr S') (fun i x => (i : Int) + 1 ≤ x ∧ x ≤ n + 1) (fun _ _ => okG_nil _) (fun i d C hd hi => ?_) ⟨S1, rfl, hS1⟩ fun rs1 C' e1 b1 hP => ?_
    · obtain ⟨S', rfl, hS'⟩ := hi
      obtain ⟨hi, rfl⟩ := rgD_get (n := n + 1) hd
      have ai : atI ((List.range (n + 1)).map fun i : Nat => D.int ((n : Int) - i + 1)) (i : Int) = some (.int ((n : Int) - i + 1)) := Nv.atI_nat (by simp [hi])
      repeat' walk_at "ev"
      refine pull_c0 hS' (by omega) (by omega) fun r S1 r0 r1 hS1 => ?_
      repeat' walk_at "ev"
      exact ⟨⟨by omega, by omega⟩, ⟨S1, rfl, hS1⟩⟩
    obtain ⟨S4, rfl, hS4⟩ := hP
    refine w_newC ?_
    repeat' walk_at "ev"
    refine w_lcEff (fun C => ∃ S', C = (S' :: G) ++ [iL rs1] ∧ Jr S') (fun i x => 0 ≤ x ∧ x ≤ i) (fun _ _ => okG_nil _) (fun i d C hd hi => ?_) ⟨S4, rfl, hS4⟩ fun ls1 C' e2 b2 hP => ?_
    · obtain ⟨S', rfl, hS'⟩ := hi
      obtain ⟨hi, rfl⟩ := rgD_get (n := n + 1) hd
      repeat' walk_at "ev"
      refine pull_c hS' (by omega) (by omega) fun r S1 r0 r1 hS1 => ?_
      exact ⟨_, rfl, ⟨by omega, by omega⟩, ⟨S1, rfl, hS1⟩⟩
    obtain ⟨S5, rfl, hS5⟩ := hP
    rw [show (rgD 0 ((n : Int) + 1), ([] : Gd)).1.length = n + 1 from rgD_len (n + 1)] at e1 e2
    refine w_newC ?_
    rw [List.append_assoc, List.length_append]
    repeat' walk_at "ev"
    exact fin_two1 (C1 := S5 :: G) (j := 0) (k := 1) rfl (ClS.cons (hS5.closed 0) hG) rfl rfl (by decide) (closed_iL _ _) (closed_iL _ _) (q S5 _ _ hS5 ⟨by omega, by omega, by omega, fun i x h => by have := b1 i x h; omega, fun i x h => b2 i x h⟩ e1)
end


theorem w_iZpT {mas : MG (List D)} {sl : Sl} {C : Store} {QK : Wk → Store → Prop} (h : W (mas sl C) fun xs C1 => ∃ a b, xs = [.tup a, .tup b] ∧ QK (pairs a b, []) C1) : W (iZp mas sl C) QK := W.bind (h.imp fun x C1 h => by
  obtain ⟨a, b, rfl, h⟩ := h
  exact W.ok h)
theorem exact_ok {C : Store} {n : Nat} {x y : D} (h : Alk C n x y) : ∀ {QD : D → Store → Prop}, QD (.bl true) C → W (m__law_exact n [x, y] C) QD := by
  induction h with
  | int n i =>
    intro QD q
    unfold m__law_exact
    repeat' walk_at "ev"
    rw [decide_eq_true rfl]
    exact fin_same rfl rfl q
  | str n i =>
    intro QD q
    unfold m__law_exact
    repeat' walk_at "ev"
    rw [decide_eq_true rfl]
    exact fin_same rfl rfl q
  | bl n i =>
    intro QD q
    unfold m__law_exact
    repeat' walk_at "ev"
    rw [decide_eq_true rfl]
    exact fin_same rfl rfl q
  | non n =>
    intro QD q
    unfold m__law_exact
    repeat' walk_at "ev"
    exact fin_same rfl rfl q
  | lst n x y xs ys hx hy hl ll h ih =>
    intro QD q
    have tx := hx.ty
    have ty := hy.ty
    obtain ⟨gx, ex, ox⟩ := hx.it
    obtain ⟨gy, ey, oy⟩ := hy.it
    have nn : gIs y .non C = .ok (.bl false, C) := by
      cases hy with
      | f => rfl
      | c k ds hk => rfl
    unfold m__law_exact
    repeat' walk_at "ev"
    refine w_isC nn ?_
    repeat' walk_at "ev"
    refine ite_t (decide_eq_true (by omega)) ?_
    repeat' walk_at "ev"
    refine ⟨_, ex, _, ey, ?_⟩
    refine le_and (len_le (by simp only [pairsLen]; omega)) ?_
    refine w_lcTrueG (ox.app oy) (fun i d hd => ?_) ?_
    · obtain ⟨a, b, rfl, ha, hb⟩ := pairsGet hd
      repeat' walk_at "ev"
      exact ih i a b ha hb ⟨rfl, rfl⟩
    · repeat' walk_at "ev"
      refine w_all ?_
      rw [all_true]
      exact fin_same rfl rfl q
  | tup n xs ys hl ll h ih =>
    intro QD q
    unfold m__law_exact
    repeat' walk_at "ev"
    refine ite_t (decide_eq_true (by omega)) ?_
    refine w_cb ?_
    refine w_aCons ?_
    refine w_mLc ?_
    refine w_iZpT ?_
    repeat' walk_at "ev"
    refine ⟨_, _, rfl, ?_⟩
    refine le_and (len_le (by simp only [pairsLen]; omega)) ?_
    refine w_lcTrue (fun i d hd => ?_) ?_
    · obtain ⟨a, b, rfl, ha, hb⟩ := pairsGet hd
      repeat' walk_at "ev"
      exact ih i a b ha hb ⟨rfl, rfl⟩
    · repeat' walk_at "ev"
      refine w_all ?_
      rw [all_true]
      exact fin_same rfl rfl q


section
variable {rs ls : List Int} {C : Store} {QD : D → Store → Prop} {x : D}
theorem needdancers_ok {n : Nat} (h1 : 1 ≤ n) (h2 : n ≤ 200) (q : QD .non C) : W (m_need_dancers [.int n] C) QD := by
  unfold m_need_dancers
  repeat' walk_at "ev"
  refine between_ok ?_
  rw [show decide ((1 : Int) ≤ (n : Int) ∧ (n : Int) ≤ 200) = true from decide_eq_true ⟨by omega, by omega⟩]
  repeat' walk_at "ev"
  exact fin_same rfl rfl q
theorem whole_ok {n : Nat} (h1 : 1 ≤ n) (h2 : n ≤ 200) (q : QD (.tup [.cell C.length, .cell (C.length + 1)]) (C ++ [iL (whR n), iL (whL n)])) : W (m_whole [.int n] C) QD := by
  unfold m_whole
  repeat' walk_at "ev"
  refine needdancers_ok h1 h2 ?_
  repeat' walk_at "ev"
  refine w_rg (by simp [lowI]; omega) ?_
  rw [rg_whR]
  repeat' walk_at "ev"
  refine w_rg (by simp [lowI]; omega) ?_
  rw [rg_whL]
  refine w_newC ?_
  rw [List.append_assoc, List.length_append]
  repeat' walk_at "ev"
  exact fin_two0 (j := 0) (k := 1) rfl rfl (by decide) (closed_iL _ _) (closed_iL _ _) q
end


theorem cut_take {A : Type} (f : A → D) (l : List A) (m : Int) (h : 0 ≤ m) : cutD (l.map f) none (some m) = (l.take m.toNat).map f := by
  rw [cutD_map]
  congr 1
  unfold HT.sIx
  simp only
  rw [if_neg (by omega), List.drop_zero, Nat.sub_zero]
  by_cases hm : m.toNat ≤ l.length
  · rw [Nat.min_eq_left hm]
  · rw [Nat.min_eq_right (by omega), List.take_of_length_le (Nat.le_refl _), List.take_of_length_le (by omega)]

theorem cells_ok {ns : List Int} {m : Int} {C : Store} {QD : D → Store → Prop} (hl : ns.length ≤ 63) (h0 : 0 ≤ m) (q : ∀ ms : List Int, ms.length ≤ 64 → (ms.length : Int) ≤ m + 1 → QD (.cell C.length) (C ++ [iL ms])) : W (m__law_cells [.lst (ns.map D.int), .int m] C) QD := by
  unfold m__law_cells
  repeat' walk_at "ev"
  refine w_slL ?_
  rw [cut_take D.int ns m h0]
  repeat' walk_at "ev"
  refine w_eqLI (m := []) ?_
  repeat' walk_at "ev"
  obtain ⟨k, hk, k1⟩ : ∃ k : Nat, (if decide (ns = []) = true then (1 : Int) else 0) = (k : Int) ∧ k ≤ 1 := by
    split
    · exact ⟨1, rfl, by decide⟩
    · exact ⟨0, rfl, by decide⟩
  rw [hk]
  repeat' walk_at "ev"
  refine ⟨by simp [sizeLine]; omega, ?_⟩
  rw [Int.toNat_natCast, show (List.replicate k [D.int 0]).flatten = (List.replicate k (0 : Int)).map D.int from by
    clear hk k1
    induction k with
    | zero => rfl
    | succ k ih => rw [List.replicate_succ, List.flatten_cons, ih, List.replicate_succ]; rfl]
  repeat' walk_at "ev"
  refine w_addL (by simp [sizeLine]; omega) ?_
  rw [← List.map_append]
  refine w_newC ?_
  exact W.of (fin_cell0 (closedDs_ints _ _)) (q _ (by simp; omega) (by simp; omega))


section
variable {rs ls : List Int} {C : Store} {QD : D → Store → Prop} {x : D} {n : Int}
end


/-! what ends by an error -/
def EXp {A : Type} (o : R A) (P : Exn → Store → Prop) : Prop := ∃ x C, o = .ex x C ∧ P x C
section
variable {A S S2 : Type} {P : Exn → Store → Prop} {sl : Sl} {C : Store} {m : ME} {mas : MG (List D)} {u u1 u2 : MS} {t : MG Bool} {x f : Str} {n : Nat} {mf : MF} {g : MT} {ds : List D} {hm : Exn → MS} {QS : Fl → Sl → Store → Prop}
theorem x_bind {B : Type} {o : R A} {k : A → R B} (h : EXp o P) : EXp (o.bind k) P := by
  obtain ⟨x, C, rfl, p⟩ := h
  exact ⟨x, C, rfl, p⟩
theorem x_bindW {o : R (S × Store)} {k : S × Store → R A} (h : W o fun a C => EXp (k (a, C)) P) : EXp (o.bind k) P := by
  obtain ⟨a, C, rfl, p⟩ := h
  exact p
theorem x_seq1 (h : EXp (u1 sl C) P) : EXp (sSeq u1 u2 sl C) P := x_bind h
theorem x_if (h : W (t sl C) fun b C1 => if b = true then EXp (u1 sl C1) P else EXp (u2 sl C1) P) : EXp (sIf t u1 u2 sl C) P := x_bindW (h.imp fun b C1 h => by
  cases b with
  | true => exact h
  | false => exact h)
theorem x_drop (h : EXp (m sl C) P) : EXp (sDrop m sl C) P := x_bind h
theorem w_tryN {mb : MS} (h : WS (mb sl C) QS) : WS (sTry mb hm sl C) QS := by
  obtain ⟨f, sl1, C1, e, q⟩ := h
  refine ⟨f, sl1, C1, ?_, q⟩
  unfold sTry
  rw [e]
theorem w_tryX {mb : MS} (h : EXp (mb sl C) fun x C1 => WS (hm x sl C1) QS) : WS (sTry mb hm sl C) QS := by
  obtain ⟨x, C1, e, f, sl2, C2, e2, q⟩ := h
  refine ⟨f, sl2, C2, ?_, q⟩
  unfold sTry
  rw [e]
  exact e2
end

/-! a ring as an object: its stand, the deeds that stand, those done back -/
abbrev flds (p : List Int × List Int) (j k : Nat) : List (Str × D) := [("stand_held", sD p.1 p.2), ("done_held", .cell j), ("back_held", .cell k)]
abbrev obR (p : List Int × List Int) (j k : Nat) : Cell := .obj "Ring" (flds p j k)
abbrev enD (e : Dd × (List Int × List Int)) : D := .tup [dD e.1, sD e.2.1 e.2.2]
abbrev enL (dn : List (Dd × (List Int × List Int))) : Cell := .lst (dn.map enD)
structure RingAt (C : Store) (i j k : Nat) (p : List Int × List Int) (dn : List (Dd × (List Int × List Int))) (bk : List Dd) : Prop where
  o : C[i]? = some (obR p j k)
  d : C[j]? = some (enL dn)
  b : C[k]? = some (.lst (bk.map dD))
  ij : i ≠ j
  ik : i ≠ k
  jk : j ≠ k
section
variable {C : Store} {QD : D → Store → Prop} {i j k : Nat} {p : List Int × List Int} {dn : List (Dd × (List Int × List Int))} {bk : List Dd} {n : Int} {e : Dd} {rs ls : List Int} {x : D}
theorem get_lt {A : Type} {L : List A} {l : Nat} {a : A} (h : L[l]? = some a) : l < L.length := (List.getElem?_eq_some_iff.mp h).1
theorem w_stand (h : RingAt C i j k p dn bk) (q : QD (sD p.1 p.2) C) : W (gFld "Ring" "stand_held" (.cell i) C) QD := w_gfld h.o rfl q
theorem w_done (h : RingAt C i j k p dn bk) (q : QD (.cell j) C) : W (gFld "Ring" "done_held" (.cell i) C) QD := w_gfld h.o rfl q
theorem w_back (h : RingAt C i j k p dn bk) (q : QD (.cell k) C) : W (gFld "Ring" "back_held" (.cell i) C) QD := w_gfld h.o rfl q
theorem withdeed_ok (hx : IsSt C x rs ls) (v : Vs rs ls) (hn : n = rs.length - 1) (he : OkD n e)
    (q : QD (.tup [.cell C.length, .cell (C.length + 1)]) (C ++ [iL (step (rs, ls) e).1, iL (step (rs, ls) e).2])) : W (m_with_deed [x, dD e] C) QD := by
  unfold m_with_deed
  repeat' walk_at "ev"
  refine copied_ok hx ?_
  repeat' walk_at "ev"
  refine w_fzL ?_
  repeat' walk_at "ev"
  refine handsby_ok hx.app v hn he ?_
  refine ⟨_, rfl, rfl, rfl, ?_⟩
  repeat' walk_at "ev"
  obtain ⟨h0, h1, h2⟩ := he
  obtain ⟨r, hr, a1, r1, r2, er⟩ := v.rx (i := e.2) (by omega) (by omega)
  obtain ⟨l, hl, a2, k1, k2, el⟩ := v.lx (i := e.2 - 1) (by omega) (by omega)
  have e1 : doR (rs, ls) e = r := er
  have e2 : doL (rs, ls) e = l := el
  have vl := v.len
  unfold step at q
  simp only [e1, e2] at q ⊢
  have i1 : ixN (rs.map D.int).length l = some l.toNat := ixN_in k1 (by simp; omega)
  have i2 : ixN (ls.map D.int).length (r - 1) = some (r - 1).toNat := ixN_in (by omega) (by simp [vl]; omega)
  refine w_forCons ?_
  repeat' walk_at "ev"
  rw [setI_map]
  simp only [set_app0, List.set_cons_zero]
  refine w_forCons ?_
  repeat' walk_at "ev"
  rw [setI_map]
  simp only [set_app, List.set_cons_zero, List.set_cons_succ]
  refine w_forNil ?_
  repeat' walk_at "ev"
  exact fin_two0 (j := 0) (k := 1) rfl rfl (by decide) (closed_iL _ _) (closed_iL _ _) q
theorem RingAt.lt (h : RingAt C i j k p dn bk) : i < C.length ∧ j < C.length ∧ k < C.length := ⟨get_lt h.o, get_lt h.d, get_lt h.b⟩
theorem RingAt.app {Y : Store} (h : RingAt C i j k p dn bk) : RingAt (C ++ Y) i j k p dn bk := ⟨at_lo h.o, at_lo h.d, at_lo h.b, h.ij, h.ik, h.jk⟩
theorem RingAt.set {l : Nat} {c : Cell} (h : RingAt C i j k p dn bk) (h1 : l ≠ i) (h2 : l ≠ j) (h3 : l ≠ k) : RingAt (C.set l c) i j k p dn bk := ⟨by rw [List.getElem?_set_ne h1]; exact h.o, by rw [List.getElem?_set_ne h2]; exact h.d, by rw [List.getElem?_set_ne h3]; exact h.b, h.ij, h.ik, h.jk⟩
/-- the store behind a deed put -/
abbrev putC (C : Store) (i j k : Nat) (p : List Int × List Int) (dn : List (Dd × (List Int × List Int))) (e : Dd) : Store := (C.set j (enL (dn ++ [(e, p)]))).set i (obR (step p e) j k)
theorem RingAt.put (h : RingAt C i j k p dn bk) (e : Dd) : RingAt (putC C i j k p dn e) i j k (step p e) (dn ++ [(e, p)]) bk := by
  obtain ⟨h1, h2, h3⟩ := h.lt
  exact ⟨by rw [List.getElem?_set_self (by simpa using h1)], by rw [List.getElem?_set_ne h.ij, List.getElem?_set_self h2], by rw [List.getElem?_set_ne h.ik, List.getElem?_set_ne h.jk]; exact h.b, h.ij, h.ik, h.jk⟩
theorem put_ok (h : RingAt C i j k p dn bk) (v : Vs p.1 p.2) (hn : n = p.1.length - 1) (he : OkD n e) (hl : dn.length < 100000) (q : QD .non (putC C i j k p dn e)) : W (m_Ring__put [.cell i, dD e] C) QD := by
  obtain ⟨h1, h2, h3⟩ := h.lt
  have lt : (dn.map enD).length < sizeLine := by rw [List.length_map]; exact Nat.lt_of_lt_of_le hl (by decide)
  unfold m_Ring__put
  repeat' walk_at "ev"
  refine w_done h ?_
  repeat' walk_at "ev"
  refine ⟨w_chkC h.d, ?_⟩
  repeat' walk_at "ev"
  refine w_stand h ?_
  repeat' walk_at "ev"
  refine w_append h.d lt ?_
  rw [show dn.map enD ++ [D.tup [dD e, sD p.1 p.2]] = (dn ++ [(e, p)]).map enD from by simp]
  have ho : (C.set j (.lst ((dn ++ [(e, p)]).map enD)))[i]? = some (obR p j k) := by rw [List.getElem?_set_ne (Ne.symm h.ij)]; exact h.o
  repeat' walk_at "ev"
  refine w_sFld ?_
  repeat' walk_at "ev"
  refine w_fzS ?_
  repeat' walk_at "ev"
  refine w_gfld (v := sD p.1 p.2) ho rfl ?_
  repeat' walk_at "ev"
  refine withdeed_ok (.f _ _) v hn he ?_
  refine ⟨_, _, rfl, rfl, closedDs_ints _ _, closedDs_ints _ _, ?_⟩
  repeat' walk_at "ev"
  refine ⟨i, _, rfl, ho, by show (3 : Nat) < 1000; decide, ?_⟩
  repeat' walk_at "ev"
  exact q
/-- the store behind a deed done -/
abbrev didC (C : Store) (i j k : Nat) (p : List Int × List Int) (dn : List (Dd × (List Int × List Int))) (e : Dd) : Store := (putC C i j k p dn e ++ [Cell.lst []]).set i (obR (step p e) j C.length)
theorem RingAt.did (h : RingAt C i j k p dn bk) (e : Dd) : RingAt (didC C i j k p dn e) i j C.length (step p e) (dn ++ [(e, p)]) [] := by
  obtain ⟨h1, h2, h3⟩ := h.lt
  have hp := (h.put e).app (Y := [Cell.lst []])
  have hlen : (putC C i j k p dn e).length = C.length := by simp
  refine ⟨by rw [List.getElem?_set_self (by simp; omega)], by rw [List.getElem?_set_ne h.ij]; exact hp.d, ?_, h.ij, by omega, by omega⟩
  rw [List.getElem?_set_ne (by omega), ← hlen]
  exact at_app0
theorem did_ok {w : Str} {d : Int} (h : RingAt C i j k p dn bk) (v : Vs p.1 p.2) (hn : n = p.1.length - 1) (he : OkD n (w, d)) (hl : dn.length < 100000) (q : QD .non (didC C i j k p dn (w, d))) : W (m_Ring__did [.cell i, .str w, .int d] C) QD := by
  obtain ⟨h1, h2, h3⟩ := h.lt
  have hp := h.put (w, d)
  unfold m_Ring__did
  repeat' walk_at "ev"
  refine w_stand h ?_
  repeat' walk_at "ev"
  refine dancers_ok (.f _ _) ?_
  repeat' walk_at "ev"
  refine isdeed_ok (e := (w, d)) (by rw [← hn]; exact he) ?_
  repeat' walk_at "ev"
  refine w_M ?_
  repeat' walk_at "ev"
  refine ⟨i, _, rfl, h.o, rfl, ?_⟩
  repeat' walk_at "ev"
  refine ⟨rfl, ?_⟩
  refine put_ok (e := (w, d)) h v hn he hl ?_
  repeat' walk_at "ev"
  refine w_sFld ?_
  repeat' walk_at "ev"
  refine ⟨i, _, rfl, at_lo hp.o, by show (3 : Nat) < 1000; decide, ?_⟩
  repeat' walk_at "ev"
  rw [show (putC C i j k p dn (w, d)).length = C.length from by simp]
  exact q
theorem go_ok {d : Int} (h : RingAt C i j k p dn bk) (v : Vs p.1 p.2) (hn : n = p.1.length - 1) (hd : 1 ≤ d ∧ d ≤ n) (hl : dn.length < 100000) (q : QD .non (didC C i j k p dn ("go", d))) : W (m_Ring__go [.cell i, .int d] C) QD := by
  unfold m_Ring__go
  repeat' walk_at "ev"
  refine w_M ?_
  repeat' walk_at "ev"
  refine ⟨i, _, rfl, h.o, rfl, ?_⟩
  repeat' walk_at "ev"
  refine ⟨rfl, ?_⟩
  refine did_ok (w := "go") h v hn ⟨.inl rfl, hd⟩ hl ?_
  repeat' walk_at "ev"
  exact q
theorem come_ok {d : Int} (h : RingAt C i j k p dn bk) (v : Vs p.1 p.2) (hn : n = p.1.length - 1) (hd : 1 ≤ d ∧ d ≤ n) (hl : dn.length < 100000) (q : QD .non (didC C i j k p dn ("come", d))) : W (m_Ring__come [.cell i, .int d] C) QD := by
  unfold m_Ring__come
  repeat' walk_at "ev"
  refine w_M ?_
  repeat' walk_at "ev"
  refine ⟨i, _, rfl, h.o, rfl, ?_⟩
  repeat' walk_at "ev"
  refine ⟨rfl, ?_⟩
  refine did_ok (w := "come") h v hn ⟨.inr rfl, hd⟩ hl ?_
  repeat' walk_at "ev"
  exact q
end


/-! a ring made, and asked -/
section
variable {C : Store} {QD : D → Store → Prop} {i j k : Nat} {p : List Int × List Int} {dn : List (Dd × (List Int × List Int))} {bk : List Dd} {rs ls : List Int} {x : D}
theorem first_stand_ok (hx : IsSt C x rs ls) (v : Vs rs ls) (q : QD (.tup [.cell C.length, .cell (C.length + 1)]) (C ++ [iL rs, iL ls])) : W (m_first_stand [.non, x] C) QD := by
  have hx' := hx
  obtain ⟨a, b, rfl, ha, hb⟩ := hx
  unfold m_first_stand
  repeat' walk_at "ev"
  refine need_ok hx' v ?_
  repeat' walk_at "ev"
  refine copied_ok hx' ?_
  repeat' walk_at "ev"
  exact fin_two0 (j := 0) (k := 1) rfl rfl (by decide) (closed_iL _ _) (closed_iL _ _) q
theorem first_size_ok {n : Nat} (h1 : 1 ≤ n) (h2 : n ≤ 200) (q : QD (.tup [.cell C.length, .cell (C.length + 1)]) (C ++ [iL (whR n), iL (whL n)])) : W (m_first_stand [.int n, .non] C) QD := by
  unfold m_first_stand
  repeat' walk_at "ev"
  refine whole_ok h1 h2 ?_
  repeat' walk_at "ev"
  exact fin_two0 (j := 0) (k := 1) rfl rfl (by decide) (closed_iL _ _) (closed_iL _ _) q
theorem pf1 {s d : D} : putFD "done_held" d [("stand_held", s)] = ([("stand_held", s), ("done_held", d)] : List (Str × D)) := rfl
theorem pf2 {s d e : D} : putFD "back_held" e [("stand_held", s), ("done_held", d)] = ([("stand_held", s), ("done_held", d), ("back_held", e)] : List (Str × D)) := rfl
theorem init_tail {y z : D} {a b : List Int} (hf : ∀ {QD : D → Store → Prop} {Y : Store}, QD (.tup [.cell (C ++ Y).length, .cell ((C ++ Y).length + 1)]) (C ++ Y ++ [iL a, iL b]) → W (m_first_stand [y, z] (C ++ Y)) QD) (q : QD .non (C ++ [obR (a, b) (C.length + 1) (C.length + 2), .lst [], .lst []])) : W (m_Ring____init__ [.cell C.length, y, z] (C ++ [.obj "Ring" []])) QD := by
  unfold m_Ring____init__
  repeat' walk_at "ev"
  refine w_sFld ?_
  repeat' walk_at "ev"
  refine w_fzS ?_
  repeat' walk_at "ev"
  refine hf ?_
  refine ⟨_, _, rfl, rfl, closedDs_ints _ _, closedDs_ints _ _, ?_⟩
  repeat' walk_at "ev"
  refine ⟨C.length, _, rfl, at_app0, by decide, ?_⟩
  rw [show (C ++ [Cell.obj "Ring" []]).set C.length (.obj "Ring" (putFD "stand_held" (.tup [.lst (a.map D.int), .lst (b.map D.int)]) [])) = C ++ [.obj "Ring" [("stand_held", sD a b)]] from by rw [set_app0]; rfl]
  repeat' walk_at "ev"
  refine w_sFld ?_
  repeat' walk_at "ev"
  refine ⟨C.length, _, rfl, at_lo at_app0, by show (1 : Nat) < 1000; decide, ?_⟩
  rw [show (C ++ [Cell.obj "Ring" [("stand_held", sD a b)]] ++ [Cell.lst []]).set C.length (Cell.obj "Ring" (putFD "done_held" (D.cell (C ++ [Cell.obj "Ring" [("stand_held", sD a b)]]).length) [("stand_held", sD a b)])) = C ++ [.obj "Ring" [("stand_held", sD a b), ("done_held", .cell (C.length + 1))], .lst []] from by
    rw [pf1, List.append_assoc, set_app0]
    simp]
  repeat' walk_at "ev"
  refine w_sFld ?_
  repeat' walk_at "ev"
  refine ⟨C.length, _, rfl, at_lo at_app0, by show (2 : Nat) < 1000; decide, ?_⟩
  rw [show (C ++ [Cell.obj "Ring" [("stand_held", sD a b), ("done_held", .cell (C.length + 1))], Cell.lst []] ++ [Cell.lst []]).set C.length (Cell.obj "Ring" (putFD "back_held" (D.cell (C ++ [Cell.obj "Ring" [("stand_held", sD a b), ("done_held", D.cell (C.length + 1))], Cell.lst []]).length) [("stand_held", sD a b), ("done_held", .cell (C.length + 1))])) = C ++ [obR (a, b) (C.length + 1) (C.length + 2), .lst [], .lst []] from by
    rw [pf2, List.append_assoc, set_app0]
    simp]
  repeat' walk_at "ev"
  exact q
theorem init_stand (hx : IsSt C x rs ls) (v : Vs rs ls) (q : QD .non (C ++ [obR (rs, ls) (C.length + 1) (C.length + 2), .lst [], .lst []])) : W (m_Ring____init__ [.cell C.length, .non, x] (C ++ [.obj "Ring" []])) QD := init_tail (fun {QD} {Y} q => first_stand_ok hx.app v q) q
theorem init_size {n : Nat} (h1 : 1 ≤ n) (h2 : n ≤ 200) (q : QD .non (C ++ [obR (whR n, whL n) (C.length + 1) (C.length + 2), .lst [], .lst []])) : W (m_Ring____init__ [.cell C.length, .int n, .non] (C ++ [.obj "Ring" []])) QD := init_tail (fun {QD} {Y} q => first_size_ok h1 h2 q) q
theorem made_at : RingAt (C ++ [obR p (C.length + 1) (C.length + 2), .lst [], .lst []]) C.length (C.length + 1) (C.length + 2) p [] [] := ⟨at_app0, by rw [List.getElem?_append_right (by omega)]; simp, by rw [List.getElem?_append_right (by omega)]; simp, by omega, by omega, by omega⟩
theorem rstand_ok (h : RingAt C i j k p dn bk) (q : QD (.tup [.cell C.length, .cell (C.length + 1)]) (C ++ [iL p.1, iL p.2])) : W (m_Ring__stand [.cell i] C) QD := by
  unfold m_Ring__stand
  repeat' walk_at "ev"
  refine w_stand h ?_
  repeat' walk_at "ev"
  refine copied_ok (.f _ _) ?_
  repeat' walk_at "ev"
  exact fin_two0 (j := 0) (k := 1) rfl rfl (by decide) (closed_iL _ _) (closed_iL _ _) q
theorem rhistory_ok (h : RingAt C i j k p dn bk) (hl : dn.length ≤ 100000) (q : QD (.cell C.length) (C ++ [.lst ((dn.map (·.1)).map dD)])) : W (m_Ring__history [.cell i] C) QD := by
  have hd := h.d
  have hle : (dn.map enD).length ≤ sizeLine := by rw [List.length_map]; exact Nat.le_trans hl (by decide)
  unfold m_Ring__history
  repeat' walk_at "ev"
  refine w_done h ?_
  repeat' walk_at "ev"
  refine w_lcA (φ := enD) (l := dn) (f := fun e => dD e.1) (fun p hp => by cases List.mem_singleton.mp hp; exact hd) (fun i e he => ?_) ?_
  · repeat' walk_at "ev"
    exact ⟨rfl, rfl⟩
  rw [show dn.map (fun e => dD e.1) = (dn.map (·.1)).map dD from by rw [List.map_map]; rfl]
  repeat' walk_at "ev"
  exact fin_one0 (k := 0) rfl (dD_closed _) q
theorem rlen_ok (h : RingAt C i j k p dn bk) (hl : dn.length ≤ 100000) (q : QD (.int (dn.length : Nat)) C) : W (on1 (gLenO "Ring" 1 m_Ring____len__) [.cell i] C) QD := by
  have hd := h.d
  refine w_lenO h.o ?_
  unfold m_Ring____len__
  repeat' walk_at "ev"
  refine w_done h ?_
  repeat' walk_at "ev"
  rw [List.length_map]
  exact fin_closed0 rfl ⟨_, rfl, by omega, by omega, q⟩
end


section
variable {G : Store} {S S' : Cell} {QD : D → Store → Prop}
theorem fin_oneS {Y : Store} {a : Cell} {j : Nat} (hS : closedC 0 S' = true) (hk : Y[j]? = some a) (ha : closedC 0 a = true) (h : QD (.cell (S :: G).length) ((S' :: G) ++ [a])) : W (fin (S :: G) (.cell ((S' :: G).length + j)) ((S' :: G) ++ Y)) QD := by
  refine W.of (a := .cell (S :: G).length) (C := (S' :: G) ++ [a]) ?_ h
  have cond : (S :: G).length ≤ ((S' :: G) ++ Y).length ∧ ∀ (i : Nat), i < (S :: G).length → ((S' :: G) ++ Y)[i]? = (S :: G)[i]? ∨ ∃ c, ((S' :: G) ++ Y)[i]? = some c ∧ closedC (S :: G).length c = true := by
    refine ⟨by simp, fun i hi => ?_⟩
    cases i with
    | zero => exact .inr ⟨S', rfl, closedC_mono (Nat.zero_le _) _ hS⟩
    | succ i =>
      refine .inl ?_
      have hi : i < G.length := by simpa using hi
      show (G ++ Y)[i]? = G[i]?
      rw [List.getElem?_append_left hi]
  unfold fin
  rw [if_pos cond]
  simp only [at_app, hk]
  rw [if_neg (by simp), if_pos (closedC_mono (Nat.zero_le _) _ ha), app_take (by simp)]
end
section
variable {G X : Store} {n most : Int} {S : Cell} {QD : D → Store → Prop}
theorem actsR_ok (hS : Jr S) (n0 : 1 ≤ n) (n1 : n ≤ 1000) (m0 : 0 ≤ most) (m1 : most ≤ 1000) (q : ∀ S' h, Jr S' → OkH n h → (h.length : Int) ≤ most → QD (.cell (S :: G).length) ((S' :: G) ++ [.lst (h.map dD)])) : W (m__law_acts [.cell 0, .int n, .int most] (S :: G)) QD := by
  unfold m__law_acts
  repeat' walk_at "ev"
  refine pull_c0 hS (by omega) (by omega) fun ct S1 k0 k1 hS1 => ?_
  obtain ⟨ct, rfl⟩ : ∃ t' : Nat, ct = t' := ⟨ct.toNat, by omega⟩
  repeat' walk_at "ev"
  refine pull_c0 hS1 (by omega) (by omega) fun way S2 r0 r1 hS2 => ?_
  repeat' walk_at "ev"
  refine w_forM (fun i sl C => ∃ S' h x6 x7 x8, sl = [some (.cell 0), some (.int n), some (.int most), some (.int ct), some (.int way), some (.cell (S :: G).length), x6, x7, x8] ∧ C = (S' :: G) ++ [.lst (h.map dD)] ∧ Jr S' ∧ OkH n h ∧ h.length = i) (fun _ _ _ _ => okG_nil _) ?_ ?_ ⟨S2, [], _, _, _, rfl, rfl, hS2, .nil, rfl⟩
  · intro i d sl C hd hi
    obtain ⟨S', h, x6, x7, x8, rfl, rfl, hS', hh, hl⟩ := hi
    obtain ⟨hi, rfl⟩ := rgD_get (n := ct) hd
    have hlen : (h.map dD).length < sizeLine := by
      rw [List.length_map]
      exact Nat.lt_of_lt_of_le (by omega : h.length < 10000) (by decide)
    repeat' walk_at "evq"
    refine ite_cut (fun (x : D) C' => ∃ w S1, x = .str w ∧ C' = (S1 :: G) ++ [.lst (h.map dD)] ∧ Jr S1 ∧ (w = "go" ∨ w = "come")) (fun _ => ?_) (fun _ => ?_) ?_
    · repeat' walk_at "ev"
      exact ⟨"go", S', rfl, rfl, hS', .inl rfl⟩
    · repeat' walk_at "ev"
      refine pull_c hS' (by decide) (by decide) fun rc S6 c0 c1 hS6 => ?_
      obtain ⟨w, hwd, hw2⟩ := pick2 c0 c1
      repeat' walk_at "ev"
      exact ⟨w, S6, rfl, rfl, hS6, hw2⟩
    rintro x C' ⟨w, S6, rfl, rfl, hS6, hw⟩
    repeat' walk_at "evq"
    refine pull_c hS6 (by omega) (by omega) fun rb S7 b0 b1 hS7 => ?_
    repeat' walk_at "evs"
    refine w_scut (QS' := fun f sl' C' => ∃ S' who, f = .nx ∧ sl' = [some (.cell 0), some (.int n), some (.int most), some (.int ct), some (.int way), some (.cell (S :: G).length), some (.int i), some (.str w), some (.int who)] ∧ C' = (S' :: G) ++ [.lst (h.map dD)] ∧ Jr S' ∧ 1 ≤ who ∧ who ≤ n) ?_ ?_
    · repeat' walk_at "ev"
      have base : ∃ S' who, (Fl.nx : Fl) = .nx ∧ [some (D.cell 0), some (.int n), some (.int most), some (.int ct), some (.int way), some (.cell (S :: G).length), some (.int i), some (.str w), some (.int (1 + rb))] = [some (.cell 0), some (.int n), some (.int most), some (.int ct), some (.int way), some (.cell (S :: G).length), some (.int i), some (.str w), some (.int who)] ∧ (S7 :: G) ++ [Cell.lst (h.map dD)] = (S' :: G) ++ [.lst (h.map dD)] ∧ Jr S' ∧ 1 ≤ who ∧ who ≤ n := ⟨S7, 1 + rb, rfl, rfl, rfl, hS7, by omega, by omega⟩
      by_cases hk : way = 1
      · refine ite_t (decide_eq_true hk) ?_
        repeat' walk_at "ev"
        refine w_neDeeds (h := h) (by exact at_app0) hh (by omega) ?_
        repeat' walk_at "ev"
        cases hlast : h.getLast? with
        | none =>
          have : h = [] := List.getLast?_eq_none_iff.mp hlast
          subst this
          refine ite_f rfl ?_
          refine ite_f rfl ?_
          repeat' walk_at "ev"
          exact base
        | some e =>
          have hne : h ≠ [] := fun z => by subst z; cases hlast
          have he := hh e (List.mem_of_getLast? hlast)
          have al : atI (h.map dD) (-1) = some (dD e) := atI_last hlast
          refine ite_t (by simpa using hne) ?_
          repeat' walk_at "ev"
          refine pull_c hS7 (by decide) (by decide) fun rd S8 d0 d1 hS8 => ?_
          repeat' walk_at "ev"
          refine w_ite (fun _ => ?_) (fun _ => ?_)
          · repeat' walk_at "ev"
            exact ⟨S8, e.2, rfl, rfl, rfl, hS8, he.2.1, he.2.2⟩
          · repeat' walk_at "ev"
            exact ⟨S8, 1 + rb, rfl, rfl, rfl, hS8, by omega, by omega⟩
      · refine ite_f (decide_eq_false hk) ?_
        refine ite_f rfl ?_
        repeat' walk_at "ev"
        exact base
    · rintro f sl' C' ⟨S8, who, rfl, rfl, rfl, hS8, w0, w1⟩
      have he : OkD n (w, who) := ⟨hw, w0, w1⟩
      repeat' walk_at "ev"
      refine isL_and (w_chkC at_app0) ?_
      repeat' walk_at "ev"
      rw [show (S :: G).length = (S8 :: G).length from rfl, set_app0, show [Cell.lst (h.map dD)].set 0 (.lst (h.map dD ++ [dD (w, who)])) = [.lst ((h ++ [(w, who)]).map dD)] from by simp]
      exact ⟨S8, _, _, _, _, rfl, rfl, hS8, hh.app (.one he), by simp [hl]⟩
  · intro sl C hi
    obtain ⟨S', h, x6, x7, x8, rfl, rfl, hS', hh, hl⟩ := hi
    rw [rgD_length] at hl
    repeat' walk_at "ev"
    refine fin_oneS (j := 0) (hS'.closed 0) rfl (dD_closed _) (q S' _ hS' hh ?_)
    omega
end


/-! what a step at a ring leaves as it is; deeds done back and again -/
/-- no cell points beyond the store -/
def SC (C : Store) : Prop := ∀ c ∈ C, closedC C.length c = true
theorem SC.set {C : Store} {l : Nat} {c : Cell} (h : SC C) (hc : closedC C.length c = true) : SC (C.set l c) := fun x hx => by
  rw [List.length_set]
  rcases List.mem_or_eq_of_mem_set hx with hx | rfl
  · exact h x hx
  · exact hc
theorem SC.app {C Y : Store} (h : SC C) (hY : ∀ c ∈ Y, closedC (C.length + Y.length) c = true) : SC (C ++ Y) := fun x hx => by
  rw [List.length_append]
  rcases List.mem_append.mp hx with hx | hx
  · exact closedC_mono (by omega) _ (h x hx)
  · exact hY x hx
theorem SC.one {c : Cell} {C : Store} (h : SC C) (hc : closedC C.length c = true) : SC (C ++ [c]) := h.app fun x hx => by
  rw [List.mem_singleton.mp hx]
  exact closedC_mono (by omega) _ hc
/-- what a step at the ring of the cells i, j, k leaves -/
structure Lv (C C' : Store) (i j k k' : Nat) : Prop where
  len : C.length ≤ C'.length
  at_ : ∀ l c, C[l]? = some c → l ≠ i → l ≠ j → l ≠ k → C'[l]? = some c
  nw : ∀ l, l < C.length → l ≠ k → l ≠ k'
  sc : SC C → SC C'
section
variable {C C' C2 : Store} {i j k k' k2 : Nat}
theorem Lv.refl : Lv C C i j k k := ⟨Nat.le_refl _, fun _ _ h _ _ _ => h, fun _ _ h => h, fun h => h⟩
theorem Lv.trans (h1 : Lv C C' i j k k') (h2 : Lv C' C2 i j k' k2) : Lv C C2 i j k k2 :=
  ⟨Nat.le_trans h1.len h2.len, fun l c h a b d => h2.at_ l c (h1.at_ l c h a b d) a b (h1.nw l (get_lt h) d), fun l hl d => h2.nw l (Nat.lt_of_lt_of_le hl h1.len) (h1.nw l hl d), fun h => h2.sc (h1.sc h)⟩
end
/-- the deeds done, each with the stand ahead -/
def hst : List Int × List Int → List Dd → List (Dd × (List Int × List Int))
  | _, [] => []
  | p, e :: es => (e, p) :: hst (step p e) es
theorem hst_len : ∀ (es : List Dd) (p : List Int × List Int), (hst p es).length = es.length
  | [], _ => rfl
  | e :: es, p => by
    show (hst (step p e) es).length + 1 = es.length + 1
    rw [hst_len es]
theorem hst_app : ∀ (es : List Dd) (e : Dd) (p : List Int × List Int), hst p (es ++ [e]) = hst p es ++ [(e, run p es)]
  | [], e, p => rfl
  | x :: es, e, p => by
    show (x, p) :: hst (step p x) (es ++ [e]) = (x, p) :: (hst (step p x) es ++ [(e, run (step p x) es)])
    rw [hst_app es]
abbrev enP (e : Dd × (List Int × List Int)) : PyData := .tuple [.tuple [.str e.1.1, .int e.1.2], .tuple [.list (e.2.1.map PyData.int), .list (e.2.2.map PyData.int)]]
/-- what is told of a ring's own lists -/
structure RgIn (n : Nat) (p : List Int × List Int) (dn : List (Dd × (List Int × List Int))) (bk : List Dd) : Prop where
  v : Vs p.1 p.2
  l : p.1.length = n + 1
  d : ∀ x ∈ dn, OkD n x.1 ∧ Vs x.2.1 x.2.2 ∧ x.2.1.length = n + 1
  b : OkH n bk
section
variable {n : Nat} {p : List Int × List Int} {dn : List (Dd × (List Int × List Int))} {bk : List Dd} {e : Dd}
theorem RgIn.n200 (h : RgIn n p dn bk) : n ≤ 201 := by
  have t1 := h.v.top
  have t2 := h.l
  omega
theorem RgIn.hn (h : RgIn n p dn bk) : (n : Int) = p.1.length - 1 := by have := h.l; omega
theorem RgIn.put (h : RgIn n p dn bk) (he : OkD n e) : RgIn n (step p e) (dn ++ [(e, p)]) bk := by
  obtain ⟨vs, vl⟩ := step_vs (n := n) h.v h.hn he
  refine ⟨vs, by rw [vl]; exact h.l, fun x hx => ?_, h.b⟩
  rcases List.mem_append.mp hx with hx | hx
  · exact h.d x hx
  · rw [List.mem_singleton.mp hx]
    exact ⟨he, h.v, h.l⟩
theorem RgIn.did (h : RgIn n p dn bk) (he : OkD n e) : RgIn n (step p e) (dn ++ [(e, p)]) [] := ⟨(h.put he).v, (h.put he).l, (h.put he).d, fun _ h => nomatch h⟩
theorem RgIn.back {p0 : List Int × List Int} (h : RgIn n p (dn ++ [(e, p0)]) bk) : RgIn n p0 dn (bk ++ [e]) := by
  obtain ⟨h1, h2, h3⟩ := h.d (e, p0) (List.mem_append.mpr (.inr (List.mem_singleton.mpr rfl)))
  refine ⟨h2, h3, fun x hx => h.d x (List.mem_append.mpr (.inl hx)), fun x hx => ?_⟩
  rcases List.mem_append.mp hx with hx | hx
  · exact h.b x hx
  · rw [List.mem_singleton.mp hx]
    exact h1
theorem RgIn.again (h : RgIn n p dn (bk ++ [e])) : RgIn n (step p e) (dn ++ [(e, p)]) bk := by
  have h0 : RgIn n p dn bk := ⟨h.v, h.l, h.d, fun x hx => h.b x (List.mem_append.mpr (.inl hx))⟩
  exact h0.put (h.b e (List.mem_append.mpr (.inr (List.mem_singleton.mpr rfl))))
theorem toPs0_map {A : Type} {f : A → D} {p : A → PyData} (h : ∀ a, toP0 (f a) = some (p a)) : ∀ l : List A, toPs0 (l.map f) = some (l.map p)
  | [] => rfl
  | x :: l => by
    show (match toP0 (f x), toPs0 (l.map f) with
      | some p, some ps => some (p :: ps)
      | _, _ => none) = _
    rw [h, toPs0_map h l]
    rfl
theorem toP0_stand (a b : List Int) : toP0 (sD a b) = some (.tuple [.list (a.map PyData.int), .list (b.map PyData.int)]) := by
  have h : ∀ l : List Int, toP0 (.lst (l.map D.int)) = some (.list (l.map PyData.int)) := fun l => by
    show (toPs0 (l.map D.int)).map PyData.list = _
    rw [toPs0_map (p := PyData.int) (fun _ => rfl)]
    rfl
  show (match toP0 (.lst (a.map D.int)), (match toP0 (.lst (b.map D.int)), (some [] : Option (List PyData)) with
      | some p, some ps => some (p :: ps)
      | _, _ => none) with
    | some p, some ps => some (p :: ps)
    | _, _ => none).map PyData.tuple = _
  rw [h, h]
  rfl
theorem toP0_en (e : Dd × (List Int × List Int)) : toP0 (enD e) = some (enP e) := by
  show (match toP0 (dD e.1), (match toP0 (sD e.2.1 e.2.2), (some [] : Option (List PyData)) with
      | some p, some ps => some (p :: ps)
      | _, _ => none) with
    | some p, some ps => some (p :: ps)
    | _, _ => none).map PyData.tuple = _
  rw [toP0_stand]
  rfl
theorem toP_en (e : Dd × (List Int × List Int)) (C : Store) : toP C (enD e) = some (enP e) := by
  have h : ∀ l : List Int, toP C (.lst (l.map D.int)) = some (.list (l.map PyData.int)) := fun l => toP_ints _ _
  show (match toP C (dD e.1), (match (match toP C (.lst (e.2.1.map D.int)), (match toP C (.lst (e.2.2.map D.int)), (some [] : Option (List PyData)) with
      | some p, some ps => some (p :: ps)
      | _, _ => none) with
    | some p, some ps => some (p :: ps)
    | _, _ => none).map PyData.tuple, (some [] : Option (List PyData)) with
      | some p, some ps => some (p :: ps)
      | _, _ => none) with
    | some p, some ps => some (p :: ps)
    | _, _ => none).map PyData.tuple = _
  rw [h, h]
  rfl
theorem shaped_dn (h : ∀ x ∈ dn, OkD n x.1 ∧ Vs x.2.1 x.2.2 ∧ x.2.1.length = n + 1) (hn : n ≤ 201) : SeqAt.shaped (.list (dn.map enP)) = true := by
  have h : Shw (.lst (dn.map enD)) ((47 + 17000 + 2 + 1) * dn.length) (max 1 2 + 1 + 1) (.list (dn.map enP)) := Shw.map (f := enD) (p := enP) toP_en fun e he => by
    obtain ⟨h1, h2, h3⟩ := h e he
    exact Shw.tup2 (Shw.deed h1 (by omega)) (Shw.stand h2)
  show (_ && decide (_ ≤ 64)) = true
  rw [Bool.and_eq_true]
  exact ⟨h.la, decide_eq_true (Nat.le_trans h.de (by decide))⟩
theorem shaped_bk (h : OkH n bk) (hn : n ≤ 201) : SeqAt.shaped (.list (bk.map fun e => .tuple [.str e.1, .int e.2])) = true := by
  have h := Shw.deeds h (by omega)
  show (_ && decide (_ ≤ 64)) = true
  rw [Bool.and_eq_true]
  exact ⟨h.la, decide_eq_true (Nat.le_trans h.de (by decide))⟩
end
section
variable {C : Store} {QD : D → Store → Prop} {i j k n : Nat} {p p0 : List Int × List Int} {dn : List (Dd × (List Int × List Int))} {bk : List Dd} {e : Dd}
theorem w_empP {ds : List D} {ps : List PyData} (hk : C[k]? = some (.lst ds)) (hp : toPs0 ds = some ps) (hl : ps.length = ds.length) (hs : SeqAt.shaped (.list ps) = true) (q : QD (.bl (decide (ds = []))) C) : W (gEq (.cell k) (.lst []) C) QD := by
  refine w_eqP (p := .list ps) (q := .list []) ?_ rfl hs rfl (fun a e => by cases e) ?_
  · show (lstAt C k).bind (fun ds => (toPs0 ds).map PyData.list) = _
    rw [lstAt_lst hk]
    show (toPs0 ds).map PyData.list = _
    rw [hp]
    rfl
  · show QD (.bl (PyData.eqvAll ps [])) C
    cases ps with
    | nil => cases ds with
      | nil => exact q
      | cons d ds => cases hl
    | cons x ps => cases ds with
      | nil => cases hl
      | cons d ds => exact q
theorem w_empD (h : RingAt C i j k p dn bk) (hi : RgIn n p dn bk) (q : QD (.bl (decide (dn = []))) C) : W (gEq (.cell j) (.lst []) C) QD := by
  refine w_empP h.d (toPs0_map toP0_en dn) (by simp) (shaped_dn hi.d hi.n200) ?_
  rwa [show decide (dn.map enD = []) = decide (dn = []) from by simp]
theorem w_empB (h : RingAt C i j k p dn bk) (hi : RgIn n p dn bk) (q : QD (.bl (decide (bk = []))) C) : W (gEq (.cell k) (.lst []) C) QD := by
  refine w_empP h.b (toPs0_map (p := fun e => .tuple [.str e.1, .int e.2]) (fun _ => rfl) bk) (by simp) (shaped_bk hi.b hi.n200) ?_
  rwa [show decide (bk.map dD = []) = decide (bk = []) from by simp]
theorem w_popL {ds : List D} {x : D} (hk : C[k]? = some (.lst (ds ++ [x]))) (h : QD x (C.set k (.lst ds))) : W (gPop (.cell k) [] C) QD := by
  refine W.of (a := x) (C := C.set k (.lst ds)) ?_ h
  have hc : cellOf C (.cell k) = some (k, ds ++ [x]) := by
    show (mutAt C k).map (fun ds => (k, ds)) = _
    unfold mutAt
    rw [hk]
    rfl
  unfold gPop
  rw [hc]
  simp
theorem closed_ob' {m : Nat} (h2 : j < m) (h3 : k < m) : closedC m (obR p j k) = true := by
  simp [closedC, closedD, closedDs, closedDs_ints]
  omega
theorem closed_en {m : Nat} : closedC m (enL dn) = true := by
  show closedDs m (dn.map enD) = true
  induction dn with
  | nil => rfl
  | cons x dn ih =>
    show (closedD m (enD x) && closedDs m (dn.map enD)) = true
    rw [ih]
    simp [closedD, closedDs, closedDs_ints]
theorem did_lv (h : RingAt C i j k p dn bk) : Lv C (didC C i j k p dn e) i j k C.length := by
  obtain ⟨h1, h2, h3⟩ := h.lt
  have hl : (didC C i j k p dn e).length = C.length + 1 := by simp [didC]
  refine ⟨by omega, fun l c hc a b d => ?_, fun l hl _ => by omega, fun hs => ?_⟩
  · have := get_lt hc
    unfold didC
    rw [List.getElem?_set_ne (Ne.symm a), List.getElem?_append_left (by simp; omega), List.getElem?_set_ne (Ne.symm a), List.getElem?_set_ne (Ne.symm b)]
    exact hc
  · unfold didC
    refine SC.set (SC.one (SC.set (SC.set hs closed_en) ?_) rfl) ?_
    · rw [List.length_set]
      exact closed_ob' h2 h3
    · refine closed_ob' ?_ ?_ <;> simp <;> omega
theorem put_lv (h : RingAt C i j k p dn bk) : Lv C (putC C i j k p dn e) i j k k := by
  obtain ⟨h1, h2, h3⟩ := h.lt
  refine ⟨by simp, fun l c hc a b d => ?_, fun l hl h => h, fun hs => ?_⟩
  · rw [List.getElem?_set_ne (Ne.symm a), List.getElem?_set_ne (Ne.symm b)]
    exact hc
  · refine SC.set (SC.set hs closed_en) ?_
    rw [List.length_set]
    exact closed_ob' h2 h3
theorem goF {d : Int} (h : RingAt C i j k p dn bk) (hi : RgIn n p dn bk) (hd : 1 ≤ d ∧ d ≤ n) (hl : dn.length < 100000) (q : ∀ C' k', RingAt C' i j k' (step p ("go", d)) (dn ++ [((("go", d) : Dd), p)]) [] → RgIn n (step p ("go", d)) (dn ++ [((("go", d) : Dd), p)]) [] → Lv C C' i j k k' → QD .non C') : W (m_Ring__go [.cell i, .int d] C) QD :=
  go_ok h hi.v hi.hn hd hl (q _ _ (h.did _) (hi.did ⟨.inl rfl, hd⟩) (did_lv h))
theorem comeF {d : Int} (h : RingAt C i j k p dn bk) (hi : RgIn n p dn bk) (hd : 1 ≤ d ∧ d ≤ n) (hl : dn.length < 100000) (q : ∀ C' k', RingAt C' i j k' (step p ("come", d)) (dn ++ [((("come", d) : Dd), p)]) [] → RgIn n (step p ("come", d)) (dn ++ [((("come", d) : Dd), p)]) [] → Lv C C' i j k k' → QD .non C') : W (m_Ring__come [.cell i, .int d] C) QD :=
  come_ok h hi.v hi.hn hd hl (q _ _ (h.did _) (hi.did ⟨.inr rfl, hd⟩) (did_lv h))
theorem putF (h : RingAt C i j k p dn bk) (hi : RgIn n p dn bk) (he : OkD n e) (hl : dn.length < 100000) (q : ∀ C', RingAt C' i j k (step p e) (dn ++ [(e, p)]) bk → RgIn n (step p e) (dn ++ [(e, p)]) bk → Lv C C' i j k k → QD .non C') : W (m_Ring__put [.cell i, dD e] C) QD :=
  put_ok h hi.v hi.hn he hl (q _ (h.put e) (hi.put he) (put_lv h))
/-- the last deed done back -/
theorem backF (h : RingAt C i j k p (dn ++ [(e, p0)]) bk) (hi : RgIn n p (dn ++ [(e, p0)]) bk) (hl : bk.length < 100000) (q : ∀ C', RingAt C' i j k p0 dn (bk ++ [e]) → RgIn n p0 dn (bk ++ [e]) → Lv C C' i j k k → QD .non C') : W (m_Ring__back [.cell i] C) QD := by
  obtain ⟨h1, h2, h3⟩ := h.lt
  have lt : (bk.map dD).length < sizeLine := by rw [List.length_map]; exact Nat.lt_of_lt_of_le hl (by decide)
  have hd : C[j]? = some (.lst (dn.map enD ++ [enD (e, p0)])) := by
    have := h.d
    rwa [show enL (dn ++ [(e, p0)]) = .lst (dn.map enD ++ [enD (e, p0)]) from by simp [enL]] at this
  have g1 : (C.set j (.lst (dn.map enD)))[i]? = some (obR p j k) := by rw [List.getElem?_set_ne (Ne.symm h.ij)]; exact h.o
  have g2 : (C.set j (.lst (dn.map enD)))[k]? = some (.lst (bk.map dD)) := by rw [List.getElem?_set_ne h.jk]; exact h.b
  have g3 : ((C.set j (.lst (dn.map enD))).set k (.lst (bk.map dD ++ [dD e])))[i]? = some (obR p j k) := by rw [List.getElem?_set_ne (Ne.symm h.ik)]; exact g1
  have hne : ¬ (dn ++ [(e, p0)] = []) := by simp
  unfold m_Ring__back
  repeat' walk_at "ev"
  refine w_done h ?_
  repeat' walk_at "ev"
  refine w_empD h hi ?_
  refine ⟨_, rfl, ite_f (decide_eq_false hne) ?_⟩
  repeat' walk_at "ev"
  refine w_done h ?_
  repeat' walk_at "ev"
  refine ⟨w_chkC hd, ?_⟩
  refine w_popL hd ?_
  repeat' walk_at "ev"
  refine w_gfld (v := .cell k) g1 rfl ?_
  repeat' walk_at "ev"
  refine ⟨w_chkC g2, ?_⟩
  repeat' walk_at "ev"
  refine w_sFld ?_
  repeat' walk_at "ev"
  refine ⟨i, _, rfl, g3, by show (3 : Nat) < 1000; decide, ?_⟩
  repeat' walk_at "ev"
  refine q _ ⟨?_, ?_, ?_, h.ij, h.ik, h.jk⟩ hi.back ⟨by simp, fun l c hc a b d => ?_, fun _ _ h => h, fun hs => ?_⟩
  · rw [List.getElem?_set_self (by simpa using h1)]
    rfl
  · rw [List.getElem?_set_ne h.ij, List.getElem?_set_ne (Ne.symm h.jk), List.getElem?_set_self h2]
  · rw [List.getElem?_set_ne h.ik, List.getElem?_set_self (by simpa using h3)]
    simp
  · rw [List.getElem?_set_ne (Ne.symm a), List.getElem?_set_ne (Ne.symm d), List.getElem?_set_ne (Ne.symm b)]
    exact hc
  · refine SC.set (SC.set (SC.set hs closed_en) ?_) ?_
    · rw [show bk.map dD ++ [dD e] = (bk ++ [e]).map dD from by simp]
      exact closedC_mono (Nat.zero_le _) _ (dD_closed _)
    · simp only [List.length_set]
      exact closed_ob' h2 h3
/-- the last one done back is done again -/
theorem againF (h : RingAt C i j k p dn (bk ++ [e])) (hi : RgIn n p dn (bk ++ [e])) (hl : dn.length < 100000) (q : ∀ C', RingAt C' i j k (step p e) (dn ++ [(e, p)]) bk → RgIn n (step p e) (dn ++ [(e, p)]) bk → Lv C C' i j k k → QD .non C') : W (m_Ring__again [.cell i] C) QD := by
  obtain ⟨h1, h2, h3⟩ := h.lt
  have hb : C[k]? = some (.lst (bk.map dD ++ [dD e])) := by
    have := h.b
    rwa [show (bk ++ [e]).map dD = bk.map dD ++ [dD e] from by simp] at this
  have hr : RingAt (C.set k (.lst (bk.map dD))) i j k p dn bk := ⟨by rw [List.getElem?_set_ne (Ne.symm h.ik)]; exact h.o, by rw [List.getElem?_set_ne (Ne.symm h.jk)]; exact h.d, List.getElem?_set_self h3, h.ij, h.ik, h.jk⟩
  have hi2 : RgIn n p dn bk := ⟨hi.v, hi.l, hi.d, fun x hx => hi.b x (List.mem_append.mpr (.inl hx))⟩
  have he : OkD n e := hi.b e (List.mem_append.mpr (.inr (List.mem_singleton.mpr rfl)))
  have lk : Lv C (C.set k (.lst (bk.map dD))) i j k k := ⟨by simp, fun l c hc a b d => by rw [List.getElem?_set_ne (Ne.symm d)]; exact hc, fun _ _ h => h, fun hs => SC.set hs (closedC_mono (Nat.zero_le _) _ (dD_closed _))⟩
  have hne : ¬ (bk ++ [e] = []) := by simp
  unfold m_Ring__again
  repeat' walk_at "ev"
  refine w_back h ?_
  repeat' walk_at "ev"
  refine w_empB h hi ?_
  refine ⟨_, rfl, ite_f (decide_eq_false hne) ?_⟩
  repeat' walk_at "ev"
  refine w_M ?_
  repeat' walk_at "ev"
  refine ⟨i, _, rfl, h.o, rfl, ?_⟩
  repeat' walk_at "ev"
  refine w_back h ?_
  repeat' walk_at "ev"
  refine ⟨w_chkC hb, ?_⟩
  refine w_popL hb ?_
  repeat' walk_at "ev"
  refine ⟨rfl, ?_⟩
  refine putF hr hi2 he hl fun C' r2 i2 l2 => ?_
  repeat' walk_at "ev"
  exact q C' r2 i2 (lk.trans l2)
theorem x_runK {n : Nat} {u : MS} {ds : List D} {P : Exn → Store → Prop} {sl' : Sl} (e : ds.map some ++ List.replicate (n - ds.length) none = sl') (h : EXp (u sl' C) P) : EXp (runK n u ds C) P := by
  subst e
  exact x_bind h
theorem x_raise0 {x : Str} {sl : Sl} {P : Exn → Store → Prop} (h : P ⟨x, none⟩ C) : EXp (sRaise0 x sl C) P := ⟨_, _, rfl, h⟩
theorem again_x {P : Exn → Store → Prop} (h : RingAt C i j k p dn []) (hi : RgIn n p dn []) (q : P ⟨"Nothing", none⟩ C) : EXp (m_Ring__again [.cell i] C) P := by
  unfold m_Ring__again
  refine x_runK (by walk_at "sr") (x_seq1 (x_if ?_))
  repeat' walk_at "ev"
  refine w_back h ?_
  repeat' walk_at "ev"
  refine w_empB h hi ?_
  repeat' walk_at "ev"
  exact x_raise0 q
end
section
variable {C : Store} {QD : D → Store → Prop} {x : Str} {n np nk pre post : Nat} {sl : Sl} {mas mks : MG (List D)} {mf : MF}
theorem w_IZ (h : W (mas sl C) fun xs C1 => W (mks sl C1) fun ys C2 => xs.length = np ∧ ys.length = nk ∧ 1 + np + pre + nk + post = n ∧ ∃ zs, xs ++ (List.replicate pre .non ++ (ys ++ List.replicate post .non)) = zs ∧ W (mf (.cell C2.length :: zs) (C2 ++ [.obj x []])) fun d C3 => d = .non ∧ QD (.cell C2.length) C3) : W (mI x n np nk pre post mf mas mks sl C) QD :=
  w_I (h.imp fun xs C1 h => h.imp fun ys C2 h => by
    obtain ⟨h1, h2, h3, zs, rfl, h4⟩ := h
    exact ⟨h1, h2, h3, h4⟩)
end


section
variable {C : Store} {QD : D → Store → Prop}
end
theorem ite_cut {S : Type} {b : Bool} {o1 o2 : R (S × Store)} {Q : S → Store → Prop} (Q' : S → Store → Prop) (h1 : b = true → W o1 Q') (h2 : b = false → W o2 Q') (k : ∀ a C, Q' a C → Q a C) : if b = true then W o1 Q else W o2 Q := by
  cases b with
  | true => exact (h1 rfl).imp k
  | false => exact (h2 rfl).imp k


/-! a ring begun, with its hands; what else a ring tells -/
section
variable {C : Store} {QD : D → Store → Prop} {i j k h d n : Nat} {p : List Int × List Int} {dn : List (Dd × (List Int × List Int))} {bk : List Dd} {S : Cell} {x : Int}
theorem begun_ok (hS : Jr S) (n0 : 1 ≤ n) (n1 : n ≤ 200) (q : ∀ C' S' (i j k h : Nat) (p : List Int × List Int) kvs, RingAt C' i j k p [] [] → RgIn n p [] [] → C'[h]? = some (.dt kvs) → DHas kvs p.1 p.2 → C'[0]? = some S' → Jr S' → SC C' → (0 ≠ i ∧ 0 ≠ j ∧ 0 ≠ k ∧ 0 ≠ h) → (h ≠ i ∧ h ≠ j ∧ h ≠ k) → QD (.tup [.cell i, .cell h]) C') : W (m__law_begun [.cell 0, .int n] [S]) QD := by
  have e1 : ∀ c : Cell, ([c] : Store).length = 1 := fun _ => rfl
  unfold m__law_begun
  repeat' walk_at "ev"
  refine pull_ok (S := S) rfl hS (by decide) (by decide) fun r0 S2 a0 b0 hS2 => ?_
  rw [show ([S] : Store).set 0 S2 = [S2] from rfl]
  have sc2 : SC [S2] := fun c hc => by
    rw [List.mem_singleton.mp hc]
    exact hS2.closed _
  repeat' walk_at "ev"
  by_cases hr0 : r0 = 0
  · refine ite_t (decide_eq_true hr0) ?_
    repeat' walk_at "ev"
    refine w_IZ ?_
    repeat' walk_at "ev"
    refine ⟨rfl, [.int (n : Nat), .non], rfl, ?_⟩
    refine init_size n0 n1 ?_
    refine ⟨rfl, ?_⟩
    have hR := made_at (C := [S2]) (p := (whR n, whL n))
    have g0 : ([S2] ++ [obR (whR n, whL n) (([S2] : Store).length + 1) (([S2] : Store).length + 2), .lst [], .lst []])[0]? = some S2 := rfl
    have gs : SC ([S2] ++ [obR (whR n, whL n) (([S2] : Store).length + 1) (([S2] : Store).length + 2), .lst [], .lst []]) := SC.app sc2 (by
      intro c hc
      simp only [List.mem_cons, List.not_mem_nil, or_false] at hc
      rcases hc with rfl | rfl | rfl
      · simp [closedC, closedD, closedDs, closedDs_ints]
      · rfl
      · rfl)
    have gl : ([S2] ++ [obR (whR n, whL n) (([S2] : Store).length + 1) (([S2] : Store).length + 2), Cell.lst [], Cell.lst []]).length = 4 := rfl
    rw [e1] at hR g0 gs gl ⊢
    generalize [S2] ++ [obR (whR n, whL n) (1 + 1) (1 + 2), .lst [], .lst []] = C10 at hR g0 gs gl ⊢
    repeat' walk_at "ev"
    refine ring_ok n0 (by omega) fun kw hkw => ?_
    have k3 : (C10 ++ [Cell.dt kw])[4]? = some (.dt kw) := by
      rw [← gl]
      exact at_app0
    rw [gl]
    repeat' walk_at "ev"
    exact q _ S2 1 2 3 4 (whR n, whL n) kw hR.app ⟨wh_vs n0 (by omega), by simp [whR], (fun _ h => nomatch h), (fun _ h => nomatch h)⟩ k3 hkw (at_lo g0) hS2 (SC.one gs (closedDs_mono (Nat.zero_le _) _ hkw.cl)) ⟨by decide, by decide, by decide, by decide⟩ ⟨by decide, by decide, by decide⟩
  · refine ite_f (decide_eq_false hr0) ?_
    repeat' walk_at "ev"
    refine w_fz2 ?_
    repeat' walk_at "ev"
    refine any_ok (G := []) hS2 ClS.nil n0 n1 fun S3 rs ls hS3 v vl => ?_
    refine ⟨_, _, [S3], rfl, rfl, rfl, fun c hc => by rw [List.mem_singleton.mp hc]; exact hS3.closed _, closedDs_ints _ _, closedDs_ints _ _, ?_⟩
    have sc3 : SC [S3] := fun c hc => by
      rw [List.mem_singleton.mp hc]
      exact hS3.closed _
    repeat' walk_at "ev"
    refine w_IZ ?_
    repeat' walk_at "ev"
    refine ⟨rfl, [.non, sD rs ls], rfl, ?_⟩
    refine init_stand (IsSt.f rs ls) v ?_
    refine ⟨rfl, ?_⟩
    have hR := made_at (C := [S3]) (p := (rs, ls))
    have g0 : ([S3] ++ [obR (rs, ls) (([S3] : Store).length + 1) (([S3] : Store).length + 2), .lst [], .lst []])[0]? = some S3 := rfl
    have gs : SC ([S3] ++ [obR (rs, ls) (([S3] : Store).length + 1) (([S3] : Store).length + 2), .lst [], .lst []]) := SC.app sc3 (by
      intro c hc
      simp only [List.mem_cons, List.not_mem_nil, or_false] at hc
      rcases hc with rfl | rfl | rfl
      · simp [closedC, closedD, closedDs, closedDs_ints]
      · rfl
      · rfl)
    have gl : ([S3] ++ [obR (rs, ls) (([S3] : Store).length + 1) (([S3] : Store).length + 2), Cell.lst [], Cell.lst []]).length = 4 := rfl
    rw [e1] at hR g0 gs gl ⊢
    generalize [S3] ++ [obR (rs, ls) (1 + 1) (1 + 2), .lst [], .lst []] = C10 at hR g0 gs gl ⊢
    repeat' walk_at "ev"
    refine hands_okB (IsSt.f _ _) v fun kw hkw => ?_
    have k3 : (C10 ++ [Cell.dt kw])[4]? = some (.dt kw) := by
      rw [← gl]
      exact at_app0
    rw [gl]
    repeat' walk_at "ev"
    exact q _ S3 1 2 3 4 (rs, ls) kw hR.app ⟨v, vl, (fun _ h => nomatch h), (fun _ h => nomatch h)⟩ k3 hkw (at_lo g0) hS3 (SC.one gs (closedDs_mono (Nat.zero_le _) _ hkw.cl)) ⟨by decide, by decide, by decide, by decide⟩ ⟨by decide, by decide, by decide⟩
theorem w_mfz {sl : Sl} {mo : ME} {m : Nat} (h : RingAt C i j k p dn bk) (ho : W (mo sl C) fun x C1 => x = .cell i ∧ C1 = C) (q : QD (sD p.1 p.2) C) : W (mFz (m + 2) (mM "Ring" "stand" 1 m_Ring__stand mo aNil) sl C) QD := by
  refine w_fzS ?_
  refine w_M (ho.imp fun x C1 hx => ?_)
  obtain ⟨rfl, rfl⟩ := hx
  refine ⟨i, _, rfl, h.o, rfl, ?_⟩
  repeat' walk_at "ev"
  refine ⟨rfl, ?_⟩
  exact rstand_ok h ⟨_, _, rfl, rfl, closedDs_ints _ _, closedDs_ints _ _, q⟩
theorem w_hfz {sl : Sl} {mo : ME} {m : Nat} (h : RingAt C i j k p dn bk) (hl : dn.length ≤ 100000) (ho : W (mo sl C) fun x C1 => x = .cell i ∧ C1 = C) (q : QD (.lst ((dn.map (·.1)).map dD)) C) : W (mFz (m + 1) (mM "Ring" "history" 1 m_Ring__history mo aNil) sl C) QD := by
  refine w_fzL ?_
  refine w_M (ho.imp fun x C1 hx => ?_)
  obtain ⟨rfl, rfl⟩ := hx
  refine ⟨i, _, rfl, h.o, rfl, ?_⟩
  repeat' walk_at "ev"
  refine ⟨rfl, ?_⟩
  exact rhistory_ok h hl ⟨_, rfl, rfl, dD_closed _, q⟩
theorem x_M {P : Exn → Store → Prop} {sl : Sl} {x m : Str} {n : Nat} {mf : MF} {mo : ME} {mas : MG (List D)} (h : W (mo sl C) fun d C1 => ∃ i fs, d = .cell i ∧ C1[i]? = some (.obj x fs) ∧ fs.lookup m = none ∧ W (mas sl C1) fun xs C2 => xs.length + 1 = n ∧ EXp (mf (.cell i :: xs) C2) P) : EXp (mM x m n mf mo mas sl C) P := by
  refine x_bindW (h.imp fun d C1 hx => ?_)
  obtain ⟨i, fs, rfl, ho, hl, h2⟩ := hx
  show EXp (match objAt C1 x (.cell i) with
    | some (_, fs) => if fs.lookup m = none then (mas sl C1).bind fun q => if q.1.length + 1 = n then mf (.cell i :: q.1) q.2 else .no else .no
    | none => .no) P
  rw [objAt_c ho]
  simp only
  rw [if_pos hl]
  refine x_bindW (h2.imp fun xs C2 hy => ?_)
  simp only
  rw [if_pos hy.1]
  exact hy.2
end


section
variable {C : Store} {QD : D → Store → Prop} {i j k h d n : Nat} {p : List Int × List Int} {dn : List (Dd × (List Int × List Int))} {kvs : List (List Key × D)} {e : Dd}
/-- what stands in a turn: a ring, a dict of its hands, the deeds so far -/
structure TnR (C : Store) (i j k h d n : Nat) (p : List Int × List Int) (dn : List (Dd × (List Int × List Int))) (kvs : List (List Key × D)) : Prop where
  s : ∃ S, C[0]? = some S ∧ Jr S
  r : RingAt C i j k p dn []
  g : RgIn n p dn []
  hh : C[h]? = some (.dt kvs)
  dd : C[d]? = some (.lst ((dn.map (·.1)).map dD))
  hd : DHas kvs p.1 p.2
  sc : SC C
  z : 0 ≠ i ∧ 0 ≠ j ∧ 0 ≠ k ∧ 0 ≠ h ∧ 0 ≠ d
  nh : h ≠ i ∧ h ≠ j ∧ h ≠ k
  nd : d ≠ i ∧ d ≠ j ∧ d ≠ k ∧ d ≠ h
theorem TnR.next {C2 : Store} {k2 : Nat} {p2 : List Int × List Int} {kvs2 : List (List Key × D)} {e : Dd} (t : TnR C i j k h d n p dn kvs) (r2 : RingAt C2 i j k2 p2 (dn ++ [(e, p)]) []) (g2 : RgIn n p2 (dn ++ [(e, p)]) []) (v : Lv C C2 i j k k2) (hk : DHas kvs2 p2.1 p2.2) :
    TnR ((C2.set h (.dt kvs2)).set d (.lst ((dn.map (·.1)).map dD ++ [dD e]))) i j k2 h d n p2 (dn ++ [(e, p)]) kvs2 := by
  obtain ⟨z1, z2, z3, z4, z5⟩ := t.z
  obtain ⟨h1, h2, h3⟩ := t.nh
  obtain ⟨d1, d2, d3, d4⟩ := t.nd
  obtain ⟨S, hS, jS⟩ := t.s
  have lh := get_lt t.hh
  have ld := get_lt t.dd
  have l0 := get_lt hS
  have ll := v.len
  have h4 := v.nw h lh h3
  have d5 := v.nw d ld d3
  have z6 := v.nw 0 l0 z3
  refine ⟨⟨S, ?_, jS⟩, (r2.set h1 h2 h4).set d1 d2 d5, g2, ?_, ?_, hk, ?_, ⟨z1, z2, z6, z4, z5⟩, ⟨h1, h2, h4⟩, ⟨d1, d2, d5, d4⟩⟩
  · rw [List.getElem?_set_ne (Ne.symm z5), List.getElem?_set_ne (Ne.symm z4)]
    exact v.at_ 0 S hS z1 z2 z3
  · rw [List.getElem?_set_ne d4, List.getElem?_set_self (by omega)]
  · rw [List.getElem?_set_self (by rw [List.length_set]; omega)]
    simp
  · refine SC.set (SC.set (v.sc t.sc) (closedDs_mono (Nat.zero_le _) _ hk.cl)) ?_
    rw [show (dn.map (·.1)).map dD ++ [dD e] = ((dn.map (·.1)) ++ [e]).map dD from by simp]
    exact closedC_mono (Nat.zero_le _) _ (dD_closed _)
theorem turnS_ok {w : Str} {x : Int} {a b : Nat} {QS : Fl → Sl → Store → Prop} (r : RingAt C i j k p dn []) (g : RgIn n p dn []) (hl : dn.length < 100000) (he : OkD n (w, x)) {sl : Sl} (q : ∀ C2 k2, RingAt C2 i j k2 (step p (w, x)) (dn ++ [(((w, x) : Dd), p)]) [] → RgIn n (step p (w, x)) (dn ++ [(((w, x) : Dd), p)]) [] → Lv C C2 i j k k2 → QS .nx sl C2) (s7 : sl[a]? = some (some (dD (w, x)))) (s5 : sl[b]? = some (some (.cell i))) :
    WS (sIf (mT (m2 gEq (m2 gIx (mVar a) (mC (.int 0))) (mC (.str "go")))) (sDrop (mM "Ring" "go" 2 m_Ring__go (mVar b) (aCons (m2 gIx (mVar a) (mC (.int 1))) aNil))) (sDrop (mM "Ring" "come" 2 m_Ring__come (mVar b) (aCons (m2 gIx (mVar a) (mC (.int 1))) aNil))) sl C) QS := by
  refine w_sif ?_
  refine w_T ?_
  refine w_2 ?_
  refine w_2 ?_
  refine w_var s7 ?_
  repeat' walk_at "ev"
  by_cases hw : w = "go"
  · subst hw
    repeat' walk_at "ev"
    refine w_M ?_
    refine w_var s5 ?_
    refine ⟨i, _, rfl, r.o, rfl, ?_⟩
    refine w_aCons ?_
    refine w_2 ?_
    refine w_var s7 ?_
    repeat' walk_at "ev"
    refine ⟨rfl, ?_⟩
    exact goF r g he.2 hl q
  · have hc : w = "come" := he.1.resolve_left hw
    subst hc
    repeat' walk_at "ev"
    refine w_M ?_
    refine w_var s5 ?_
    refine ⟨i, _, rfl, r.o, rfl, ?_⟩
    refine w_aCons ?_
    refine w_2 ?_
    refine w_var s7 ?_
    repeat' walk_at "ev"
    refine ⟨rfl, ?_⟩
    exact comeF r g he.2 hl q
end


/-! a twin; two rings side by side; alike or not -/
section
variable {C : Store} {QD : D → Store → Prop} {i j k n i2 j2 k2 : Nat} {p p2 : List Int × List Int} {dn dn2 : List (Dd × (List Int × List Int))} {bk bk2 : List Dd}
theorem twin_ok (h : RingAt C i j k p dn bk) (v : Vs p.1 p.2) (hl : dn.length ≤ 100000) (hb : bk.length ≤ 100000) (q : ∀ C', RingAt C' i j k p dn bk → RingAt C' C.length (C.length + 1) (C.length + 2) p dn bk → C'.length = C.length + 3 → (∀ (l : Nat) (c : Cell), C[l]? = some c → C'[l]? = some c) → QD (.cell C.length) C') : W (m_Ring__twin [.cell i] C) QD := by
  obtain ⟨l1, l2, l3⟩ := h.lt
  unfold m_Ring__twin
  repeat' walk_at "ev"
  refine w_IZ ?_
  repeat' walk_at "ev"
  refine w_stand h ?_
  repeat' walk_at "ev"
  refine ⟨rfl, [.non, sD p.1 p.2], rfl, ?_⟩
  refine init_stand (IsSt.f _ _) v ?_
  refine ⟨rfl, ?_⟩
  have m := made_at (C := C) (p := p)
  have h1 := h.app (Y := [obR p (C.length + 1) (C.length + 2), .lst [], .lst []])
  have hlow : ∀ l c, C[l]? = some c → (C ++ [obR p (C.length + 1) (C.length + 2), .lst [], .lst []])[l]? = some c := fun l c hc => at_lo hc
  have hlen : (C ++ [obR p (C.length + 1) (C.length + 2), Cell.lst [], Cell.lst []]).length = C.length + 3 := by simp
  generalize C ++ [obR p (C.length + 1) (C.length + 2), .lst [], .lst []] = C1 at m h1 hlow hlen ⊢
  have m2 : RingAt ((C1.set (C.length + 1) (.lst ([] ++ dn.map enD))).set (C.length + 2) (.lst ([] ++ bk.map dD))) C.length (C.length + 1) (C.length + 2) p dn bk := by
    refine ⟨?_, ?_, ?_, m.ij, m.ik, m.jk⟩
    · rw [List.getElem?_set_ne (by omega), List.getElem?_set_ne (by omega)]
      exact m.o
    · rw [List.getElem?_set_ne (by omega), List.getElem?_set_self (by omega)]
      rfl
    · rw [List.getElem?_set_self (by rw [List.length_set]; omega)]
      rfl
  have hA : (C1.set (C.length + 1) (.lst ([] ++ dn.map enD)))[C.length]? = some (obR p (C.length + 1) (C.length + 2)) := by rw [List.getElem?_set_ne (by omega)]; exact m.o
  have hB : (C1.set (C.length + 1) (.lst ([] ++ dn.map enD)))[C.length + 2]? = some (.lst []) := by rw [List.getElem?_set_ne (by omega)]; exact m.b
  have h2 := h1.set (l := C.length + 1) (c := .lst ([] ++ dn.map enD)) (by omega) (by omega) (by omega)
  have h3 := h2.set (l := C.length + 2) (c := .lst ([] ++ bk.map dD)) (by omega) (by omega) (by omega)
  repeat' walk_at "ev"
  refine w_gfld (v := .cell (C.length + 1)) m.o rfl ?_
  repeat' walk_at "ev"
  refine ⟨w_chkC m.d, ?_⟩
  repeat' walk_at "ev"
  refine w_done h1 ?_
  repeat' walk_at "ev"
  refine w_extend m.d h1.d (by simp only [List.length_nil, List.length_map]; exact Nat.le_trans (by omega : 0 + dn.length ≤ 100000) (by decide)) ?_
  repeat' walk_at "ev"
  refine w_gfld (v := .cell (C.length + 2)) hA rfl ?_
  repeat' walk_at "ev"
  refine ⟨w_chkC hB, ?_⟩
  repeat' walk_at "ev"
  refine w_back h2 ?_
  repeat' walk_at "ev"
  refine w_extend hB h2.b (by simp only [List.length_nil, List.length_map]; exact Nat.le_trans (by omega : 0 + bk.length ≤ 100000) (by decide)) ?_
  repeat' walk_at "ev"
  exact q _ h3 m2 (by simp [hlen]) fun (l : Nat) (c : Cell) (hc : C[l]? = some c) => by
    have := get_lt hc
    rw [List.getElem?_set_ne (by omega), List.getElem?_set_ne (by omega)]
    exact hlow l c hc
/-- no cell of one is one of the other -/
structure Dj (i j k i2 j2 k2 : Nat) : Prop where
  a : i ≠ i2 ∧ i ≠ j2 ∧ i ≠ k2
  b : j ≠ i2 ∧ j ≠ j2 ∧ j ≠ k2
  c : k ≠ i2 ∧ k ≠ j2 ∧ k ≠ k2
theorem Dj.symm (d : Dj i j k i2 j2 k2) : Dj i2 j2 k2 i j k := ⟨⟨Ne.symm d.a.1, Ne.symm d.b.1, Ne.symm d.c.1⟩, ⟨Ne.symm d.a.2.1, Ne.symm d.b.2.1, Ne.symm d.c.2.1⟩, ⟨Ne.symm d.a.2.2, Ne.symm d.b.2.2, Ne.symm d.c.2.2⟩⟩
theorem RingAt.keep {C' : Store} {k' : Nat} (h2 : RingAt C i2 j2 k2 p2 dn2 bk2) (v : Lv C C' i j k k') (d : Dj i j k i2 j2 k2) : RingAt C' i2 j2 k2 p2 dn2 bk2 ∧ Dj i j k' i2 j2 k2 := by
  obtain ⟨⟨a1, a2, a3⟩, ⟨b1, b2, b3⟩, ⟨c1, c2, c3⟩⟩ := d
  obtain ⟨l1, l2, l3⟩ := h2.lt
  exact ⟨⟨v.at_ _ _ h2.o (Ne.symm a1) (Ne.symm b1) (Ne.symm c1), v.at_ _ _ h2.d (Ne.symm a2) (Ne.symm b2) (Ne.symm c2), v.at_ _ _ h2.b (Ne.symm a3) (Ne.symm b3) (Ne.symm c3), h2.ij, h2.ik, h2.jk⟩,
    ⟨⟨a1, a2, a3⟩, ⟨b1, b2, b3⟩, ⟨Ne.symm (v.nw _ l1 (Ne.symm c1)), Ne.symm (v.nw _ l2 (Ne.symm c2)), Ne.symm (v.nw _ l3 (Ne.symm c3))⟩⟩⟩
theorem eq_ok (h : RingAt C i j k p dn bk) (h2 : RingAt C i2 j2 k2 p2 dn2 bk2) (q : QD (.bl (decide (p.1 = p2.1) && decide (p.2 = p2.2))) C) : W (m_Ring____eq__ [.cell i, .cell i2] C) QD := by
  unfold m_Ring____eq__
  repeat' walk_at "ev"
  refine w_isO (tyO_c h2.o) ?_
  repeat' walk_at "ev"
  refine w_stand h ?_
  repeat' walk_at "ev"
  refine w_stand h2 ?_
  repeat' walk_at "ev"
  refine w_eqSt ?_
  repeat' walk_at "ev"
  exact fin_closed0 rfl q
end


section
variable {C : Store} {QD : D → Store → Prop} {i j k n : Nat} {p : List Int × List Int} {dn : List (Dd × (List Int × List Int))} {bk es : List Dd}
abbrev alD (p : List Int × List Int) (dn : List (Dd × (List Int × List Int))) : D := .lst [sD p.1 p.2, .lst ((dn.map (·.1)).map dD), .int (dn.length : Nat)]
theorem alk_al {m : Nat} (v : Vs p.1 p.2) (hl : dn.length ≤ 1000000) : Alk C (m + 4) (alD p dn) (alD p dn) :=
  Alk.lst3 (Alk.stand (n := m) v (.f _ _) (.f _ _)) (Alk.map (n := m + 2) (fun e _ => Alk.tup2 (.str _ _) (.int _ _)) (.f _) (.f _) (by rw [List.length_map]; exact hl)) (.int _ _)
theorem w_allfz {sl : Sl} {mo : ME} {m : Nat} (r : RingAt C i j k p dn bk) (hl : dn.length ≤ 100000) (ho : W (mo sl C) fun x C1 => x = .cell i ∧ C1 = C) (q : QD (alD p dn) C) : W (mFz (m + 2) (mF 1 m__law_all (aCons mo aNil)) sl C) QD := by
  refine w_fzL ?_
  refine w_F ?_
  refine w_aCons (ho.imp fun x C1 hx => ?_)
  obtain ⟨rfl, rfl⟩ := hx
  repeat' walk_at "ev"
  unfold m__law_all
  repeat' walk_at "ev"
  refine w_mfz r (w_var rfl ⟨rfl, rfl⟩) ?_
  repeat' walk_at "ev"
  refine w_hfz r hl (w_var rfl ⟨rfl, rfl⟩) ?_
  repeat' walk_at "ev"
  refine rlen_ok r hl ?_
  repeat' walk_at "ev"
  have hc : closedDs 0 [sD p.1 p.2, .lst ((dn.map (·.1)).map dD), .int (dn.length : Nat)] = true := by
    have := dD_closed (dn.map (·.1))
    have h2 : closedDs 0 ((dn.map (·.1)).map dD) = true := this
    simp only [closedDs, closedD, closedDs_ints, Bool.and_true, Bool.true_and, h2]
  exact W.of (fin_cell0 (show closedC 0 (Cell.lst [sD p.1 p.2, .lst ((dn.map (·.1)).map dD), .int (dn.length : Nat)]) = true from hc)) ⟨_, rfl, rfl, hc, q⟩
theorem doall_ok {acts : List Dd} (r : RingAt C i j k p dn []) (g : RgIn n p dn []) (hh : OkH n acts) (hl : dn.length + acts.length < 90000) (q : ∀ C' k', RingAt C' i j k' (run p acts) (dn ++ hst p acts) [] → RgIn n (run p acts) (dn ++ hst p acts) [] → Lv C C' i j k k' → QD .non C') : W (m__law_do_all [.cell i, .lst (acts.map dD)] C) QD := by
  unfold m__law_do_all
  repeat' walk_at "ev"
  refine w_forM (fun t sl Cc => ∃ (k' : Nat) (x2 : Option D), sl = [some (.cell i), some (.lst (acts.map dD)), x2] ∧ RingAt Cc i j k' (run p (acts.take t)) (dn ++ hst p (acts.take t)) [] ∧ RgIn n (run p (acts.take t)) (dn ++ hst p (acts.take t)) [] ∧ Lv C Cc i j k k') (fun _ _ _ _ => okG_nil _) ?_ ?_ ⟨k, none, rfl, by simpa [hst, run] using r, by simpa [hst, run] using g, .refl⟩
  · intro t d sl Cc hd hI
    obtain ⟨k', x2, rfl, hr, hg, hv⟩ := hI
    rw [List.getElem?_map, Option.map_eq_some_iff] at hd
    obtain ⟨e, he, rfl⟩ := hd
    have heo := hh e (List.mem_of_getElem? he)
    have lt : (dn ++ hst p (acts.take t)).length < 100000 := by
      rw [List.length_append, hst_len, List.length_take]
      omega
    have e1 : run p (acts.take (t + 1)) = step (run p (acts.take t)) e := run_take he
    have e2 : hst p (acts.take (t + 1)) = hst p (acts.take t) ++ [(e, run p (acts.take t))] := by
      rw [List.take_succ, he]
      exact hst_app _ _ _
    repeat' ((fail_if_success (with_reducible refine w_sif ?_)); walk_at "evs")
    refine turnS_ok (w := e.1) (x := e.2) (a := 2) (b := 0) hr hg lt heo (fun C2 k2 r2 g2 v2 => ?_) (by rfl) (by rfl)
    refine ⟨k2, _, rfl, ?_, ?_, hv.trans v2⟩
    · rw [e1, e2, ← List.append_assoc]
      exact r2
    · rw [e1, e2, ← List.append_assoc]
      exact g2
  · intro sl Cc hI
    obtain ⟨k', x2, rfl, hr, hg, hv⟩ := hI
    rw [List.length_map, List.take_length] at hr hg
    repeat' walk_at "ev"
    exact q Cc k' hr hg hv
abbrev stM (p : List Int × List Int) (es : List Dd) (t : Nat) : List D := (List.range t).map fun s => sD (run p (es.take (s + 1))).1 (run p (es.take (s + 1))).2
theorem again_ok (r : RingAt C i j k p dn es.reverse) (g : RgIn n p dn es.reverse) (h60 : es.length < 60) (hl : dn.length < 80000)
    (q : ∀ C' m, RingAt C' i j k (run p es) (dn ++ hst p es) [] → RgIn n (run p es) (dn ++ hst p es) [] → Lv C C' i j k k → C'[m]? = some (.lst (stM p es es.length)) → C.length ≤ m → QD (.cell m) C') : W (m__law_again_all [.cell i] C) QD := by
  obtain ⟨l1, l2, l3⟩ := r.lt
  unfold m__law_again_all
  repeat' walk_at "ev"
  have v0 : Lv C (C ++ [Cell.lst []]) i j k k := ⟨by simp, fun l c h _ _ _ => at_lo h, fun _ _ h => h, fun hs => SC.one hs rfl⟩
  refine w_forM (fun t sl Cc => ∃ (x2 : Option D), t ≤ es.length ∧ sl = [some (.cell i), some (.cell C.length), x2] ∧ RingAt Cc i j k (run p (es.take t)) (dn ++ hst p (es.take t)) (es.drop t).reverse ∧ RgIn n (run p (es.take t)) (dn ++ hst p (es.take t)) (es.drop t).reverse ∧ Lv C Cc i j k k ∧ Cc[C.length]? = some (.lst (stM p es t))) (fun _ _ _ _ => okG_nil _) ?_ ?_ ⟨none, Nat.zero_le _, rfl, by simpa [hst, run] using r.app, by simpa [hst, run] using g, v0, at_app0⟩
  · intro t d sl Cc hd hI
    obtain ⟨x2, ht, rfl, hr, hg, hv, hm⟩ := hI
    obtain ⟨_, rfl⟩ := rgD_get (n := 60) hd
    refine w_gmN ?_
    by_cases c : t < es.length
    · obtain ⟨e, he⟩ := get_ex (l := es) (i := t) c
      have e0 : (es.drop t).reverse = (es.drop (t + 1)).reverse ++ [e] := by
        rw [show es.drop t = e :: es.drop (t + 1) from by
          rw [List.drop_eq_getElem_cons c]
          congr 1
          rw [List.getElem?_eq_getElem c] at he
          exact Option.some.inj he]
        simp
      rw [e0] at hr hg
      have e1 : run p (es.take (t + 1)) = step (run p (es.take t)) e := run_take he
      have e2 : hst p (es.take (t + 1)) = hst p (es.take t) ++ [(e, run p (es.take t))] := by
        rw [List.take_succ, he]
        exact hst_app _ _ _
      have lt : (dn ++ hst p (es.take t)).length < 100000 := by
        rw [List.length_append, hst_len, List.length_take]
        omega
      refine w_tryN ?_
      repeat' walk_at "ev"
      refine w_M ?_
      repeat' walk_at "ev"
      refine ⟨i, _, rfl, hr.o, rfl, ?_⟩
      repeat' walk_at "ev"
      refine ⟨rfl, ?_⟩
      refine againF hr hg lt fun C2 r2 g2 v2 => ?_
      have hm2 := v2.at_ _ _ hm (by omega) (by omega) (by omega)
      have lst : (stM p es t).length < sizeLine := by
        simp only [List.length_map, List.length_range]
        exact Nat.lt_of_lt_of_le (by omega : t < 10000) (by decide)
      repeat' walk_at "ev"
      refine ⟨w_chkC hm2, ?_⟩
      repeat' walk_at "ev"
      refine w_mfz r2 (w_var rfl ⟨rfl, rfl⟩) ?_
      repeat' walk_at "ev"
      refine ⟨_, c, rfl, ?_, ?_, ?_, ?_⟩
      · rw [e1, e2, ← List.append_assoc]
        exact r2.set (by omega) (by omega) (by omega)
      · rw [e1, e2, ← List.append_assoc]
        exact g2
      · have v3 := hv.trans v2
        refine ⟨by rw [List.length_set]; exact v3.len, fun l c h a b d => ?_, v3.nw, fun hs => SC.set (v3.sc hs) ?_⟩
        · have := get_lt h
          rw [List.getElem?_set_ne (by omega)]
          exact v3.at_ l c h a b d
        · have hz : closedDs 0 (stM p es t ++ [sD (step (run p (es.take t)) e).1 (step (run p (es.take t)) e).2]) = true := by
            rw [show stM p es t ++ [sD (step (run p (es.take t)) e).1 (step (run p (es.take t)) e).2] = (List.range (t + 1)).map fun s => sD (run p (es.take (s + 1))).1 (run p (es.take (s + 1))).2 from by
              rw [List.range_succ, List.map_append, ← e1]
              rfl]
            exact closedDs_map (fun _ => sD_closed _ _) _
          exact closedDs_mono (Nat.zero_le _) _ hz
      · rw [List.getElem?_set_self (get_lt hm2), ← e1]
        unfold stM
        rw [List.range_succ, List.map_append]
        rfl
    · have hte : t = es.length := by omega
      subst hte
      rw [List.drop_length] at hr hg
      rw [List.take_length] at hr hg
      refine w_tryX ?_
      refine x_seq1 (x_drop (x_M ?_))
      repeat' walk_at "ev"
      refine ⟨i, _, rfl, hr.o, rfl, ?_⟩
      repeat' walk_at "ev"
      refine ⟨rfl, again_x hr hg ?_⟩
      refine w_hmRet (d := .cell C.length) (by simp) rfl ?_
      exact q Cc C.length hr hg hv hm (Nat.le_refl _)
  · intro sl Cc hI
    obtain ⟨x2, ht, rfl, hr, hg, hv, hm⟩ := hI
    have ht : (rgD 0 (60 : Nat)).length ≤ es.length := ht
    rw [rgD_len] at ht
    omega
end


section
variable {C G : Store} {QD : D → Store → Prop} {i j k n i2 j2 k2 : Nat} {p : List Int × List Int} {dn : List (Dd × (List Int × List Int))} {bk : List Dd} {S : Cell}
theorem eq_no {b : D} (hb : tyO C "Ring" b = some false) (q : QD (.bl false) C) : W (m_Ring____eq__ [.cell i, b] C) QD := by
  unfold m_Ring____eq__
  repeat' walk_at "ev"
  refine w_isO hb ?_
  repeat' walk_at "ev"
  exact fin_closed0 rfl q
theorem apart_ok (hS : Jr S) (hs : SC (S :: G)) (rA : RingAt (S :: G) i j k p dn []) (gA : RgIn n p dn []) (rB : RingAt (S :: G) i2 j2 k2 p dn []) (dj : Dj i j k i2 j2 k2) (zA : 0 ≠ i ∧ 0 ≠ j ∧ 0 ≠ k) (zB : 0 ≠ i2 ∧ 0 ≠ j2 ∧ 0 ≠ k2) (n0 : 1 ≤ n) (n1 : n ≤ 200) (hl : dn.length ≤ 1000)
    (q : ∀ C', QD (.bl true) C') : W (m__law_apart_right [.cell 0, .cell i, .cell i2, .int n] (S :: G)) QD := by
  unfold m__law_apart_right
  repeat' walk_at "ev"
  refine w_allfz rA (by omega) (w_var rfl ⟨rfl, rfl⟩) ?_
  repeat' walk_at "ev"
  refine w_fz1 ?_
  repeat' walk_at "ev"
  refine actsR_ok hS (by omega) (by omega) (by decide) (by decide) fun S1 acts hS1 hh hal => ?_
  have s1 : SC (S1 :: G) := SC.set (C := S :: G) (l := 0) hs (closedC_mono (Nat.zero_le _) _ (hS1.closed 0))
  refine ⟨_, S1 :: G, rfl, rfl, rfl, s1, dD_closed _, ?_⟩
  repeat' walk_at "ev"
  refine pull_c0 hS1 (by omega) (by omega) fun r0 S2 a0 b0 hS2 => ?_
  have rA2 : RingAt (S2 :: G) i j k p dn [] := rA.set (l := 0) (c := S2) zA.1 zA.2.1 zA.2.2
  have rB2 : RingAt (S2 :: G) i2 j2 k2 p dn [] := rB.set (l := 0) (c := S2) zB.1 zB.2.1 zB.2.2
  repeat' walk_at "ev"
  refine w_addL (by simp only [List.length_map, List.length_cons, List.length_nil]; exact Nat.le_trans (by omega : acts.length + 1 ≤ 10000) (by decide)) ?_
  rw [show acts.map dD ++ [D.tup [D.str "go", D.int (1 + r0)]] = (acts ++ [(("go", 1 + r0) : Dd)]).map dD from by simp]
  have hA : OkH n (acts ++ [(("go", 1 + r0) : Dd)]) := fun x hx => by
    rcases List.mem_append.mp hx with hx | hx
    · exact hh x hx
    · rw [List.mem_singleton.mp hx]
      exact ⟨.inl rfl, by omega, by omega⟩
  have lA : (acts ++ [(("go", 1 + r0) : Dd)]).length ≤ 6 := by rw [List.length_append]; show acts.length + 1 ≤ 6; omega
  generalize acts ++ [(("go", 1 + r0) : Dd)] = A at hA lA ⊢
  generalize S2 :: G = C2 at rA2 rB2 ⊢
  clear rA rB hs s1
  repeat' walk_at "ev"
  refine doall_ok rB2 gA hA (by omega) fun C3 k3 rB3 gB3 v3 => ?_
  obtain ⟨rA3, dj3⟩ := RingAt.keep rA2 v3 dj.symm
  repeat' walk_at "ev"
  refine w_allfz rA3 (by omega) (w_var rfl ⟨rfl, rfl⟩) ?_
  repeat' walk_at "ev"
  refine exact_ok (alk_al gA.v (by omega)) ?_
  repeat' walk_at "ev"
  obtain ⟨b, hb⟩ : ∃ b, (decide (p.1 = (run p A).1) && decide (p.2 = (run p A).2)) = b := ⟨_, rfl⟩
  have lB3 : (dn ++ hst p A).length = dn.length + A.length := by rw [List.length_append, hst_len]
  refine w_own rA3.o (tyO_c rB3.o) ?_
  refine eq_ok rA3 rB3 ?_
  refine ⟨_, rfl, ?_⟩
  rw [hb]
  repeat' walk_at "ev"
  refine w_mfz rA3 (w_var rfl ⟨rfl, rfl⟩) ?_
  repeat' walk_at "ev"
  refine w_mfz rB3 (w_var rfl ⟨rfl, rfl⟩) ?_
  repeat' walk_at "ev"
  refine w_eqSt ?_
  rw [hb]
  cases b
  all_goals
    repeat' walk_at "ev"
    refine w_own rA3.o (tyO_c rB3.o) ?_
    refine eq_ok rA3 rB3 ?_
    refine ⟨_, rfl, ?_⟩
    rw [hb]
    repeat' walk_at "ev"
    refine w_own rA3.o (tyO_c rB3.o) ?_
    refine eq_ok rA3 rB3 ?_
    refine ⟨_, rfl, ?_⟩
    rw [hb]
    repeat' walk_at "ev"
    refine rlen_ok rB3 (by omega) ?_
    repeat' walk_at "ev"
    refine rlen_ok rA3 (by omega) ?_
    rw [lB3]
    repeat' walk_at "ev"
    rw [show ((dn.length + A.length : Nat) : Int) - (dn.length : Nat) = (A.length : Nat) from by omega]
    refine w_forM (fun t sl Cc => ∃ (bk2 : List Dd) (x5 : Option D), sl = [some (.cell 0), some (.cell i), some (.cell i2), some (.int (n : Nat)), some (alD p dn), x5] ∧ RingAt Cc i j k p dn [] ∧ RingAt Cc i2 j2 k3 (run p (A.take (A.length - t))) (dn ++ hst p (A.take (A.length - t))) bk2 ∧ RgIn n (run p (A.take (A.length - t))) (dn ++ hst p (A.take (A.length - t))) bk2 ∧ bk2.length = t) (fun _ _ _ _ => okG_nil _) ?_ ?_ ⟨[], _, rfl, rA3, by rw [Nat.sub_zero, List.take_length]; exact rB3, by rw [Nat.sub_zero, List.take_length]; exact gB3, rfl⟩
    · intro t e' sl Cc hd2 hI
      obtain ⟨bk2, x5, rfl, rA5, r5, g5, hb2⟩ := hI
      obtain ⟨ht, rfl⟩ := rgD_get (n := A.length) hd2
      obtain ⟨m, hm⟩ : ∃ m, A.length - t = m + 1 := ⟨A.length - t - 1, by omega⟩
      obtain ⟨e, he⟩ := get_ex (l := A) (i := m) (by omega)
      have e2 : hst p (A.take (m + 1)) = hst p (A.take m) ++ [(e, run p (A.take m))] := by
        rw [List.take_succ, he]
        exact hst_app _ _ _
      rw [hm, e2, ← List.append_assoc] at r5 g5
      repeat' walk_at "ev"
      refine w_M ?_
      repeat' walk_at "ev"
      refine ⟨i2, _, rfl, r5.o, rfl, ?_⟩
      repeat' walk_at "ev"
      refine ⟨rfl, ?_⟩
      refine backF r5 g5 (by omega) fun C6 r6 g6 v6 => ?_
      repeat' walk_at "ev"
      refine ⟨bk2 ++ [e], _, rfl, (RingAt.keep rA5 v6 dj3).1, ?_, ?_, by simp [hb2]⟩
      · rw [show A.length - (t + 1) = m from by omega]
        exact r6
      · rw [show A.length - (t + 1) = m from by omega]
        exact g6
    · intro sl Cc hI
      obtain ⟨bk2, x5, rfl, rA5, r5, g5, hb2⟩ := hI
      rw [rgD_len] at r5 g5
      rw [Nat.sub_self] at r5 g5
      have r6 : RingAt Cc i2 j2 k3 p dn bk2 := by simpa [hst, run] using r5
      repeat' walk_at "ev"
      refine w_allfz r6 (by omega) (w_var rfl ⟨rfl, rfl⟩) ?_
      repeat' walk_at "ev"
      refine exact_ok (alk_al gA.v (by omega)) ?_
      repeat' walk_at "ev"
      refine w_own rA5.o (tyO_c r6.o) ?_
      refine eq_ok rA5 r6 ?_
      refine ⟨_, rfl, ?_⟩
      rw [show (decide (p.1 = p.1) && decide (p.2 = p.2)) = true from by simp]
      repeat' walk_at "ev"
      refine w_own rA5.o (tyO_c r6.o) ?_
      refine eq_ok rA5 r6 ?_
      refine ⟨_, rfl, ?_⟩
      rw [show (decide (p.1 = p.1) && decide (p.2 = p.2)) = true from by simp]
      repeat' walk_at "ev"
      refine w_M ?_
      repeat' walk_at "ev"
      refine ⟨i, _, rfl, rA5.o, rfl, ?_⟩
      repeat' walk_at "ev"
      refine ⟨rfl, ?_⟩
      refine comeF rA5 gA ⟨by omega, by omega⟩ (by omega) fun C7 k7 rA7 gA7 v7 => ?_
      obtain ⟨r7, dj7⟩ := RingAt.keep r6 v7 dj3.symm
      repeat' walk_at "ev"
      refine w_M ?_
      repeat' walk_at "ev"
      refine ⟨i, _, rfl, rA7.o, rfl, ?_⟩
      repeat' walk_at "ev"
      refine ⟨rfl, ?_⟩
      refine goF rA7 gA7 ⟨by omega, by omega⟩ (by rw [List.length_append]; show dn.length + 1 < 100000; omega) fun C8 k8 rA8 gA8 v8 => ?_
      obtain ⟨r8, dj8⟩ := RingAt.keep r7 v8 dj7
      repeat' walk_at "ev"
      refine w_allfz r8 (by omega) (w_var rfl ⟨rfl, rfl⟩) ?_
      repeat' walk_at "ev"
      refine exact_ok (alk_al gA.v (by omega)) ?_
      repeat' walk_at "ev"
      exact q _
end


section
variable {C : Store} {i j k n : Nat} {p : List Int × List Int} {dn : List (Dd × (List Int × List Int))} {bk es : List Dd} {S : Cell}
theorem sc_twin {C' : Store} (hs : SC C) (low : ∀ (l : Nat) (c : Cell), C[l]? = some c → C'[l]? = some c) (rB : RingAt C' C.length (C.length + 1) (C.length + 2) p dn bk) (lC : C'.length = C.length + 3) : SC C' := fun c hc => by
  obtain ⟨l, hl⟩ := List.mem_iff_getElem?.mp hc
  have hlt := get_lt hl
  by_cases h : l < C.length
  · obtain ⟨c0, h0⟩ : ∃ c0, C[l]? = some c0 := ⟨C[l], List.getElem?_eq_getElem h⟩
    have h1 := low l c0 h0
    rw [hl] at h1
    cases h1
    exact closedC_mono (by omega) _ (hs c (List.mem_of_getElem? h0))
  · have : l = C.length ∨ l = C.length + 1 ∨ l = C.length + 2 := by omega
    rcases this with rfl | rfl | rfl
    · rw [rB.o] at hl
      cases hl
      exact closed_ob' (by omega) (by omega)
    · rw [rB.d] at hl
      cases hl
      exact closed_en
    · rw [rB.b] at hl
      cases hl
      exact closedC_mono (Nat.zero_le _) _ (dD_closed _)
theorem RingAt.low {C' : Store} (h : RingAt C i j k p dn bk) (low : ∀ (l : Nat) (c : Cell), C[l]? = some c → C'[l]? = some c) : RingAt C' i j k p dn bk := ⟨low _ _ h.o, low _ _ h.d, low _ _ h.b, h.ij, h.ik, h.jk⟩
theorem alk_st {x y : D} {m : Nat} (g : RgIn n p dn es.reverse) (hl : es.length ≤ 1000) (hx : IsLst C x (stM p es es.length)) (hy : IsLst C y (stM p es es.length)) : Alk C (m + 4) x y := by
  refine Alk.map (n := m + 3) (fun s _ => ?_) hx hy (by rw [List.length_range]; omega)
  have hb : OkH n (es.take (s + 1)) := fun e he => g.b e (List.mem_reverse.mpr (List.mem_of_mem_take he))
  obtain ⟨v1, _⟩ := run_vs (n := n) (h := es.take (s + 1)) g.v g.hn hb
  exact Alk.stand (n := m) v1 (.f _ _) (.f _ _)
theorem copies_ok {QS : Fl → Sl → Store → Prop} {a0 a1 a2 a6 a7 a8 : Option D} (c0 : C[0]? = some S) (hS : Jr S) (hs : SC C) (rA : RingAt C i j k p dn es.reverse) (gA : RgIn n p dn es.reverse) (zA : 0 ≠ i ∧ 0 ≠ j ∧ 0 ≠ k) (n0 : 1 ≤ n) (n1 : n ≤ 200) (hes : es.length ≤ 30) (hl : dn.length ≤ 900)
    (q : ∀ C' x9 x10 x11 x12, QS .nx [a0, a1, a2, some (.cell 0), some (.int n), some (.cell i), a6, a7, a8, x9, x10, x11, x12] C') :
    WS ((sSeq (sPar 9 10 (aCons (mM "Ring" "twin" 1 m_Ring__twin (mVar 5) aNil) (aCons (mM "Ring" "twin" 1 m_Ring__twin (mVar 5) aNil) aNil)))
  (sSeq (sAsg (mI "Ring" 3 0 1 1 0 m_Ring____init__ aNil (aCons (mFz 2 (mM "Ring" "stand" 1 m_Ring__stand (mVar 5) aNil)) aNil)) (gmN 11))
  (sSeq (sIf (tNotM (mT (mF 2 (m__law_exact 5) (aCons (mLst false (aCons (mFz 2 (mF 1 m__law_all (aCons (mVar 9) aNil))) (aCons (mCB (on1 (gLenO "Ring" 1 m_Ring____len__)) (aCons (mVar 11) aNil)) aNil))) (aCons (mLst false (aCons (mFz 2 (mF 1 m__law_all (aCons (mVar 5) aNil))) (aCons (mC (.int 0)) aNil))) aNil)))))
  (sRet (mC (.bl false)))
  sNil)
  (sSeq (sIf (tOrM (tNotM (mT (m2 (gOwn false "Ring" m_Ring____eq__) (mVar 5) (mVar 9)))) (tOrM (tNotM (mT (m2 (gOwn false "Ring" m_Ring____eq__) (mVar 5) (mVar 11)))) (mT (m2 (gOwn true "Ring" m_Ring____eq__) (mVar 5) (mVar 11)))))
  (sRet (mC (.bl false)))
  sNil)
  (sSeq (sIf (tOrM (mT (m2 (gOwn false "Ring" m_Ring____eq__) (mVar 5) (mFz 2 (mM "Ring" "stand" 1 m_Ring__stand (mVar 5) aNil)))) (tOrM (mT (m2 (gOwn false "Ring" m_Ring____eq__) (mVar 5) (mC (.str "ring")))) (tNotM (mT (m2 (gOwn true "Ring" m_Ring____eq__) (mVar 5) (mC (.int 3)))))))
  (sRet (mC (.bl false)))
  sNil)
  (sSeq (sAsg (mF 1 m__law_again_all (aCons (mVar 9) aNil)) (gmN 12))
  (sSeq (sIf (tOrM (tNotM (mT (mF 2 (m__law_exact 5) (aCons (mFz 2 (mF 1 m__law_all (aCons (mVar 5) aNil))) (aCons (mFz 2 (mF 1 m__law_all (aCons (mVar 10) aNil))) aNil))))) (tNotM (mT (mF 2 (m__law_exact 5) (aCons (mF 1 m__law_again_all (aCons (mVar 10) aNil)) (aCons (mVar 12) aNil))))))
  (sRet (mC (.bl false)))
  sNil)
  (sIf (tOrM (tNotM (mT (mF 2 (m__law_exact 5) (aCons (mF 1 m__law_again_all (aCons (mVar 5) aNil)) (aCons (mVar 12) aNil))))) (tNotM (mT (mF 4 m__law_apart_right (aCons (mVar 3) (aCons (mVar 5) (aCons (mM "Ring" "twin" 1 m_Ring__twin (mVar 5) aNil) (aCons (mVar 4) aNil))))))))
  (sRet (mC (.bl false)))
  sNil))))))))
      [a0, a1, a2, some (.cell 0), some (.int n), some (.cell i), a6, a7, a8, none, none, none, none] C) QS := by
  have hbl : es.reverse.length ≤ 100000 := by rw [List.length_reverse]; omega
  obtain ⟨l1, l2, l3⟩ := rA.lt
  have w3 : (decide (p.1 = p.1) && decide (p.2 = p.2)) = true := by simp
  repeat' walk_at "ev"
  refine w_M ?_
  repeat' walk_at "ev"
  refine ⟨i, _, rfl, rA.o, rfl, ?_⟩
  repeat' walk_at "ev"
  refine ⟨rfl, ?_⟩
  refine twin_ok rA gA.v (by omega) hbl fun C1 rA1 rB1 lC1 low1 => ?_
  have s1 := sc_twin hs low1 rB1 lC1
  repeat' walk_at "ev"
  refine w_M ?_
  repeat' walk_at "ev"
  refine ⟨i, _, rfl, rA1.o, rfl, ?_⟩
  repeat' walk_at "ev"
  refine ⟨rfl, ?_⟩
  refine twin_ok rA1 gA.v (by omega) hbl fun C2 rA2 rC2 lC2 low2 => ?_
  have s2 := sc_twin s1 low2 rC2 lC2
  have rB2 := rB1.low low2
  repeat' walk_at "ev"
  refine w_IZ ?_
  repeat' walk_at "ev"
  refine w_mfz rA2 (w_var rfl ⟨rfl, rfl⟩) ?_
  repeat' walk_at "ev"
  refine ⟨rfl, [.non, sD p.1 p.2], rfl, ?_⟩
  refine init_stand (IsSt.f _ _) gA.v ?_
  refine ⟨rfl, ?_⟩
  have hM := made_at (C := C2) (p := p)
  have rA3 := rA2.app (Y := [obR p (C2.length + 1) (C2.length + 2), .lst [], .lst []])
  have rB3 := rB2.app (Y := [obR p (C2.length + 1) (C2.length + 2), .lst [], .lst []])
  have rC3 := rC2.app (Y := [obR p (C2.length + 1) (C2.length + 2), .lst [], .lst []])
  have c3 : (C2 ++ [obR p (C2.length + 1) (C2.length + 2), Cell.lst [], Cell.lst []])[0]? = some S := at_lo (low2 _ _ (low1 _ _ c0))
  have s3 : SC (C2 ++ [obR p (C2.length + 1) (C2.length + 2), Cell.lst [], Cell.lst []]) := SC.app s2 (by
    intro c hc
    simp only [List.mem_cons, List.not_mem_nil, or_false] at hc
    rcases hc with rfl | rfl | rfl
    · exact closed_ob' (by simp) (by simp)
    · rfl
    · rfl)
  have l30 : (C2 ++ [obR p (C2.length + 1) (C2.length + 2), Cell.lst [], Cell.lst []]).length = C.length + 9 := by simp [lC2, lC1]
  have djAB : Dj i j k C.length (C.length + 1) (C.length + 2) := ⟨⟨by omega, by omega, by omega⟩, ⟨by omega, by omega, by omega⟩, ⟨by omega, by omega, by omega⟩⟩
  have djAC : Dj i j k C1.length (C1.length + 1) (C1.length + 2) := ⟨⟨by omega, by omega, by omega⟩, ⟨by omega, by omega, by omega⟩, ⟨by omega, by omega, by omega⟩⟩
  have djBC : Dj C.length (C.length + 1) (C.length + 2) C1.length (C1.length + 1) (C1.length + 2) := ⟨⟨by omega, by omega, by omega⟩, ⟨by omega, by omega, by omega⟩, ⟨by omega, by omega, by omega⟩⟩
  have bnd : i < C.length ∧ j < C.length ∧ k < C.length ∧ C1.length = C.length + 3 ∧ 0 < C.length := ⟨l1, l2, l3, lC1, get_lt c0⟩
  show W (gmN 11 (D.cell C2.length) _ (C2 ++ [obR p (C2.length + 1) (C2.length + 2), Cell.lst [], Cell.lst []])) _
  generalize C2 ++ [obR p (C2.length + 1) (C2.length + 2), Cell.lst [], Cell.lst []] = C3 at hM rA3 rB3 rC3 c3 s3 l30 ⊢
  generalize C2.length = ic at hM ⊢
  generalize C1.length = ib at rC3 djAC djBC bnd ⊢
  generalize C.length = ia at rB3 djAB djBC bnd l30 ⊢
  clear rA rA1 rB1 rA2 rB2 rC2 low1 low2 s1 s2 hs lC1 lC2 l1 l2 l3 c0
  refine w_gmN ?_
  repeat' walk_at "ev"
  refine w_allfz rB3 (by omega) (w_var rfl ⟨rfl, rfl⟩) ?_
  repeat' walk_at "ev"
  refine rlen_ok hM (by decide) ?_
  repeat' walk_at "ev"
  refine w_allfz rA3 (by omega) (w_var rfl ⟨rfl, rfl⟩) ?_
  repeat' walk_at "ev"
  refine exact_ok (Alk.lst2 (alk_al (m := 0) gA.v (by omega)) (.int _ _)) ?_
  repeat' walk_at "ev"
  refine w_own rA3.o (tyO_c rB3.o) ?_
  refine eq_ok rA3 rB3 ?_
  refine ⟨_, rfl, ?_⟩
  rw [w3]
  repeat' walk_at "ev"
  refine w_own rA3.o (tyO_c hM.o) ?_
  refine eq_ok rA3 hM ?_
  refine ⟨_, rfl, ?_⟩
  rw [w3]
  repeat' walk_at "ev"
  refine w_own rA3.o (tyO_c hM.o) ?_
  refine eq_ok rA3 hM ?_
  refine ⟨_, rfl, ?_⟩
  rw [w3]
  repeat' walk_at "ev"
  refine w_mfz rA3 (w_var rfl ⟨rfl, rfl⟩) ?_
  repeat' walk_at "ev"
  refine w_own rA3.o (z := false) rfl ?_
  refine eq_no rfl ?_
  refine ⟨_, rfl, ?_⟩
  repeat' walk_at "ev"
  refine w_own rA3.o (z := false) rfl ?_
  refine eq_no rfl ?_
  refine ⟨_, rfl, ?_⟩
  repeat' walk_at "ev"
  refine w_own rA3.o (z := false) rfl ?_
  refine eq_no rfl ?_
  refine ⟨_, rfl, ?_⟩
  repeat' walk_at "ev"
  refine again_ok rB3 gA (by omega) (by omega) fun C4 m4 rB4 gB4 v4 hm4 lm4 => ?_
  obtain ⟨rA4, djAB4⟩ := RingAt.keep rA3 v4 djAB.symm
  obtain ⟨rC4, _⟩ := RingAt.keep rC3 v4 djBC
  repeat' walk_at "ev"
  refine w_allfz rA4 (by omega) (w_var rfl ⟨rfl, rfl⟩) ?_
  repeat' walk_at "ev"
  refine w_allfz rC4 (by omega) (w_var rfl ⟨rfl, rfl⟩) ?_
  repeat' walk_at "ev"
  refine exact_ok (alk_al gA.v (by omega)) ?_
  repeat' walk_at "ev"
  refine again_ok rC4 gA (by omega) (by omega) fun C5 m5 rC5 gC5 v5 hm5 lm5 => ?_
  have hm45 := v5.at_ _ _ hm4 (by omega) (by omega) (by omega)
  obtain ⟨rA5, _⟩ := RingAt.keep rA4 v5 djAC.symm
  repeat' walk_at "ev"
  refine exact_ok (alk_st gA (by omega) (.c _ _ hm5) (.c _ _ hm45)) ?_
  repeat' walk_at "ev"
  refine again_ok rA5 gA (by omega) (by omega) fun C6 m6 rA6 gA6 v6 hm6 lm6 => ?_
  have hm46 := v6.at_ _ _ hm45 (by omega) (by omega) (by omega)
  repeat' walk_at "ev"
  refine exact_ok (alk_st gA (by omega) (.c _ _ hm6) (.c _ _ hm46)) ?_
  repeat' walk_at "ev"
  have c6 : C6[0]? = some S := v6.at_ _ _ (v5.at_ _ _ (v4.at_ _ _ c3 (by omega) (by omega) (by omega)) (by omega) (by omega) (by omega)) zA.1 zA.2.1 zA.2.2
  have s6 : SC C6 := v6.sc (v5.sc (v4.sc s3))
  refine w_M ?_
  repeat' walk_at "ev"
  refine ⟨i, _, rfl, rA6.o, rfl, ?_⟩
  repeat' walk_at "ev"
  refine ⟨rfl, ?_⟩
  have hdl : (dn ++ hst p es).length = dn.length + es.length := by rw [List.length_append, hst_len]
  refine twin_ok rA6 gA6.v (by omega) (by decide) fun C7 rA7 rD7 lC7 low7 => ?_
  have s7 := sc_twin s6 low7 rD7 lC7
  have c7 := low7 _ _ c6
  obtain ⟨q1, q2, q3⟩ := rA6.lt
  have h06 := get_lt c6
  have djD : Dj i j k C6.length (C6.length + 1) (C6.length + 2) := ⟨⟨by omega, by omega, by omega⟩, ⟨by omega, by omega, by omega⟩, ⟨by omega, by omega, by omega⟩⟩
  generalize hx : C6.length = d6 at rD7 djD h06 ⊢
  obtain ⟨G, rfl⟩ : ∃ G, C7 = S :: G := by
    cases C7 with
    | nil => cases c7
    | cons c G => cases c7; exact ⟨G, rfl⟩
  repeat' walk_at "ev"
  refine apart_ok hS s7 rA7 gA6 rD7 djD zA ⟨by omega, by omega, by omega⟩ n0 n1 (by omega) fun C' => ?_
  repeat' walk_at "ev"
  exact q _ _ _ _ _
end


theorem law_ok {ns : List Int} (hl : ns.length ≤ 63) : W (m_law [.lst (ns.map D.int)] []) fun d _ => d = .bl true := by
  unfold m_law
  repeat' walk_at "ev"
  refine w_fzL ?_
  repeat' walk_at "ev"
  refine cells_ok hl (by decide) fun ms hm hm2 => ?_
  refine ⟨_, rfl, rfl, closedDs_ints _ _, ?_⟩
  repeat' walk_at "ev"
  refine w_forM (fun i sl C => sl = [some (.lst (ns.map D.int)), some (.lst (ms.map D.int)), none, none, none, none, none, none, none, none, none, none, none] ∧ C = []) (fun _ _ _ _ => okG_nil _) ?_ ?_ ⟨rfl, rfl⟩
  · intro i d sl C hd hi
    obtain ⟨rfl, rfl⟩ := hi
    rw [List.length_map] at hd
    obtain ⟨hi, rfl⟩ := rgD_get hd
    obtain ⟨z, hz⟩ := get_ex hi
    have az : atI (ms.map D.int) (i : Int) = some (.int z) := Nv.atI_nat (by rw [List.getElem?_map, hz]; rfl)
    repeat' walk_at "ev"
    refine jar_ok (by omega) (by omega) fun S hS => ?_
    repeat' walk_at "ev"
    refine w_fzV ?_
    repeat' walk_at "ev"
    refine size_ok (G := []) hS ClS.nil fun r S2 r0 r1 _ hS2 => ?_
    refine ⟨[S2], [], rfl, rfl, ClS.one (hS2.closed 0), rfl, ?_⟩
    repeat' walk_at "ev"
    obtain ⟨n, hn, n0, n1⟩ : ∃ n : Nat, min 60 r = (n : Int) ∧ 1 ≤ n ∧ n ≤ 200 := ⟨(min 60 r).toNat, by omega, by omega, by omega⟩
    rw [hn]
    refine begun_ok hS2 n0 n1 fun C1 S3 i1 j1 k1 h1 p kvs hR hI hH hD h0 hS3 hsc hz1 hz2 => ?_
    obtain ⟨z1, z2, z3, z4⟩ := hz1
    clear hH hD hz2
    repeat' walk_at "ev"
    obtain ⟨G, rfl⟩ : ∃ G, C1 = S3 :: G := by
      cases C1 with
      | nil => cases h0
      | cons c G => cases h0; exact ⟨G, rfl⟩
    refine w_fz1 ?_
    repeat' walk_at "ev"
    refine w_eqLI (m := []) ?_
    repeat' walk_at "ev"
    refine w_ifC fun y hy => ?_
    obtain ⟨most, rfl, m0, m1⟩ : ∃ most : Int, y = .int most ∧ 0 ≤ most ∧ most ≤ 20 := by
      rcases hy with ⟨_, rfl⟩ | ⟨_, rfl⟩
      · exact ⟨4, rfl, by decide, by decide⟩
      · exact ⟨20, rfl, by decide, by decide⟩
    repeat' walk_at "ev"
    refine actsR_ok hS3 (by omega) (by omega) m0 (by omega) fun S5 acts hS5 hh hal => ?_
    have s5 : SC (S5 :: G) := SC.set (C := S3 :: G) (l := 0) hsc (closedC_mono (Nat.zero_le _) _ (hS5.closed 0))
    refine ⟨_, S5 :: G, rfl, rfl, rfl, s5, dD_closed _, ?_⟩
    have rA : RingAt (S5 :: G) i1 j1 k1 p [] [] := hR.set (l := 0) (c := S5) z1 z2 z3
    have c5 : (S5 :: G)[0]? = some S5 := rfl
    generalize S5 :: G = C5 at rA c5 s5 ⊢
    clear hR h0 hsc
    have al : acts.length ≤ 20 := by omega
    repeat' walk_at "ev"
    refine doall_ok rA hI hh (by show 0 + acts.length < 90000; omega) fun C6 k6 r6 g6 v6 => ?_
    have c6 := v6.at_ 0 _ c5 z1 z2 z3
    have s6 := v6.sc s5
    have z6 : 0 ≠ k6 := v6.nw 0 (get_lt c5) z3
    rw [List.nil_append] at r6 g6
    repeat' walk_at "ev"
    have lm : (acts.map dD).length = acts.length := List.length_map ..
    rw [lm]
    refine pull_ok c6 hS5 (by omega) (by omega) fun r7 S7 a7 b7 hS7 => ?_
    obtain ⟨bc, rfl⟩ : ∃ bc : Nat, r7 = bc := ⟨r7.toNat, by omega⟩
    have r8 := r6.set (l := 0) (c := S7) z1 z2 z6
    have c8 : (C6.set 0 S7)[0]? = some S7 := List.getElem?_set_self (get_lt c6)
    have s8 : SC (C6.set 0 S7) := SC.set s6 (closedC_mono (Nat.zero_le _) _ (hS7.closed 0))
    generalize C6.set 0 S7 = C8 at r8 c8 s8 ⊢
    clear r6 c6 s6 rA c5 s5 v6
    repeat' walk_at "ev"
    refine w_forM (fun t sl Cc => ∃ (x8 : Option D), sl = [some (.lst (ns.map D.int)), some (.lst (ms.map D.int)), some (.int (i : Nat)), some (.cell 0), some (.int (n : Nat)), some (.cell i1), some (.cell h1), some (.lst (acts.map dD)), x8, none, none, none, none] ∧ Cc[0]? = some S7 ∧ SC Cc ∧ RingAt Cc i1 j1 k6 (run p (acts.take (acts.length - t))) (hst p (acts.take (acts.length - t))) (acts.drop (acts.length - t)).reverse ∧ RgIn n (run p (acts.take (acts.length - t))) (hst p (acts.take (acts.length - t))) (acts.drop (acts.length - t)).reverse) (fun _ _ _ _ => okG_nil _) ?_ ?_ ⟨_, rfl, c8, s8, by rw [Nat.sub_zero, List.take_length, List.drop_length]; exact r8, by rw [Nat.sub_zero, List.take_length, List.drop_length]; exact g6⟩
    · intro t e' sl Cc hd2 hI
      obtain ⟨x8, rfl, c9, s9, r9, g9⟩ := hI
      obtain ⟨ht, rfl⟩ := rgD_get (n := bc) hd2
      obtain ⟨m, hm⟩ : ∃ m, acts.length - t = m + 1 := ⟨acts.length - t - 1, by omega⟩
      obtain ⟨e, he⟩ := get_ex (l := acts) (i := m) (by omega)
      have e2 : hst p (acts.take (m + 1)) = hst p (acts.take m) ++ [(e, run p (acts.take m))] := by
        rw [List.take_succ, he]
        exact hst_app _ _ _
      have e3 : (acts.drop m).reverse = (acts.drop (m + 1)).reverse ++ [e] := by
        rw [show acts.drop m = e :: acts.drop (m + 1) from by
          have hml : m < acts.length := by omega
          rw [List.drop_eq_getElem_cons hml]
          congr 1
          rw [List.getElem?_eq_getElem hml] at he
          exact Option.some.inj he]
        simp
      rw [hm, e2] at r9 g9
      repeat' walk_at "ev"
      refine w_M ?_
      repeat' walk_at "ev"
      refine ⟨i1, _, rfl, r9.o, rfl, ?_⟩
      repeat' walk_at "ev"
      refine ⟨rfl, ?_⟩
      refine backF r9 g9 (by simp; omega) fun C10 r10 g10 v10 => ?_
      repeat' walk_at "ev"
      refine ⟨_, rfl, v10.at_ 0 _ c9 z1 z2 z6, v10.sc s9, ?_, ?_⟩
      · rw [show acts.length - (t + 1) = m from by omega, e3]
        exact r10
      · rw [show acts.length - (t + 1) = m from by omega, e3]
        exact g10
    · intro sl Cc hI
      obtain ⟨x8, rfl, c9, s9, r9, g9⟩ := hI
      rw [rgD_len] at r9 g9
      refine copies_ok c9 hS7 s9 r9 g9 ⟨z1, z2, z6⟩ n0 n1 (by rw [List.length_drop]; omega) (by rw [hst_len, List.length_take]; omega) fun C' x9 x10 x11 x12 => ?_
      refine gc_niln (by walk_at "sw") ?_ ⟨rfl, rfl⟩
      show (closedDs 0 (ns.map D.int) && (closedDs 0 (ms.map D.int) && true)) = true
      rw [closedDs_ints, closedDs_ints]
      rfl
  · intro sl C hi
    obtain ⟨rfl, rfl⟩ := hi
    repeat' walk_at "ev"
    exact fin_same rfl rfl rfl


end Tk
open PySem PySem.W PyProof.Rows
set_option maxHeartbeats 0 in
theorem PySem.Challenge.cw_takeback_k27_equal_rings_and_twins_holds : PySem.Challenge.rw_takeback_k27_equal_rings_and_twins.Holds := by
  w_on; o_law; k_head; (case hw => w_witness2)
  k_fill
  refine Nv.walkG (l := PySem.Challenge.rw_takeback_k27_equal_rings_and_twins) (n := 63) (k := 8) (x := "_law_script") (mf := Tk.m_law) rfl (by decide) rfl ⟨rfl, by decide, by decide⟩ (fun w h Y => PySem.W.kIn_of Y) ?hfun (fun ns hl => ?hlaw)
  case hlaw =>
    obtain ⟨d, C, e, hd⟩ := Tk.law_ok hl
    exact ⟨C, hd ▸ e⟩
  case hfun =>
    intro w mg fa h KX G hmg
    refine' Tk.all_mk KX G hmg (Tk.blts_of KX G ?qz0 ?qz1 ?qz2 ?qz3 ?qz4 ?qz5 ?qz6 ?qz7 ?qz8 ?qz9 ?qz10 ?qz11) ⟨(Tk.gc_COME KX G ?qg0), (Tk.gc_GO KX G ?qg1), (Tk.gc_LEAST_DANCER KX G ?qg2), (Tk.gc_LEFT KX G ?qg3), (Tk.gc_MOST_DANCERS KX G ?qg4), (Tk.gc_RIGHT KX G ?qg5), (Tk.gc_WORDS KX G ?qg6 ?qh6 ?qw6 ?qv6)⟩ (Tk.at__law_cells KX G ?qa0 ?ql0 ?qc0 ?qk0) (Tk.at__law_jar KX G ?qa1 ?ql1 ?qc1 ?qk1) (Tk.at__law_pull KX G ?qa2 ?ql2 ?qc2 ?qk2) (Tk.at__law_ring KX G ?qa3 ?ql3 ?qc3 ?qk3) (Tk.at__law_acts KX G ?qa4 ?ql4 ?qc4 ?qk4) (Tk.at__law_shown KX G ?qa5 ?ql5 ?qc5 ?qk5) (Tk.at__law_do KX G ?qa6 ?ql6 ?qc6 ?qk6) (Tk.at__law_any KX G ?qa7 ?ql7 ?qc7 ?qk7) (Tk.at_is_between KX G ?qa8 ?ql8 ?qc8 ?qk8) (Tk.at_is_stand KX G ?qa9 ?ql9 ?qc9 ?qk9) (Tk.at_need_stand KX G ?qa10 ?ql10 ?qc10 ?qk10) (Tk.at_copied KX G ?qa11 ?ql11 ?qc11 ?qk11) (Tk.at_need_dancers KX G ?qa12 ?ql12 ?qc12 ?qk12) (Tk.at_whole KX G ?qa13 ?ql13 ?qc13 ?qk13) (Tk.at_first_stand KX G ?qa14 ?ql14 ?qc14 ?qk14) (Tk.at__law_hands KX G ?qa15 ?ql15 ?qc15 ?qk15) (Tk.at__law_begun KX G ?qa16 ?ql16 ?qc16 ?qk16) (Tk.at_hands_by KX G ?qa17 ?ql17 ?qc17 ?qk17) (Tk.at_with_deed KX G ?qa18 ?ql18 ?qc18 ?qk18) (Tk.at_is_deed KX G ?qa19 ?ql19 ?qc19 ?qk19) (Tk.at_dancers_of KX G ?qa20 ?ql20 ?qc20 ?qk20) (Tk.at__law_do_all KX G ?qa21 ?ql21 ?qc21 ?qk21) (Tk.at__law_again_all KX G ?qa22 ?ql22 ?qc22 ?qk22) (Tk.at__law_size KX G ?qa23 ?ql23 ?qc23 ?qk23) (Tk.at__law_exact KX G ?qa24 ?ql24 ?qc24 ?qk24) (Tk.at__law_all KX G ?qa25 ?ql25 ?qc25 ?qk25) (Tk.at__law_apart_right KX G ?qa26 ?ql26 ?qc26 ?qk26) (Tk.atI_Ring_0 KX G ?nRing0aC ?nRing0mk ?nRing0mi ?nRing0mf ?nRing0kC ?nRing0k ?nRing0l ?nRing0c ?nRing0lT ?nRing0lk0) (Tk.atI_Ring_1 KX G ?nRing1aC ?nRing1mk ?nRing1mi ?nRing1mf ?nRing1kC ?nRing1k ?nRing1l ?nRing1c ?nRing1lT ?nRing1lk0) (Tk.at_Ring__put KX G ?mRinguuputaC ?mRinguuputpg ?mRinguuputhd ?mRinguuputpo ?mRinguuputsa ?mRinguuputma ?mRinguuputmf ?mRinguuputk ?mRinguuputl ?mRinguuputc) (Tk.at_Ring__did KX G ?mRinguudidaC ?mRinguudidpg ?mRinguudidhd ?mRinguudidpo ?mRinguudidsa ?mRinguudidma ?mRinguudidmf ?mRinguudidk ?mRinguudidl ?mRinguudidc) (Tk.at_Ring__go KX G ?mRinguugoaC ?mRinguugopg ?mRinguugohd ?mRinguugopo ?mRinguugosa ?mRinguugoma ?mRinguugomf ?mRinguugok ?mRinguugol ?mRinguugoc) (Tk.at_Ring__come KX G ?mRinguucomeaC ?mRinguucomepg ?mRinguucomehd ?mRinguucomepo ?mRinguucomesa ?mRinguucomema ?mRinguucomemf ?mRinguucomek ?mRinguucomel ?mRinguucomec) (Tk.at_Ring__again KX G ?mRinguuagainaC ?mRinguuagainpg ?mRinguuagainhd ?mRinguuagainpo ?mRinguuagainsa ?mRinguuagainma ?mRinguuagainmf ?mRinguuagaink ?mRinguuagainl ?mRinguuagainc) (Tk.at_Ring__stand KX G ?mRinguustandaC ?mRinguustandpg ?mRinguustandhd ?mRinguustandpo ?mRinguustandsa ?mRinguustandma ?mRinguustandmf ?mRinguustandk ?mRinguustandl ?mRinguustandc) (Tk.at_Ring__back KX G ?mRinguubackaC ?mRinguubackpg ?mRinguubackhd ?mRinguubackpo ?mRinguubacksa ?mRinguubackma ?mRinguubackmf ?mRinguubackk ?mRinguubackl ?mRinguubackc) (Tk.at_Ring__twin KX G ?mRinguutwinaC ?mRinguutwinpg ?mRinguutwinhd ?mRinguutwinpo ?mRinguutwinsa ?mRinguutwinma ?mRinguutwinmf ?mRinguutwink ?mRinguutwinl ?mRinguutwinc) (Tk.at_Ring____eq__ KX G ?mRinguuuuequuaC ?mRinguuuuequupg ?mRinguuuuequuhd ?mRinguuuuequupo ?mRinguuuuequusa ?mRinguuuuequuma ?mRinguuuuequumf ?mRinguuuuequuk ?mRinguuuuequul ?mRinguuuuequuc) (Tk.at_Ring__history KX G ?mRinguuhistoryaC ?mRinguuhistorypg ?mRinguuhistoryhd ?mRinguuhistorypo ?mRinguuhistorysa ?mRinguuhistoryma ?mRinguuhistorymf ?mRinguuhistoryk ?mRinguuhistoryl ?mRinguuhistoryc) (Tk.at_Ring____len__ KX G ?mRinguuuulenuuaC ?mRinguuuulenuupg ?mRinguuuulenuuhd ?mRinguuuulenuupo ?mRinguuuulenuusa ?mRinguuuulenuuma ?mRinguuuulenuumf ?mRinguuuulenuuk ?mRinguuuulenuul ?mRinguuuulenuuc) (Tk.fa_cl_Ring KX G ?fcl_RingaC ?fcl_Ringpg ?fcl_Ringhd ?fcl_Ringpo ?fcl_Ringsa) (Tk.fa_nf_Ring_stand_held KX G ?fnf_Ring_stand_heldaC ?fnf_Ring_stand_heldnf) (Tk.fa_nf_Ring_done_held KX G ?fnf_Ring_done_heldaC ?fnf_Ring_done_heldnf) (Tk.fa_nf_Ring_back_held KX G ?fnf_Ring_back_heldaC ?fnf_Ring_back_heldnf) (Tk.fa_r_Nothing KX G ?fr_NothingaC ?fr_Nothingex ?fr_Nothingkp ?fr_Nothingsb ?fr_Nothingty) (Tk.fa_kp_Nothing KX G ?fkp_NothingaC0 ?fkp_NothingaR ?fkp_Nothings1 ?fkp_Nothings2 ?fkp_Nothings3 ?fkp_Nothings40) (Tk.fa_ow_Ring KX G ?fow_RingaC ?fow_Ringpg ?fow_Ringhd ?fow_Ringpo ?fow_Ringsa ?fow_Ringxa ?fow_Ringxn ?fow_Ringxt ?fow_Ringxm ?fow_Ringxe ?fow_Ringty) ?qa ?ql ?qc ?qk
    (case qz0 => k_is)
    (case qz1 => k_is)
    (case qz2 => k_is)
    (case qz3 => k_is)
    (case qz4 => k_is)
    (case qz5 => k_is)
    (case qz6 => k_is)
    (case qz7 => k_is)
    (case qz8 => k_is)
    (case qz9 => k_is)
    (case qz10 => k_is)
    (case qz11 => k_is)
    (case qg0 => k_is)
    (case qg1 => k_is)
    (case qg2 => k_is)
    (case qg3 => k_is)
    (case qg4 => k_is)
    (case qg5 => k_is)
    (case qg6 => k_is)
    (case qh6 => k_is)
    (case qw6 => decide)
    (case qv6 => exact .cons ⟨_, rfl⟩ (.cons ⟨_, rfl⟩ (.nil)))
    (case qa0 => k_is)
    (case ql0 => k_is)
    (case qc0 => k_is)
    (case qk0 => k_is)
    (case qa1 => k_is)
    (case ql1 => k_is)
    (case qc1 => k_is)
    (case qk1 => k_is)
    (case qa2 => k_is)
    (case ql2 => k_is)
    (case qc2 => k_is)
    (case qk2 => k_is)
    (case qa3 => k_is)
    (case ql3 => k_is)
    (case qc3 => k_is)
    (case qk3 => k_is)
    (case qa4 => k_is)
    (case ql4 => k_is)
    (case qc4 => k_is)
    (case qk4 => k_is)
    (case qa5 => k_is)
    (case ql5 => k_is)
    (case qc5 => k_is)
    (case qk5 => k_is)
    (case qa6 => k_is)
    (case ql6 => k_is)
    (case qc6 => k_is)
    (case qk6 => k_is)
    (case qa7 => k_is)
    (case ql7 => k_is)
    (case qc7 => k_is)
    (case qk7 => k_is)
    (case qa8 => k_is)
    (case ql8 => k_is)
    (case qc8 => k_is)
    (case qk8 => k_is)
    (case qa9 => k_is)
    (case ql9 => k_is)
    (case qc9 => k_is)
    (case qk9 => k_is)
    (case qa10 => k_is)
    (case ql10 => k_is)
    (case qc10 => k_is)
    (case qk10 => k_is)
    (case qa11 => k_is)
    (case ql11 => k_is)
    (case qc11 => k_is)
    (case qk11 => k_is)
    (case qa12 => k_is)
    (case ql12 => k_is)
    (case qc12 => k_is)
    (case qk12 => k_is)
    (case qa13 => k_is)
    (case ql13 => k_is)
    (case qc13 => k_is)
    (case qk13 => k_is)
    (case qa14 => k_is)
    (case ql14 => k_is)
    (case qc14 => k_is)
    (case qk14 => k_is)
    (case qa15 => k_is)
    (case ql15 => k_is)
    (case qc15 => k_is)
    (case qk15 => k_is)
    (case qa16 => k_is)
    (case ql16 => k_is)
    (case qc16 => k_is)
    (case qk16 => k_is)
    (case qa17 => k_is)
    (case ql17 => k_is)
    (case qc17 => k_is)
    (case qk17 => k_is)
    (case qa18 => k_is)
    (case ql18 => k_is)
    (case qc18 => k_is)
    (case qk18 => k_is)
    (case qa19 => k_is)
    (case ql19 => k_is)
    (case qc19 => k_is)
    (case qk19 => k_is)
    (case qa20 => k_is)
    (case ql20 => k_is)
    (case qc20 => k_is)
    (case qk20 => k_is)
    (case qa21 => k_is)
    (case ql21 => k_is)
    (case qc21 => k_is)
    (case qk21 => k_is)
    (case qa22 => k_is)
    (case ql22 => k_is)
    (case qc22 => k_is)
    (case qk22 => k_is)
    (case qa23 => k_is)
    (case ql23 => k_is)
    (case qc23 => k_is)
    (case qk23 => k_is)
    (case qa24 => k_is)
    (case ql24 => k_is)
    (case qc24 => k_is)
    (case qk24 => k_is)
    (case qa25 => k_is)
    (case ql25 => k_is)
    (case qc25 => k_is)
    (case qk25 => k_is)
    (case qa26 => k_is)
    (case ql26 => k_is)
    (case qc26 => k_is)
    (case qk26 => k_is)
    (case nRing0aC => k_is)
    (case nRing0mk => k_is)
    (case nRing0mi => k_is)
    (case nRing0mf => k_is)
    (case nRing0kC => k_is)
    (case nRing0k => k_is)
    (case nRing0l => k_is)
    (case nRing0c => k_is)
    (case nRing0lT => k_is)
    (case nRing0lk0 => k_is)
    (case nRing1aC => k_is)
    (case nRing1mk => k_is)
    (case nRing1mi => k_is)
    (case nRing1mf => k_is)
    (case nRing1kC => k_is)
    (case nRing1k => k_is)
    (case nRing1l => k_is)
    (case nRing1c => k_is)
    (case nRing1lT => k_is)
    (case nRing1lk0 => k_is)
    (case mRinguuputaC => k_is)
    (case mRinguuputpg => k_is)
    (case mRinguuputhd => k_is)
    (case mRinguuputpo => k_is)
    (case mRinguuputsa => k_is)
    (case mRinguuputma => k_is)
    (case mRinguuputmf => k_is)
    (case mRinguuputk => k_is)
    (case mRinguuputl => k_is)
    (case mRinguuputc => k_is)
    (case mRinguudidaC => k_is)
    (case mRinguudidpg => k_is)
    (case mRinguudidhd => k_is)
    (case mRinguudidpo => k_is)
    (case mRinguudidsa => k_is)
    (case mRinguudidma => k_is)
    (case mRinguudidmf => k_is)
    (case mRinguudidk => k_is)
    (case mRinguudidl => k_is)
    (case mRinguudidc => k_is)
    (case mRinguugoaC => k_is)
    (case mRinguugopg => k_is)
    (case mRinguugohd => k_is)
    (case mRinguugopo => k_is)
    (case mRinguugosa => k_is)
    (case mRinguugoma => k_is)
    (case mRinguugomf => k_is)
    (case mRinguugok => k_is)
    (case mRinguugol => k_is)
    (case mRinguugoc => k_is)
    (case mRinguucomeaC => k_is)
    (case mRinguucomepg => k_is)
    (case mRinguucomehd => k_is)
    (case mRinguucomepo => k_is)
    (case mRinguucomesa => k_is)
    (case mRinguucomema => k_is)
    (case mRinguucomemf => k_is)
    (case mRinguucomek => k_is)
    (case mRinguucomel => k_is)
    (case mRinguucomec => k_is)
    (case mRinguuagainaC => k_is)
    (case mRinguuagainpg => k_is)
    (case mRinguuagainhd => k_is)
    (case mRinguuagainpo => k_is)
    (case mRinguuagainsa => k_is)
    (case mRinguuagainma => k_is)
    (case mRinguuagainmf => k_is)
    (case mRinguuagaink => k_is)
    (case mRinguuagainl => k_is)
    (case mRinguuagainc => k_is)
    (case mRinguustandaC => k_is)
    (case mRinguustandpg => k_is)
    (case mRinguustandhd => k_is)
    (case mRinguustandpo => k_is)
    (case mRinguustandsa => k_is)
    (case mRinguustandma => k_is)
    (case mRinguustandmf => k_is)
    (case mRinguustandk => k_is)
    (case mRinguustandl => k_is)
    (case mRinguustandc => k_is)
    (case mRinguubackaC => k_is)
    (case mRinguubackpg => k_is)
    (case mRinguubackhd => k_is)
    (case mRinguubackpo => k_is)
    (case mRinguubacksa => k_is)
    (case mRinguubackma => k_is)
    (case mRinguubackmf => k_is)
    (case mRinguubackk => k_is)
    (case mRinguubackl => k_is)
    (case mRinguubackc => k_is)
    (case mRinguutwinaC => k_is)
    (case mRinguutwinpg => k_is)
    (case mRinguutwinhd => k_is)
    (case mRinguutwinpo => k_is)
    (case mRinguutwinsa => k_is)
    (case mRinguutwinma => k_is)
    (case mRinguutwinmf => k_is)
    (case mRinguutwink => k_is)
    (case mRinguutwinl => k_is)
    (case mRinguutwinc => k_is)
    (case mRinguuuuequuaC => k_is)
    (case mRinguuuuequupg => k_is)
    (case mRinguuuuequuhd => k_is)
    (case mRinguuuuequupo => k_is)
    (case mRinguuuuequusa => k_is)
    (case mRinguuuuequuma => k_is)
    (case mRinguuuuequumf => k_is)
    (case mRinguuuuequuk => k_is)
    (case mRinguuuuequul => k_is)
    (case mRinguuuuequuc => k_is)
    (case mRinguuhistoryaC => k_is)
    (case mRinguuhistorypg => k_is)
    (case mRinguuhistoryhd => k_is)
    (case mRinguuhistorypo => k_is)
    (case mRinguuhistorysa => k_is)
    (case mRinguuhistoryma => k_is)
    (case mRinguuhistorymf => k_is)
    (case mRinguuhistoryk => k_is)
    (case mRinguuhistoryl => k_is)
    (case mRinguuhistoryc => k_is)
    (case mRinguuuulenuuaC => k_is)
    (case mRinguuuulenuupg => k_is)
    (case mRinguuuulenuuhd => k_is)
    (case mRinguuuulenuupo => k_is)
    (case mRinguuuulenuusa => k_is)
    (case mRinguuuulenuuma => k_is)
    (case mRinguuuulenuumf => k_is)
    (case mRinguuuulenuuk => k_is)
    (case mRinguuuulenuul => k_is)
    (case mRinguuuulenuuc => k_is)
    (case fcl_RingaC => k_is)
    (case fcl_Ringpg => k_is)
    (case fcl_Ringhd => k_is)
    (case fcl_Ringpo => k_is)
    (case fcl_Ringsa => k_is)
    (case fnf_Ring_stand_heldaC => k_is)
    (case fnf_Ring_stand_heldnf => k_is)
    (case fnf_Ring_done_heldaC => k_is)
    (case fnf_Ring_done_heldnf => k_is)
    (case fnf_Ring_back_heldaC => k_is)
    (case fnf_Ring_back_heldnf => k_is)
    (case fr_NothingaC => k_is)
    (case fr_Nothingex => k_exc)
    (case fr_Nothingkp => k_is)
    (case fr_Nothingsb => k_is)
    (case fr_Nothingty => k_is)
    (case fkp_NothingaC0 => k_is)
    (case fkp_NothingaR => k_is)
    (case fkp_Nothings1 => k_is)
    (case fkp_Nothings2 => k_is)
    (case fkp_Nothings3 => k_is)
    (case fkp_Nothings40 => k_is)
    (case fow_RingaC => k_is)
    (case fow_Ringpg => k_is)
    (case fow_Ringhd => k_is)
    (case fow_Ringpo => k_is)
    (case fow_Ringsa => k_is)
    (case fow_Ringxa => k_is)
    (case fow_Ringxn => k_is)
    (case fow_Ringxt => k_is)
    (case fow_Ringxm => k_is)
    (case fow_Ringxe => k_is)
    (case fow_Ringty => k_is)
    (case qa => k_is)
    (case ql => k_is)
    (case qc => k_is)
    (case qk => k_is)
