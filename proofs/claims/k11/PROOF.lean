import PyProof.Rows.All
import PySem.Challenge.RW_takeback_k11_texts_of_no_stand
import Wide.All
import OpenK.AllK
import Wide.FinOn
import HandS.ForMost
import HandS.Walk
import KE.KDictKeyed
import KE.KDictDisplayH
import KE.KeyNested
import HandS.Dict
import HandS.Wide
import HandS.Style
import HandS.IsInst
import HandS.Exc
import HandS.WordsExc
import HandS.Conv
import HandS.SortInts
import HandS.SetFor
import HandS.Deep
import HandS.Small
import HandS.TupAny
import HandS.Zip
import KE.KUnpack
import KE.DataFind
import HandS.TupLen
import HandS.DictComp
import HandS.WordsDict
import HandS.SetBool
import HandS.More
import HandS.ExcInit
import HandS.ExcField
import HandS.ExcOwn
import HandS.ExcIs
import KE.KExcIs
import KE.KIsAll
import HandS.ClsMeth
import HandS.Words
import HandS.TryOnly
import HandS.HotCalls
import HandS.Text
import HandS.FStr
set_option Elab.async false
set_option linter.all false
set_option maxRecDepth 100000
set_option maxHeartbeats 4000000
set_option autoImplicit false
set_option exponentiation.threshold 20000
namespace Nv
open PySem PySem.Spec PyProof.Rows L2

/-! data, cells, results -/
inductive D where
  | non
  | bl (b : Bool)
  | int (i : Int)
  | str (x : Str)
  | lst (xs : List D)
  | tup (xs : List D)
  | cell (i : Nat)
  | edct
  | fn (a : Addr)
  | exc (c : Str) (f : Str) (vs : List D)
inductive Cell where
  | lst (xs : List D)
  | dk (kvs : List (Key × D))
  | dt (kvs : List (List Key × D))
  | fz (xs : List D)
  | dn (kvs : List (NestedKey × D))
  | obj (c : Str) (fs : List (Str × D))
  | lk (kvs : List (Key × D))
def Cell.isFz : Cell → Bool
  | .fz _ => true
  | .lk _ => true
  | _ => false
structure Exn where
  cls : Str
  fld : Option (Str × D)
abbrev Sl := List (Option D)
abbrev Store := List Cell
inductive R (α : Type) where
  | ok (a : α)
  | ex (x : Exn) (C : Store)
  | no
def R.bind {α β : Type} : R α → (α → R β) → R β
  | .ok a, f => f a
  | .ex x C, _ => .ex x C
  | .no, _ => .no
theorem R.bind_ok {α β : Type} (a : α) (f : α → R β) : (R.ok a).bind f = f a := rfl
theorem R.bind_ex {α β : Type} (x : Exn) (C : Store) (f : α → R β) : (R.ex x C).bind f = .ex x C := rfl
theorem R.bind_no {α β : Type} (f : α → R β) : (R.no : R α).bind f = .no := rfl
abbrev RE := R (D × Store)
abbrev ME := Sl → Store → RE

/-! keys that nest, without texts -/
mutual
def keyN : D → Option NestedKey
  | .non => some .none
  | .bl b => some (.num (if b then 1 else 0))
  | .int i => some (.num i)
  | .tup ds => (keysN ds).map .tup
  | .str _ => none
  | .lst _ => none
  | .cell _ => none
  | .edct => none
  | .fn _ => none
  | .exc _ _ _ => none
def keysN : List D → Option (List NestedKey)
  | [] => some []
  | d :: ds => (keyN d).bind fun k => (keysN ds).map (k :: ·)
end
mutual
def hash0 : NestedKey → Int
  | .none => reduceHash 0xFCA86420
  | .num i => hashInt i
  | .text _ => 0
  | .tup ks => reduceHash (Builtin.Tuple.tupleHashOf (hashes0 ks))
def hashes0 : List NestedKey → List Int
  | [] => []
  | k :: ks => hash0 k :: hashes0 ks
end
mutual
def noTx : NestedKey → Bool
  | .none => true
  | .num _ => true
  | .text _ => false
  | .tup ks => noTxs ks
def noTxs : List NestedKey → Bool
  | [] => true
  | k :: ks => noTx k && noTxs ks
end
mutual
theorem hash0_eq (w : World) : ∀ k : NestedKey, noTx k = true → k.hash w = hash0 k
  | .none, _ => rfl
  | .num _, _ => rfl
  | .text _, h => nomatch h
  | .tup ks, h => by
    show reduceHash (Builtin.Tuple.tupleHashOf (NestedKey.hashes w ks)) = reduceHash (Builtin.Tuple.tupleHashOf (hashes0 ks))
    rw [hashes0_eq w ks h]
theorem hashes0_eq (w : World) : ∀ ks : List NestedKey, noTxs ks = true → NestedKey.hashes w ks = hashes0 ks
  | [], _ => rfl
  | k :: ks, h => by
    have h : (noTx k && noTxs ks) = true := h
    rw [Bool.and_eq_true] at h
    show NestedKey.hash w k :: NestedKey.hashes w ks = hash0 k :: hashes0 ks
    rw [hash0_eq w k h.1, hashes0_eq w ks h.2]
end
mutual
theorem keyN_tx : ∀ (d : D) {k : NestedKey}, keyN d = some k → noTx k = true
  | .non, _, e => by cases e; rfl
  | .bl _, _, e => by cases e; rfl
  | .int _, _, e => by cases e; rfl
  | .tup ds, k, e => by
    have e : (keysN ds).map NestedKey.tup = some k := e
    cases h : keysN ds with
    | none => rw [h] at e; cases e
    | some ks =>
      rw [h] at e
      cases e
      exact keysN_tx ds h
  | .str _, _, e => nomatch e
  | .lst _, _, e => nomatch e
  | .cell _, _, e => nomatch e
  | .edct, _, e => nomatch e
  | .fn _, _, e => nomatch e
  | .exc _ _ _, _, e => nomatch e
theorem keysN_tx : ∀ (ds : List D) {ks : List NestedKey}, keysN ds = some ks → noTxs ks = true
  | [], _, e => by cases e; rfl
  | d :: ds, ks, e => by
    have e : (keyN d).bind (fun k => (keysN ds).map (k :: ·)) = some ks := e
    cases h : keyN d with
    | none => rw [h] at e; cases e
    | some k =>
      rw [h, Option.bind_some] at e
      cases g : keysN ds with
      | none => rw [g] at e; cases e
      | some ks' =>
        rw [g] at e
        cases e
        show (noTx k && noTxs ks') = true
        rw [keyN_tx d h, keysN_tx ds g]
        rfl
end
def entN (y : NestedKey × Addr × Value) : DictEntry := ⟨hash0 y.1, .ref y.2.1, y.2.2⟩
def NDφ (a : Addr) (xs : List (NestedKey × Addr × V)) (h : Heap) : Prop :=
  (a == sysModules) = false ∧ (∀ x ∈ xs, noTx x.1 = true) ∧ xs.length ≤ sizeLine ∧ ∃ ys : List (NestedKey × Addr × Value), Paired (fun x y => x.1 = y.1 ∧ x.2.1 = y.2.1 ∧ RelV x.2.2 y.2.2) xs ys ∧
    ∃ o es ep, h.get? a = some o ∧ o.ExactDict ∧ o.data = .dict es ep ∧ es.toList = ys.map entN ∧ (ys.map (·.1)).Nodup
abbrev ND (a : Addr) (xs : List (NestedKey × Addr × V)) : HO := .ext (NDφ a xs)
/-- an exception's object, its class, its dict -/
def excφ (a C : Addr) (d : Option Addr) (h : Heap) : Prop := ∃ oe : Obj, h.get? a = some oe ∧ oe.cls = .ref C ∧ oe.dict = d ∧ ∃ vs, oe.data = .fields vs
def ExAt (F : Hp) (a C : Addr) (f : Str) (us : List V) : Prop := ∃ d : Option Addr, F a = some (.ext (excφ a C d)) ∧ ((us = [] ∧ d = none) ∨ ∃ (u : V) (dd : Addr), us = [u] ∧ d = some dd ∧ F dd = some (.xd [(f, u)]))
theorem ExAt.mono {F F' : Hp} {a C : Addr} {f : Str} {us : List V} (e : Same F F') (h : ExAt F a C f us) : ExAt F' a C f us := by
  obtain ⟨d, h1, h2⟩ := h
  refine ⟨d, e _ _ h1, ?_⟩
  rcases h2 with h2 | ⟨u, dd, h3, h4, h5⟩
  · exact .inl h2
  · exact .inr ⟨u, dd, h3, h4, e _ _ h5⟩
/-! what represents what -/
mutual
def Rep (K : PySem.W.Frag) (F : Hp) (r : List Addr) : D → V → Prop
  | .non, v => v = .non
  | .bl b, v => v = .bl b
  | .int i, v => v = .int i
  | .str x, v => v = .str x
  | .lst ds, v => ∃ a vs, v = .ref a ∧ SqL K F a vs ∧ Reps K F r ds vs
  | .tup ds, v => ∃ a vs, v = .ref a ∧ SqT K F a vs ∧ Reps K F r ds vs
  | .cell i, v => ∃ a, v = .ref a ∧ r[i]? = some a
  | .edct, v => ∃ a, v = .ref a ∧ F a = some (.dK [])
  | .fn a, v => v = .ref a
  | .exc c f ds, v => ∃ (a C : Addr) (us : List V), v = .ref a ∧ PySem.W.nsIn K mainGlobals c = some (some (.ref C)) ∧ ExAt F a C f us ∧ Reps K F r ds us
def Reps (K : PySem.W.Frag) (F : Hp) (r : List Addr) : List D → List V → Prop
  | [], vs => vs = []
  | d :: ds, vs => ∃ v w, vs = v :: w ∧ Rep K F r d v ∧ Reps K F r ds w
end
def Ex (r r' : List Addr) : Prop := ∀ (i : Nat) (a : Addr), r[i]? = some a → r'[i]? = some a
theorem Ex.refl (r : List Addr) : Ex r r := fun _ _ h => h
theorem Ex.trans {r r1 r2 : List Addr} (h : Ex r r1) (k : Ex r1 r2) : Ex r r2 := fun i a e => k i a (h i a e)
theorem Ex.app (r t : List Addr) : Ex r (r ++ t) := fun i a e => by
  rw [List.getElem?_append_left (List.getElem?_eq_some_iff.mp e).1]
  exact e
theorem Same.tup {K : PySem.W.Frag} {H H' : Hp} {a : Addr} {xs : List V} (e : Same H H') (h : SqT K H a xs) : SqT K H' a xs := by
  rcases h with (h | ⟨o, h⟩) | h
  · exact .inl (.inl (e _ _ h))
  · exact .inl (.inr ⟨o, e _ _ h⟩)
  · exact .inr h
section
variable {K : PySem.W.Frag} {B F F' H H' : Hp} {r r' : List Addr} {C : Store}
mutual
theorem Rep.mono (hF : Same F F') (hr : Ex r r') : ∀ {d : D} {v : V}, Rep K F r d v → Rep K F' r' d v
  | .non, _, h => h
  | .bl _, _, h => h
  | .int _, _, h => h
  | .str _, _, h => h
  | .lst ds, _, h => by
    obtain ⟨a, vs, e, s, q⟩ := h
    exact ⟨a, vs, e, hF.seq s, Reps.mono hF hr q⟩
  | .tup ds, _, h => by
    obtain ⟨a, vs, e, s, q⟩ := h
    exact ⟨a, vs, e, Same.tup hF s, Reps.mono hF hr q⟩
  | .cell i, _, h => by
    obtain ⟨a, e, q⟩ := h
    exact ⟨a, e, hr _ _ q⟩
  | .edct, _, h => by
    obtain ⟨a, e, q⟩ := h
    exact ⟨a, e, hF _ _ q⟩
  | .fn _, _, h => h
  | .exc c f ds, _, h => by
    obtain ⟨a, C, us, e, h1, h2, q⟩ := h
    exact ⟨a, C, us, e, h1, h2.mono hF, Reps.mono hF hr q⟩
theorem Reps.mono (hF : Same F F') (hr : Ex r r') : ∀ {ds : List D} {vs : List V}, Reps K F r ds vs → Reps K F' r' ds vs
  | [], _, h => h
  | d :: ds, _, h => by
    obtain ⟨v, w, e, h1, h2⟩ := h
    exact ⟨v, w, e, Rep.mono hF hr h1, Reps.mono hF hr h2⟩
end
theorem Reps.length : ∀ {ds : List D} {vs : List V}, Reps K F r ds vs → ds.length = vs.length
  | [], _, h => by cases (show _ = [] from h); rfl
  | d :: ds, _, h => by
    obtain ⟨v, w, rfl, _, h2⟩ := h
    simp [Reps.length h2]
theorem Reps.get : ∀ {ds : List D} {vs : List V} {i : Nat} {d : D}, Reps K F r ds vs → ds[i]? = some d → ∃ v, vs[i]? = some v ∧ Rep K F r d v
  | [], _, _, _, _, e => by simp at e
  | d :: ds, _, 0, _, h, e => by
    obtain ⟨v, w, rfl, h1, _⟩ := h
    simp at e
    subst e
    exact ⟨v, rfl, h1⟩
  | d :: ds, _, i + 1, _, h, e => by
    obtain ⟨v, w, rfl, _, h2⟩ := h
    simp at e
    obtain ⟨v', q1, q2⟩ := Reps.get h2 e
    exact ⟨v', by simpa using q1, q2⟩
theorem Reps.getV {ds : List D} {vs : List V} {i : Nat} {v : V} (h : Reps K F r ds vs) (e : vs[i]? = some v) : ∃ d, ds[i]? = some d ∧ Rep K F r d v := by
  have hl := h.length
  have hi : i < vs.length := (List.getElem?_eq_some_iff.mp e).1
  obtain ⟨v', q1, q2⟩ := h.get (i := i) (List.getElem?_eq_getElem (by omega))
  rw [e] at q1
  cases q1
  exact ⟨_, List.getElem?_eq_getElem (by omega), q2⟩
theorem Reps.nil : Reps K F r [] [] := rfl
theorem Reps.cons {d : D} {v : V} {ds : List D} {vs : List V} (h : Rep K F r d v) (t : Reps K F r ds vs) : Reps K F r (d :: ds) (v :: vs) := ⟨v, vs, rfl, h, t⟩
theorem Reps.append : ∀ {ds es : List D} {vs ws : List V}, Reps K F r ds vs → Reps K F r es ws → Reps K F r (ds ++ es) (vs ++ ws)
  | [], _, _, _, h, k => by cases (show _ = [] from h); exact k
  | d :: ds, _, _, _, h, k => by
    obtain ⟨v, w, rfl, h1, h2⟩ := h
    exact .cons h1 (Reps.append h2 k)
theorem Reps.one {d : D} {v : V} (h : Rep K F r d v) : Reps K F r [d] [v] := .cons h .nil
theorem Reps.set {d : D} {v : V} (h : Rep K F r d v) : ∀ {ds : List D} {vs : List V} (i : Nat), Reps K F r ds vs → Reps K F r (ds.set i d) (vs.set i v)
  | [], _, _, k => by cases (show _ = [] from k); exact .nil
  | _ :: _, _, 0, k => by
    obtain ⟨v, w, rfl, h1, h2⟩ := k
    exact .cons h h2
  | _ :: _, _, i + 1, k => by
    obtain ⟨v, w, rfl, h1, h2⟩ := k
    exact .cons h1 (Reps.set h i h2)
theorem Reps.take : ∀ {ds : List D} {vs : List V} (n : Nat), Reps K F r ds vs → Reps K F r (ds.take n) (vs.take n)
  | _, _, 0, _ => .nil
  | [], _, n + 1, h => by cases (show _ = [] from h); exact .nil
  | _ :: _, _, n + 1, h => by
    obtain ⟨v, w, rfl, h1, h2⟩ := h
    exact .cons h1 (Reps.take n h2)
theorem Reps.drop : ∀ {ds : List D} {vs : List V} (n : Nat), Reps K F r ds vs → Reps K F r (ds.drop n) (vs.drop n)
  | _, _, 0, h => h
  | [], _, n + 1, h => by cases (show _ = [] from h); exact .nil
  | _ :: _, _, n + 1, h => by
    obtain ⟨v, w, rfl, h1, h2⟩ := h
    exact Reps.drop n h2
theorem Reps.dropLast {ds : List D} {vs : List V} (h : Reps K F r ds vs) : Reps K F r ds.dropLast vs.dropLast := by
  rw [List.dropLast_eq_take, List.dropLast_eq_take, h.length]
  exact h.take _
theorem Reps.eraseIdx : ∀ {ds : List D} {vs : List V} (i : Nat), Reps K F r ds vs → Reps K F r (ds.eraseIdx i) (vs.eraseIdx i)
  | [], _, i, h => by cases (show _ = [] from h); exact .nil
  | _ :: _, _, 0, h => by
    obtain ⟨v, w, rfl, h1, h2⟩ := h
    exact h2
  | _ :: _, _, i + 1, h => by
    obtain ⟨v, w, rfl, h1, h2⟩ := h
    exact .cons h1 (Reps.eraseIdx i h2)
theorem Reps.reverse : ∀ {ds : List D} {vs : List V}, Reps K F r ds vs → Reps K F r ds.reverse vs.reverse
  | [], _, h => by cases (show _ = [] from h); exact .nil
  | _ :: _, _, h => by
    obtain ⟨v, w, rfl, h1, h2⟩ := h
    simp only [List.reverse_cons]
    exact (Reps.reverse h2).append (.one h1)
theorem Reps.rep {ds : List D} {vs : List V} (h : Reps K F r ds vs) : ∀ k : Nat, Reps K F r (List.replicate k ds).flatten (List.replicate k vs).flatten
  | 0 => .nil
  | k + 1 => by
    simp only [List.replicate_succ, List.flatten_cons]
    exact h.append (h.rep k)
theorem Reps.ints : ∀ {ns : List Int} {vs : List V}, Reps K F r (ns.map D.int) vs → vs = ns.map V.int
  | [], _, h => h
  | n :: ns, _, h => by
    obtain ⟨v, w, rfl, h1, h2⟩ := h
    rw [Reps.ints h2, show v = V.int n from h1]
    rfl
theorem Reps.ofInts : ∀ (ns : List Int), Reps K F r (ns.map D.int) (ns.map V.int)
  | [] => rfl
  | n :: ns => .cons rfl (Reps.ofInts ns)

/-! the state -/
def CellOk (K : PySem.W.Frag) (F : Hp) (r : List Addr) (H : Hp) (a : Addr) : Cell → Prop
  | .lst ds => F a = none ∧ ∃ vs, H a = some (.lst vs) ∧ Reps K F r ds vs
  | .dk kvs => F a = none ∧ ∃ vs, H a = some (.dK vs) ∧ kvs.map (·.1) = vs.map (·.1) ∧ Reps K F r (kvs.map (·.2)) (vs.map (·.2))
  | .dt kvs => F a = none ∧ ∃ vs, H a = some (.dT vs) ∧ kvs.map (·.1) = vs.map (·.1) ∧ Reps K F r (kvs.map (·.2)) (vs.map (·.2))
  | .fz ds => ∃ vs, F a = some (.lst vs) ∧ Reps K F r ds vs
  | .dn kvs => F a = none ∧ ∃ xs, H a = some (ND a xs) ∧ kvs.map (·.1) = xs.map (·.1) ∧ Reps K F r (kvs.map (·.2)) (xs.map (·.2.2)) ∧ ∀ x ∈ xs, ∃ d, keyN d = some x.1 ∧ x.1.depth ≤ 8 ∧ Rep K F r d (.ref x.2.1)
  | .obj c fs => F a = none ∧ ∃ (C dx : Addr) (gs : List (Str × V)), PySem.W.nsIn K mainGlobals c = some (some (.ref C)) ∧ H a = some (.ins C dx gs) ∧ fs.map (·.1) = gs.map (·.1) ∧ Reps K F r (fs.map (·.2)) (gs.map (·.2))
  | .lk kvs => ∃ o vs, F a = some (.frz o (.dK vs)) ∧ kvs.map (·.1) = vs.map (·.1) ∧ Reps K F r (kvs.map (·.2)) (vs.map (·.2))
structure Rel (K : PySem.W.Frag) (B F : Hp) (r : List Addr) (H : Hp) (C : Store) : Prop where
  froz : Same F H
  base : Same B H
  apart : ∀ (a : Addr) (o : HO), B a = some o → F a = none
  offB : ∀ (i : Nat) (a : Addr), r[i]? = some a → B a = none
  len : r.length = C.length
  cells : ∀ (i : Nat) (c : Cell) (a : Addr), C[i]? = some c → r[i]? = some a → CellOk K F r H a c
  inj : ∀ (i j : Nat) (a : Addr), r[i]? = some a → r[j]? = some a → i = j
def Sls (K : PySem.W.Frag) (F : Hp) (r : List Addr) (sl : Sl) (s : L2.St) : Prop :=
  s.length = sl.length ∧ ∀ (i : Nat) (d : D), sl[i]? = some (some d) → ∃ v, s[i]? = some (some v) ∧ Rep K F r d v
theorem Sls.mono {sl : Sl} {s : L2.St} (h : Sls K F r sl s) (hF : Same F F') (hr : Ex r r') : Sls K F' r' sl s :=
  ⟨h.1, fun i d e => let ⟨v, q1, q2⟩ := h.2 i d e; ⟨v, q1, q2.mono hF hr⟩⟩
theorem CellOk.mono {a : Addr} {c : Cell} (hr : Ex r r') (hF : Same F F') (hn : F' a = none ∨ c.isFz = true) (hH : ∀ o, H a = some o → H' a = some o) (h : CellOk K F r H a c) : CellOk K F' r' H' a c := by
  cases c with
  | lst ds =>
    obtain ⟨h1, vs, h2, h3⟩ := h
    exact ⟨hn.resolve_right (by intro z; cases z), vs, hH _ h2, h3.mono hF hr⟩
  | dk kvs =>
    obtain ⟨h1, vs, h2, h3, h4⟩ := h
    exact ⟨hn.resolve_right (by intro z; cases z), vs, hH _ h2, h3, h4.mono hF hr⟩
  | dt kvs =>
    obtain ⟨h1, vs, h2, h3, h4⟩ := h
    exact ⟨hn.resolve_right (by intro z; cases z), vs, hH _ h2, h3, h4.mono hF hr⟩
  | fz ds =>
    obtain ⟨vs, h1, h2⟩ := h
    exact ⟨vs, hF _ _ h1, h2.mono hF hr⟩
  | dn kvs =>
    obtain ⟨h1, xs, h2, h3, h4, h5⟩ := h
    exact ⟨hn.resolve_right (by intro z; cases z), xs, hH _ h2, h3, h4.mono hF hr, fun x hx => let ⟨d, k1, k2, k3⟩ := h5 x hx; ⟨d, k1, k2, k3.mono hF hr⟩⟩
  | obj c fs =>
    obtain ⟨h1, C, dx, gs, h2, h3, h4, h5⟩ := h
    exact ⟨hn.resolve_right (by intro z; cases z), C, dx, gs, h2, hH _ h3, h4, h5.mono hF hr⟩
  | lk kvs =>
    obtain ⟨o, vs, h1, h2, h3⟩ := h
    exact ⟨o, vs, hF _ _ h1, h2, h3.mono hF hr⟩
theorem CellOk.there {a : Addr} {c : Cell} (hF : Same F H) (h : CellOk K F r H a c) : ∃ o, H a = some o := by
  cases c with
  | lst ds => obtain ⟨h1, vs, h2, h3⟩ := h; exact ⟨_, h2⟩
  | dk kvs => obtain ⟨h1, vs, h2, h3⟩ := h; exact ⟨_, h2⟩
  | dt kvs => obtain ⟨h1, vs, h2, h3⟩ := h; exact ⟨_, h2⟩
  | fz ds => obtain ⟨vs, h1, h2⟩ := h; exact ⟨_, hF _ _ h1⟩
  | dn kvs => obtain ⟨h1, xs, h2, h3⟩ := h; exact ⟨_, h2⟩
  | obj c fs => obtain ⟨h1, C, dx, gs, h2, h3, h4⟩ := h; exact ⟨_, h3⟩
  | lk kvs => obtain ⟨o, vs, h1, h2, h3⟩ := h; exact ⟨_, hF _ _ h1⟩
theorem CellOk.notF {a : Addr} {c : Cell} (h : CellOk K F r H a c) : F a = none ∨ c.isFz = true := by
  cases c with
  | lst ds => exact .inl h.1
  | dk kvs => exact .inl h.1
  | dt kvs => exact .inl h.1
  | fz ds => exact .inr rfl
  | dn kvs => exact .inl h.1
  | obj c fs => exact .inl h.1
  | lk kvs => exact .inr rfl
theorem Rel.cellAt (h : Rel K B F r H C) {i : Nat} {a : Addr} (e : r[i]? = some a) : ∃ c, C[i]? = some c ∧ CellOk K F r H a c := by
  have hi : i < C.length := by
    rw [← h.len]
    exact (List.getElem?_eq_some_iff.mp e).1
  exact ⟨C[i], List.getElem?_eq_getElem hi, h.cells i _ a (List.getElem?_eq_getElem hi) e⟩
theorem Rel.addrAt (h : Rel K B F r H C) {i : Nat} {c : Cell} (e : C[i]? = some c) : ∃ a, r[i]? = some a ∧ CellOk K F r H a c := by
  have hi : i < r.length := by
    rw [h.len]
    exact (List.getElem?_eq_some_iff.mp e).1
  exact ⟨r[i], List.getElem?_eq_getElem hi, h.cells i c _ e (List.getElem?_eq_getElem hi)⟩
theorem Rel.notin (h : Rel K B F r H C) {p : Addr} (hp : H p = none) {i : Nat} {a : Addr} (e : r[i]? = some a) : a ≠ p := by
  obtain ⟨c, _, q⟩ := h.cellAt e
  obtain ⟨o, ho⟩ := q.there h.froz
  exact ne_of_none ho hp
theorem Rel.freeF (h : Rel K B F r H C) {p : Addr} (hp : H p = none) : F p = none := Same.free h.froz hp
theorem same_new {H : Hp} {p : Addr} {o : HO} (h : H p = none) : Same H (upd H p o) := fun b x e => by
  rw [upd_ne (ne_of_none e h)]
  exact e
/-- a new frozen object -/
theorem Rel.freeze (h : Rel K B F r H C) {p : Addr} {o : HO} (hp : H p = none) : Rel K B (upd F p o) r (upd H p o) C where
  froz := fun b x e => by
    by_cases hb : b = p
    · subst hb
      rw [upd_same] at e ⊢
      exact e
    · rw [upd_ne hb] at e ⊢
      exact h.froz b x e
  base := h.base.trans (same_new hp)
  apart := fun a x e => by
    rw [upd_ne (ne_of_none (h.base a x e) hp)]
    exact h.apart a x e
  offB := h.offB
  len := h.len
  cells := fun i c a e1 e2 => by
    have hne := h.notin hp e2
    have q := h.cells i c a e1 e2
    refine q.mono (.refl r) (same_new (h.freeF hp)) ?_ fun o ho => by rw [upd_ne hne]; exact ho
    rw [upd_ne hne]
    exact q.notF
  inj := h.inj
/-- an object of nobody's is new, not tracked by us -/
theorem Rel.junk (h : Rel K B F r H C) {p : Addr} {o : HO} (hp : H p = none) : Rel K B F r (upd H p o) C where
  froz := fun b x e => by
    rw [upd_ne (ne_of_none (h.froz b x e) hp)]
    exact h.froz b x e
  base := h.base.trans (same_new hp)
  apart := h.apart
  offB := h.offB
  len := h.len
  cells := fun i c a e1 e2 => by
    have hne := h.notin hp e2
    have q := h.cells i c a e1 e2
    exact q.mono (.refl r) (.refl F) q.notF fun o ho => by rw [upd_ne hne]; exact ho
  inj := h.inj
/-- a new cell -/
theorem Rel.alloc (h : Rel K B F r H C) {p : Addr} {o : HO} {c : Cell} (hp : H p = none) (hc : CellOk K F (r ++ [p]) (upd H p o) p c) : Rel K B F (r ++ [p]) (upd H p o) (C ++ [c]) where
  froz := (h.junk hp).froz
  base := (h.junk hp).base
  apart := h.apart
  offB := fun i a e => by
    by_cases hi : i < r.length
    · rw [List.getElem?_append_left hi] at e
      exact h.offB i a e
    · rw [List.getElem?_append_right (by omega)] at e
      have e : p = a := by
        cases hj : i - r.length with
        | zero => rw [hj] at e; simpa using e
        | succ n => rw [hj] at e; simp at e
      subst e
      exact Same.free h.base hp
  len := by simp [h.len]
  cells := fun i c' a e1 e2 => by
    by_cases hi : i < r.length
    · rw [List.getElem?_append_left hi] at e2
      rw [List.getElem?_append_left (by rw [← h.len]; exact hi)] at e1
      exact ((h.junk (o := o) hp).cells i c' a e1 e2).mono (Ex.app r [p]) (.refl F) ((h.junk (o := o) hp).cells i c' a e1 e2).notF fun _ q => q
    · have hl : i < (r ++ [p]).length := (List.getElem?_eq_some_iff.mp e2).1
      have hi2 : i = r.length := by simp at hl; omega
      subst hi2
      rw [List.getElem?_append_right (Nat.le_refl _)] at e2
      rw [h.len, List.getElem?_append_right (Nat.le_refl _)] at e1
      simp at e1 e2
      subst e1 e2
      exact hc
  inj := fun i j a e1 e2 => by
    have hl1 : i < (r ++ [p]).length := (List.getElem?_eq_some_iff.mp e1).1
    have hl2 : j < (r ++ [p]).length := (List.getElem?_eq_some_iff.mp e2).1
    simp at hl1 hl2
    by_cases hi : i < r.length
    · rw [List.getElem?_append_left hi] at e1
      by_cases hj : j < r.length
      · rw [List.getElem?_append_left hj] at e2
        exact h.inj i j a e1 e2
      · have : j = r.length := by omega
        subst this
        rw [List.getElem?_append_right (Nat.le_refl _)] at e2
        simp at e2
        exact absurd e2.symm (h.notin hp e1)
    · have : i = r.length := by omega
      subst this
      rw [List.getElem?_append_right (Nat.le_refl _)] at e1
      simp at e1
      by_cases hj : j < r.length
      · rw [List.getElem?_append_left hj] at e2
        exact absurd e1.symm (h.notin hp e2)
      · omega
/-- a cell written -/
theorem Rel.write (h : Rel K B F r H C) {i : Nat} {a : Addr} {o : HO} {c : Cell} (e : r[i]? = some a) (hn : F a = none) (hc : CellOk K F r (upd H a o) a c) : Rel K B F r (upd H a o) (C.set i c) where
  froz := fun b x q => by
    rw [upd_ne (ne_of_none q hn)]
    exact h.froz b x q
  base := fun b x q => by
    rw [upd_ne (ne_of_none q (h.offB i a e))]
    exact h.base b x q
  apart := h.apart
  offB := h.offB
  len := by simp [h.len]
  cells := fun j c' b e1 e2 => by
    by_cases hj : j = i
    · subst hj
      rw [e] at e2
      cases e2
      rw [List.getElem?_set_self (by rw [← h.len]; exact (List.getElem?_eq_some_iff.mp e).1)] at e1
      cases e1
      exact hc
    · rw [List.getElem?_set_ne (Ne.symm hj)] at e1
      have hba : b ≠ a := fun z => hj (h.inj j i b e2 (z ▸ e))
      have q := h.cells j c' b e1 e2
      exact q.mono (.refl r) (.refl F) q.notF fun o ho => by rw [upd_ne hba]; exact ho
  inj := h.inj
/-- a cell frozen for good -/
theorem Rel.kill (h : Rel K B F r H C) {i : Nat} {a : Addr} {vs : List V} {ds : List D} (e : r[i]? = some a) (hn : F a = none) (ho : H a = some (.lst vs)) (hd : Reps K F r ds vs) : Rel K B (upd F a (.lst vs)) r H (C.set i (.fz ds)) ∧ Same F (upd F a (.lst vs)) := by
  refine ⟨⟨fun b x q => ?_, h.base, fun b x q => ?_, h.offB, by simp [h.len], fun j c' b e1 e2 => ?_, h.inj⟩, same_new hn⟩
  · by_cases hb : b = a
    · subst hb
      rw [upd_same] at q
      rw [← q]
      exact ho
    · rw [upd_ne hb] at q
      exact h.froz b x q
  · rw [upd_ne (ne_of_none q (h.offB i a e))]
    exact h.apart b x q
  · by_cases hj : j = i
    · subst hj
      rw [e] at e2
      cases e2
      rw [List.getElem?_set_self (by rw [← h.len]; exact (List.getElem?_eq_some_iff.mp e).1)] at e1
      cases e1
      exact ⟨vs, upd_same, hd.mono (same_new hn) (.refl r)⟩
    · rw [List.getElem?_set_ne (Ne.symm hj)] at e1
      have hba : b ≠ a := fun z => hj (h.inj j i b e2 (z ▸ e))
      have q := h.cells j c' b e1 e2
      refine q.mono (.refl r) (same_new hn) ?_ fun _ z => z
      rw [upd_ne hba]
      exact q.notF
/-- the first cells alone -/
theorem Rel.cut (h : Rel K B F r H C) (n : Nat) (hn : n ≤ C.length) (hc : ∀ (i : Nat) (c : Cell) (a : Addr), i < n → C[i]? = some c → r[i]? = some a → CellOk K F (r.take n) H a c) : Rel K B F (r.take n) H (C.take n) where
  froz := h.froz
  base := h.base
  apart := h.apart
  offB := fun i a e => by
    have hi : i < (r.take n).length := (List.getElem?_eq_some_iff.mp e).1
    have hi : i < n := by simp at hi; omega
    rw [List.getElem?_take_of_lt hi] at e
    exact h.offB i a e
  len := by simp [h.len]
  cells := fun i c a e1 e2 => by
    have hi : i < (C.take n).length := (List.getElem?_eq_some_iff.mp e1).1
    have hi : i < n := by simp at hi; omega
    rw [List.getElem?_take_of_lt hi] at e1 e2
    exact hc i c a hi e1 e2
  inj := fun i j a e1 e2 => by
    have hi : i < (r.take n).length := (List.getElem?_eq_some_iff.mp e1).1
    have hj : j < (r.take n).length := (List.getElem?_eq_some_iff.mp e2).1
    have hi : i < n := by simp at hi; omega
    have hj : j < n := by simp at hj; omega
    rw [List.getElem?_take_of_lt hi] at e1
    rw [List.getElem?_take_of_lt hj] at e2
    exact h.inj i j a e1 e2
/-- one thing more that stands by itself -/
theorem Rel.aside (h : Rel K B F r H C) {p : Addr} {o : HO} (hp : H p = none) : Rel K (upd B p o) F r (upd H p o) C where
  froz := (h.junk hp).froz
  base := fun b x q => by
    by_cases hb : b = p
    · subst hb
      rw [upd_same] at q ⊢
      exact q
    · rw [upd_ne hb] at q ⊢
      exact h.base b x q
  apart := fun b x q => by
    by_cases hb : b = p
    · subst hb
      exact h.freeF hp
    · rw [upd_ne hb] at q
      exact h.apart b x q
  offB := fun i a e => by
    rw [upd_ne (h.notin hp e)]
    exact h.offB i a e
  len := h.len
  cells := (h.junk hp).cells
  inj := h.inj
/-- it changes -/
theorem Rel.asideSet {p : Addr} {o u : HO} (h : Rel K (upd B p o) F r H C) : Rel K (upd B p u) F r (upd H p u) C where
  froz := fun b x q => by
    rw [upd_ne fun z => by subst z; rw [h.apart b o upd_same] at q; cases q]
    exact h.froz b x q
  base := fun b x q => by
    by_cases hb : b = p
    · subst hb
      rw [upd_same] at q ⊢
      exact q
    · rw [upd_ne hb] at q ⊢
      exact h.base b x (by rw [upd_ne hb]; exact q)
  apart := fun b x q => by
    by_cases hb : b = p
    · subst hb
      exact h.apart b o upd_same
    · rw [upd_ne hb] at q
      exact h.apart b x (by rw [upd_ne hb]; exact q)
  offB := fun i a e => by
    have q := h.offB i a e
    by_cases hb : a = p
    · subst hb
      rw [upd_same] at q
      cases q
    · rw [upd_ne hb] at q ⊢
      exact q
  len := h.len
  cells := fun i c a e1 e2 => by
    have q := h.cells i c a e1 e2
    have hne : a ≠ p := fun z => by
      subst z
      have q := h.offB i a e2
      rw [upd_same] at q
      cases q
    exact q.mono (.refl r) (.refl F) q.notF fun o ho => by rw [upd_ne hne]; exact ho
  inj := h.inj
/-- it is let go: frozen -/
theorem Rel.asideFreeze {p : Addr} {o : HO} (h : Rel K (upd B p o) F r H C) (hB : B p = none) : Rel K B (upd F p o) r H C ∧ Same F (upd F p o) := by
  have hp : H p = some o := h.base p o upd_same
  have hF : F p = none := h.apart p o upd_same
  refine ⟨⟨fun b x q => ?_, fun b x q => ?_, fun b x q => ?_, fun i a e => ?_, h.len, fun i c a e1 e2 => ?_, h.inj⟩, same_new hF⟩
  · by_cases hb : b = p
    · subst hb
      rw [upd_same] at q
      rw [← q]
      exact hp
    · rw [upd_ne hb] at q
      exact h.froz b x q
  · exact h.base b x (by rw [upd_ne (ne_of_none q hB)]; exact q)
  · rw [upd_ne (ne_of_none q hB)]
    exact h.apart b x (by rw [upd_ne (ne_of_none q hB)]; exact q)
  · have q := h.offB i a e
    by_cases hb : a = p
    · subst hb
      exact hB
    · rw [upd_ne hb] at q
      exact q
  · have q := h.cells i c a e1 e2
    have hne : a ≠ p := fun z => by
      subst z
      have q := h.offB i a e2
      rw [upd_same] at q
      cases q
    refine q.mono (.refl r) (same_new hF) ?_ fun _ z => z
    rw [upd_ne hne]
    exact q.notF
/-- .. as a cell -/
theorem Rel.asideCell {p : Addr} {o : HO} {c : Cell} (h : Rel K (upd B p o) F r H C) (hB : B p = none) (hc : CellOk K F (r ++ [p]) H p c) : Rel K B F (r ++ [p]) H (C ++ [c]) := by
  have hp : H p = some o := h.base p o upd_same
  have hF : F p = none := h.apart p o upd_same
  have nin : ∀ (i : Nat) (a : Addr), r[i]? = some a → a ≠ p := fun i a e z => by
    subst z
    have q := h.offB i a e
    rw [upd_same] at q
    cases q
  have last : ∀ (i : Nat) (a : Addr), (r ++ [p])[i]? = some a → r[i]? = some a ∨ (i = r.length ∧ a = p) := fun i a e => by
    by_cases hi : i < r.length
    · rw [List.getElem?_append_left hi] at e
      exact .inl e
    · rw [List.getElem?_append_right (by omega)] at e
      cases hj : i - r.length with
      | zero => rw [hj] at e; exact .inr ⟨by omega, by simpa using e.symm⟩
      | succ n => rw [hj] at e; simp at e
  refine ⟨h.froz, fun b x q => ?_, fun b x q => ?_, fun i a e => ?_, by simp [h.len], fun i c' a e1 e2 => ?_, fun i j a e1 e2 => ?_⟩
  · exact h.base b x (by rw [upd_ne (ne_of_none q hB)]; exact q)
  · exact h.apart b x (by rw [upd_ne (ne_of_none q hB)]; exact q)
  · rcases last i a e with e | ⟨_, e⟩
    · have q := h.offB i a e
      rw [upd_ne (nin i a e)] at q
      exact q
    · rw [e]
      exact hB
  · rcases last i a e2 with e | ⟨e, e'⟩
    · have hi : i < C.length := by
        rw [← h.len]
        exact (List.getElem?_eq_some_iff.mp e).1
      rw [List.getElem?_append_left hi] at e1
      have q := h.cells i c' a e1 e
      exact q.mono (Ex.app r [p]) (.refl F) q.notF fun _ z => z
    · subst e e'
      rw [h.len, List.getElem?_append_right (Nat.le_refl _)] at e1
      simp at e1
      subst e1
      exact hc
  · rcases last i a e1 with e | ⟨e, e'⟩
    · rcases last j a e2 with k | ⟨k, k'⟩
      · exact h.inj i j a e k
      · exact absurd k' (nin i a e)
    · rcases last j a e2 with k | ⟨k, k'⟩
      · exact absurd e' (nin j a k)
      · rw [e, k]
end
end Nv

namespace Nv
open PySem PySem.Spec PyProof.Rows L2

/-! what is wanted of a result -/
def XOk (K : PySem.W.Frag) (mg : Str → Option Value) (E : XK) (B F : Hp) (r : List Addr) (x : Exn) (C : Store) : Prop :=
  ∀ (F' : Hp) (r' : List Addr) (H' : Hp) (a : Addr), Same F F' → Ex r r' → Rel K B F' r' H' C → mg x.cls = some (.ref a) →
    match x.fld with
    | none => E (.ref a) none H'
    | some (f, d) => ∀ (dx : Addr) (v : V), F' dx = some (.xd [(f, v)]) → Rep K F' r' d v → E (.ref a) (some dx) H'
abbrev PR (S T : Type) := Hp → List Addr → S → T → Prop
def Out {S T : Type} (P : PR S T) (K : PySem.W.Frag) (mg : Str → Option Value) (E : XK) (B F : Hp) (r : List Addr) (o : R (S × Store)) (Q : T → Hp → Prop) : Prop :=
  match o with
  | .ok (a, C) => ∀ (F' : Hp) (r' : List Addr) (H' : Hp) (b : T), Same F F' → Ex r r' → Rel K B F' r' H' C → P F' r' a b → Q b H'
  | .ex x C => XOk K mg E B F r x C
  | .no => False
abbrev PB : PR Bool Bool := fun _ _ a b => a = b
section
variable {K : PySem.W.Frag} {mg : Str → Option Value} {E : XK} {B F F1 : Hp} {r r1 : List Addr} {S T S2 T2 : Type} {P : PR S T} {P2 : PR S2 T2}
theorem XOk.mono {x : Exn} {C : Store} (h : XOk K mg E B F r x C) (hF : Same F F1) (hr : Ex r r1) : XOk K mg E B F1 r1 x C :=
  fun F' r' H' a h1 h2 h3 h4 => h F' r' H' a (hF.trans h1) (hr.trans h2) h3 h4
theorem Out.mono {o : R (S × Store)} {Q : T → Hp → Prop} (h : Out P K mg E B F r o Q) (hF : Same F F1) (hr : Ex r r1) : Out P K mg E B F1 r1 o Q := by
  cases o with
  | ok p => exact fun F' r' H' b h1 h2 h3 h4 => h F' r' H' b (hF.trans h1) (hr.trans h2) h3 h4
  | ex x C => exact XOk.mono h hF hr
  | no => exact h
theorem Out.bind {o : R (S × Store)} {k : S × Store → R (S2 × Store)} {Q : T2 → Hp → Prop} {Q' : T → Hp → Prop} (h : Out P2 K mg E B F r (o.bind k) Q)
    (hk : ∀ (a : S) (C1 : Store) (F1 : Hp) (r1 : List Addr) (H1 : Hp) (b : T), Same F F1 → Ex r r1 → Rel K B F1 r1 H1 C1 → P F1 r1 a b → Out P2 K mg E B F1 r1 (k (a, C1)) Q → Q' b H1) : Out P K mg E B F r o Q' := by
  cases o with
  | ok p =>
    obtain ⟨a, C1⟩ := p
    exact fun F' r' H' b h1 h2 h3 h4 => hk a C1 F' r' H' b h1 h2 h3 h4 (Out.mono h h1 h2)
  | ex x C => exact h
  | no => exact h
theorem Out.imp {o : R (S × Store)} {Q Q' : T → Hp → Prop} (h : Out P K mg E B F r o Q) (hq : ∀ b H, Q b H → Q' b H) : Out P K mg E B F r o Q' := by
  cases o with
  | ok p => exact fun F' r' H' b h1 h2 h3 h4 => hq _ _ (h F' r' H' b h1 h2 h3 h4)
  | ex x C => exact h
  | no => exact h
end
abbrev MG (S : Type) := Sl → Store → R (S × Store)
def LG {S T : Type} (P : PR S T) (K : PySem.W.Frag) (mg : Str → Option Value) (E : XK) (m : MG S) : L2.St → Hp → (T → Hp → Prop) → Prop := fun s H Q =>
  ∃ B F r sl C, Rel K B F r H C ∧ Sls K F r sl s ∧ Out P K mg E B F r (m sl C) Q
/-- expressions, tests, argument lists -/
structure NE (X : Cx) (E : XK) (e : Expr) (m : ME) : Prop where
  pe : PE X e (LG (Rep X.K) X.K X.mg E m)
structure NT (X : Cx) (E : XK) (e : Expr) (m : MG Bool) : Prop where
  pt : PT X e (LG PB X.K X.mg E m)
structure NW (X : Cx) (E : XK) (e : Expr) (m : MG Bool) : Prop where
  pw : PW X e (LG PB X.K X.mg E m)
structure NA (X : Cx) (E : XK) (es : List Expr) (m : MG (List D)) : Prop where
  pa : PA X es (LG (Reps X.K) X.K X.mg E m)
theorem pe_imp {X : Cx} {e : Expr} {t t' : TE} (h : PE X e t) (hi : ∀ s H Q, t' s H Q → t s H Q) : PE X e t' := ⟨fun pins s σ H Q I q => h.run pins s σ H Q I (hi _ _ _ q)⟩
theorem pt_imp {X : Cx} {e : Expr} {t t' : TT} (h : PT X e t) (hi : ∀ s H Q, t' s H Q → t s H Q) : PT X e t' := ⟨fun pins s σ H Q I q => h.run pins s σ H Q I (hi _ _ _ q)⟩
theorem pw_imp {X : Cx} {e : Expr} {t t' : TT} (h : PW X e t) (hi : ∀ s H Q, t' s H Q → t s H Q) : PW X e t' := ⟨fun wh pins s σ H Q I q => h.run wh pins s σ H Q I (hi _ _ _ q)⟩
theorem pa_imp {X : Cx} {e : List Expr} {t t' : TA} (h : PA X e t) (hi : ∀ s H Q, t' s H Q → t s H Q) : PA X e t' := ⟨fun pos pins s σ H Q I q => h.run pos pins s σ H Q I (hi _ _ _ q)⟩

section
variable {X : Cx} {E : XK} {a b c : Expr} {es : List Expr} {ma mb mc : ME} {ta tb : MG Bool} {mas : MG (List D)} {pos p1 : Pos}

/-! names and constants -/
def mVar (i : Nat) : ME := fun sl C => match sl[i]? with
  | some (some d) => .ok (d, C)
  | _ => .no
def mC (d : D) : ME := fun _ C => .ok (d, C)
theorem ne_of_var {i : Nat} (h : PE X a (tVar i)) : NE X E a (mVar i) := ⟨pe_imp h fun s H Q q => by
  obtain ⟨B, F, r, sl, C, hr, hs, o⟩ := q
  unfold mVar at o
  split at o
  · rename_i d e
    obtain ⟨v, e1, e2⟩ := hs.2 i d e
    exact ⟨v, e1, o F r H v (.refl F) (.refl r) hr e2⟩
  · exact False.elim o⟩
theorem ne_var (i : Nat) {x : Str} {pos : Pos} (hN : X.N[i]? = some x := by rfl) (hv : Vis X.env.scope x := by first | exact Or.inl rfl | exact Or.inr (Or.inl rfl) | exact Or.inr (Or.inr rfl)) (hd : (x == ("__debug__" : Str)) = false := by decide)
    (hcd : (x == ("__classdict__" : Str)) = false := by decide) : NE X E (.Name x pos) (mVar i) := ne_of_var (pe_var hN hv hd hcd)
theorem ne_c {d : D} {v : V} (h : PE X a (tC v)) (hd : ∀ F r, Rep X.K F r d v) : NE X E a (mC d) := ⟨pe_imp h fun s H Q q => by
  obtain ⟨B, F, r, sl, C, hr, hs, o⟩ := q
  exact o F r H v (.refl F) (.refl r) hr (hd F r)⟩
theorem ne_int {i : Int} {j : Nat} : NE X E (.Constant (.int i) j pos) (mC (.int i)) := ne_c pe_int fun _ _ => rfl
theorem ne_bl {i : Bool} {j : Nat} : NE X E (.Constant (.bool i) j pos) (mC (.bl i)) := ne_c pe_bl fun _ _ => rfl
theorem ne_non {j : Nat} : NE X E (.Constant .none j pos) (mC .non) := ne_c pe_non fun _ _ => rfl
theorem ne_str {x : Str} {j : Nat} : NE X E (.Constant (.str x) j pos) (mC (.str x)) := ne_c pe_str fun _ _ => rfl

/-! two-place operations -/
def m2 (g : D → D → Store → RE) (ma mb : ME) : ME := fun sl C => (ma sl C).bind fun p => (mb sl p.2).bind fun q => g p.1 q.1 q.2
def OpN (K : PySem.W.Frag) (mg : Str → Option Value) (E : XK) (r2 : R2) (g : D → D → Store → RE) : Prop :=
  ∀ (B F : Hp) (r : List Addr) (H : Hp) (C : Store) (x y : D) (v u : V) (Q : VK), Rel K B F r H C → Rep K F r x v → Rep K F r y u → Out (Rep K) K mg E B F r (g x y C) Q → r2 v u H Q
theorem two {r2 : R2} {g : D → D → Store → RE} (hg : OpN X.K X.mg E r2 g) : ∀ s H Q, LG (Rep X.K) X.K X.mg E (m2 g ma mb) s H Q → tOp r2 (LG (Rep X.K) X.K X.mg E ma) (LG (Rep X.K) X.K X.mg E mb) s H Q := by
  intro s H Q q
  obtain ⟨B, F, r, sl, C, hr, hs, o⟩ := q
  refine ⟨B, F, r, sl, C, hr, hs, Out.bind (P := Rep X.K) o fun x C1 F1 r1 H1 v e1 e2 hr1 hx o1 => ?_⟩
  refine ⟨B, F1, r1, sl, C1, hr1, hs.mono e1 e2, Out.bind (P := Rep X.K) o1 fun y C2 F2 r2' H2 u e3 e4 hr2 hy o2 => ?_⟩
  exact hg B F2 r2' H2 C2 x y v u Q hr2 (hx.mono e3 e4) hy o2
theorem ne_op {op : Operator} {r2 : R2} {g : D → D → Store → RE} (ho : OpR X (binaryOp op) r2) (hg : OpN X.K X.mg E r2 g) (ha : NE X E a ma) (hb : NE X E b mb) : NE X E (.BinOp a op b pos) (m2 g ma mb) :=
  ⟨pe_imp (pe_op ho ha.pe hb.pe) (two hg)⟩
theorem ne_cmp {op : CmpOp} {r2 : R2} {g : D → D → Store → RE} (ho : OpR X (compareOp op) r2) (hg : OpN X.K X.mg E r2 g) (ha : NE X E a ma) (hb : NE X E b mb) (hm : behindInMarks op b = false) : NE X E (.Compare a [op] [b] pos) (m2 g ma mb) :=
  ⟨pe_imp (pe_cmpR ho ha.pe hb.pe hm) (two hg)⟩
/-- a value that is a truth, as a test -/
def mT (m : ME) : MG Bool := fun sl C => (m sl C).bind fun p => match p.1 with
  | .bl b => .ok (b, p.2)
  | _ => .no
theorem test {t : TE} (ht : ∀ s H Q, LG (Rep X.K) X.K X.mg E ma s H Q → t s H Q) : ∀ s H Q, LG PB X.K X.mg E (mT ma) s H Q → t s H fun x H' => ∃ k, x = .bl k ∧ Q k H' := by
  intro s H Q q
  obtain ⟨B, F, r, sl, C, hr, hs, o⟩ := q
  refine ht s H _ ⟨B, F, r, sl, C, hr, hs, Out.bind (P := Rep X.K) o fun x C1 F1 r1 H1 v e1 e2 hr1 hx o1 => ?_⟩
  cases x with
  | bl k => exact ⟨k, hx, o1 F1 r1 H1 k (.refl _) (.refl _) hr1 rfl⟩
  | _ => exact False.elim o1
theorem nt_cmp {op : CmpOp} {r2 : R2} {g : D → D → Store → RE} (ho : OpR X (compareOp op) r2) (hg : OpN X.K X.mg E r2 g) (ha : NE X E a ma) (hb : NE X E b mb) (hm : behindInMarks op b = false) : NT X E (.Compare a [op] [b] pos) (mT (m2 g ma mb)) :=
  ⟨pt_imp (pt_cmpR ho ha.pe hb.pe hm) (test (two hg))⟩
theorem nt_val {e : Expr} {m : ME} (h : NE X E e m) (he : ∀ whole, isTrue e X.env whole = (do let v ← whole; standAt e.pos; holding [v] (truthy v)) := by intro _; rfl) : NT X E e (mT m) :=
  ⟨pt_imp (pt_val h.pe he) (test fun _ _ _ q => q)⟩

/-! one-place operations -/
def m1 (g : D → Store → RE) (ma : ME) : ME := fun sl C => (ma sl C).bind fun p => g p.1 p.2
def UnN (K : PySem.W.Frag) (mg : Str → Option Value) (E : XK) (r1 : V → Hp → VK → Prop) (g : D → Store → RE) : Prop :=
  ∀ (B F : Hp) (r : List Addr) (H : Hp) (C : Store) (x : D) (v : V) (Q : VK), Rel K B F r H C → Rep K F r x v → Out (Rep K) K mg E B F r (g x C) Q → r1 v H Q
theorem one {ru : V → Hp → VK → Prop} {g : D → Store → RE} (hg : UnN X.K X.mg E ru g) : ∀ s H Q, LG (Rep X.K) X.K X.mg E (m1 g ma) s H Q → LG (Rep X.K) X.K X.mg E ma s H fun v H1 => ru v H1 Q := by
  intro s H Q q
  obtain ⟨B, F, r, sl, C, hr, hs, o⟩ := q
  exact ⟨B, F, r, sl, C, hr, hs, Out.bind (P := Rep X.K) o fun x C1 F1 r1 H1 v e1 e2 hr1 hx o1 => hg B F1 r1 H1 C1 x v Q hr1 hx o1⟩
theorem ne_un {op : UnaryOp} {ru : V → Hp → VK → Prop} {g : D → Store → RE} (ho : UnR X (unaryOp op) ru) (hg : UnN X.K X.mg E ru g) (ha : NE X E a ma) : NE X E (.UnaryOp op a pos) (m1 g ma) :=
  ⟨pe_imp (pe_un ho ha.pe) (one hg)⟩
def gNeg : D → Store → RE := fun x C => match x with
  | .int i => .ok (.int (-i), C)
  | _ => .no
theorem un_negN {K : PySem.W.Frag} {mg : Str → Option Value} : UnN K mg E (rU fun i => .int (-i)) gNeg := by
  intro B F r H C x v Q hr hx o
  cases x with
  | int i => exact ⟨i, hx, o F r H _ (.refl _) (.refl _) hr rfl⟩
  | _ => exact False.elim o

/-! and, or, not, if else -/
def tAndM (ta tb : MG Bool) : MG Bool := fun sl C => (ta sl C).bind fun p => if p.1 = true then tb sl p.2 else .ok (false, p.2)
def tOrM (ta tb : MG Bool) : MG Bool := fun sl C => (ta sl C).bind fun p => if p.1 = true then .ok (true, p.2) else tb sl p.2
def tNotM (ta : MG Bool) : MG Bool := fun sl C => (ta sl C).bind fun p => .ok (!p.1, p.2)
theorem nw_and1 (ha : NT X E a ta) : NW X E (.BoolOp .And [a] pos) ta := ⟨pw_and1' ha⟩
where pw_and1' (ha : NT X E a ta) : PW X (.BoolOp .And [a] pos) (LG PB X.K X.mg E ta) := by
        refine ⟨fun wh pins s σ H Q I h => ?_⟩
        refine isTrue_and (thn (ha.pt.run pins s σ H Q I h) fun c s1 e => ?_)
        cases c with
        | true => exact isTrue_and_nil e
        | false => exact e
theorem nw_or1 (ha : NT X E a ta) : NW X E (.BoolOp .Or [a] pos) ta := ⟨pw_or1 ha.pt⟩
theorem nw_and {e : Expr} {es : List Expr} (ha : NT X E a ta) (hb : NW X E (.BoolOp .And (e :: es) pos) tb) : NW X E (.BoolOp .And (a :: e :: es) pos) (tAndM ta tb) :=
  ⟨pw_imp (pw_and ha.pt hb.pw) fun s H Q q => by
    obtain ⟨B, F, r, sl, C, hr, hs, o⟩ := q
    refine ⟨B, F, r, sl, C, hr, hs, Out.bind (P := PB) o fun x C1 F1 r1 H1 v e1 e2 hr1 hx o1 => ?_⟩
    subst hx
    cases x with
    | true =>
      rw [if_pos rfl] at o1 ⊢
      exact ⟨B, F1, r1, sl, C1, hr1, hs.mono e1 e2, o1⟩
    | false =>
      rw [if_neg Bool.false_ne_true] at o1 ⊢
      exact o1 F1 r1 H1 false (.refl _) (.refl _) hr1 rfl⟩
theorem nw_or {e : Expr} {es : List Expr} (ha : NT X E a ta) (hb : NW X E (.BoolOp .Or (e :: es) pos) tb) : NW X E (.BoolOp .Or (a :: e :: es) pos) (tOrM ta tb) :=
  ⟨pw_imp (pw_or ha.pt hb.pw) fun s H Q q => by
    obtain ⟨B, F, r, sl, C, hr, hs, o⟩ := q
    refine ⟨B, F, r, sl, C, hr, hs, Out.bind (P := PB) o fun x C1 F1 r1 H1 v e1 e2 hr1 hx o1 => ?_⟩
    subst hx
    cases x with
    | false =>
      rw [if_neg Bool.false_ne_true] at o1 ⊢
      exact ⟨B, F1, r1, sl, C1, hr1, hs.mono e1 e2, o1⟩
    | true =>
      rw [if_pos rfl] at o1 ⊢
      exact o1 F1 r1 H1 true (.refl _) (.refl _) hr1 rfl⟩
theorem nt_w (h : NW X E a ta) : NT X E a ta := ⟨h.pw.pt⟩
theorem nt_not (ha : NT X E a ta) : NT X E (.UnaryOp .Not a pos) (tNotM ta) := ⟨pt_imp (pt_not ha.pt) fun s H Q q => by
    obtain ⟨B, F, r, sl, C, hr, hs, o⟩ := q
    refine ⟨B, F, r, sl, C, hr, hs, Out.bind (P := PB) o fun x C1 F1 r1 H1 v e1 e2 hr1 hx o1 => ?_⟩
    subst hx
    exact o1 F1 r1 H1 (!x) (.refl _) (.refl _) hr1 rfl⟩
/-- .. as values: all but the last truths -/
def mAnd (ma mb : ME) : ME := fun sl C => (ma sl C).bind fun p => match p.1 with
  | .bl true => mb sl p.2
  | .bl false => .ok (.bl false, p.2)
  | _ => .no
def mOr (ma mb : ME) : ME := fun sl C => (ma sl C).bind fun p => match p.1 with
  | .bl false => mb sl p.2
  | .bl true => .ok (.bl true, p.2)
  | _ => .no
theorem ne_one {op : BoolOp} (h : NE X E a ma) : NE X E (.BoolOp op [a] pos) ma := ⟨pe_one h.pe⟩
theorem ne_and {e : Expr} {es : List Expr} (ha : NE X E a ma) (hb : NE X E (.BoolOp .And (e :: es) pos) mb) : NE X E (.BoolOp .And (a :: e :: es) pos) (mAnd ma mb) :=
  ⟨pe_imp (pe_and ha.pe hb.pe) fun s H Q q => by
    obtain ⟨B, F, r, sl, C, hr, hs, o⟩ := q
    refine ⟨B, F, r, sl, C, hr, hs, Out.bind (P := Rep X.K) o fun x C1 F1 r1 H1 v e1 e2 hr1 hx o1 => ?_⟩
    cases x with
    | bl k =>
      cases k with
      | true => exact ⟨true, hx, by rw [if_pos rfl]; exact ⟨B, F1, r1, sl, C1, hr1, hs.mono e1 e2, o1⟩⟩
      | false => exact ⟨false, hx, by rw [if_neg Bool.false_ne_true]; exact o1 F1 r1 H1 _ (.refl _) (.refl _) hr1 rfl⟩
    | _ => exact False.elim o1⟩
theorem ne_or {e : Expr} {es : List Expr} (ha : NE X E a ma) (hb : NE X E (.BoolOp .Or (e :: es) pos) mb) : NE X E (.BoolOp .Or (a :: e :: es) pos) (mOr ma mb) :=
  ⟨pe_imp (pe_or ha.pe hb.pe) fun s H Q q => by
    obtain ⟨B, F, r, sl, C, hr, hs, o⟩ := q
    refine ⟨B, F, r, sl, C, hr, hs, Out.bind (P := Rep X.K) o fun x C1 F1 r1 H1 v e1 e2 hr1 hx o1 => ?_⟩
    cases x with
    | bl k =>
      cases k with
      | false => exact ⟨false, hx, by rw [if_neg Bool.false_ne_true]; exact ⟨B, F1, r1, sl, C1, hr1, hs.mono e1 e2, o1⟩⟩
      | true => exact ⟨true, hx, by rw [if_pos rfl]; exact o1 F1 r1 H1 _ (.refl _) (.refl _) hr1 rfl⟩
    | _ => exact False.elim o1⟩
def mNot (ma : ME) : ME := fun sl C => (ma sl C).bind fun p => match p.1 with
  | .bl k => .ok (.bl (!k), p.2)
  | _ => .no
theorem ne_not (ha : NE X E a ma) : NE X E (.UnaryOp .Not a pos) (mNot ma) := ⟨pe_imp (pe_not ha.pe) fun s H Q q => by
    obtain ⟨B, F, r, sl, C, hr, hs, o⟩ := q
    refine ⟨B, F, r, sl, C, hr, hs, Out.bind (P := Rep X.K) o fun x C1 F1 r1 H1 v e1 e2 hr1 hx o1 => ?_⟩
    cases x with
    | bl k => exact ⟨k, hx, o1 F1 r1 H1 _ (.refl _) (.refl _) hr1 rfl⟩
    | _ => exact False.elim o1⟩
def mIf (t : MG Bool) (ma mb : ME) : ME := fun sl C => (t sl C).bind fun p => if p.1 = true then ma sl p.2 else mb sl p.2
theorem ne_if (hc : NT X E c ta) (ha : NE X E a ma) (hb : NE X E b mb) : NE X E (.IfExp c a b pos) (mIf ta ma mb) := ⟨pe_imp (pe_ifExp hc.pt ha.pe hb.pe) fun s H Q q => by
    obtain ⟨B, F, r, sl, C, hr, hs, o⟩ := q
    refine ⟨B, F, r, sl, C, hr, hs, Out.bind (P := PB) o fun x C1 F1 r1 H1 v e1 e2 hr1 hx o1 => ?_⟩
    subst hx
    cases x with
    | true => rw [if_pos rfl] at o1 ⊢; exact ⟨B, F1, r1, sl, C1, hr1, hs.mono e1 e2, o1⟩
    | false => rw [if_neg Bool.false_ne_true] at o1 ⊢; exact ⟨B, F1, r1, sl, C1, hr1, hs.mono e1 e2, o1⟩⟩

/-! argument lists, displays -/
def aNil : MG (List D) := fun _ C => .ok ([], C)
def aCons (ma : ME) (mr : MG (List D)) : MG (List D) := fun sl C => (ma sl C).bind fun p => (mr sl p.2).bind fun q => .ok (p.1 :: q.1, q.2)
theorem na_nil : NA X E [] aNil := ⟨pa_imp pa_nil fun s H Q q => by
    obtain ⟨B, F, r, sl, C, hr, hs, o⟩ := q
    exact o F r H [] (.refl _) (.refl _) hr .nil⟩
theorem na_cons (ha : NE X E a ma) (hr : NA X E es mas) (hs : starEach (a :: es) X.env = (false, eval a X.env) :: starEach es X.env := by rfl) : NA X E (a :: es) (aCons ma mas) :=
  ⟨pa_imp (pa_cons ha.pe hr.pa hs) fun s H Q q => by
    obtain ⟨B, F, r, sl, C, hr, hs, o⟩ := q
    refine ⟨B, F, r, sl, C, hr, hs, Out.bind (P := Rep X.K) o fun x C1 F1 r1 H1 v e1 e2 hr1 hx o1 => ?_⟩
    refine ⟨B, F1, r1, sl, C1, hr1, hs.mono e1 e2, Out.bind (P := Reps X.K) o1 fun y C2 F2 r2 H2 w e3 e4 hr2 hy o2 => ?_⟩
    exact o2 F2 r2 H2 (v :: w) (.refl _) (.refl _) hr2 (.cons (hx.mono e3 e4) hy)⟩
/-- a new list: a cell, or frozen -/
def newL (c : Bool) (ds : List D) (C : Store) : RE := if c = true then .ok (.cell C.length, C ++ [.lst ds]) else .ok (.lst ds, C)
theorem newL_ok {K : PySem.W.Frag} {mg : Str → Option Value} {B F : Hp} {r : List Addr} {H : Hp} {C : Store} {c : Bool} {ds : List D} {vs : List V} {Q : VK} (hr : Rel K B F r H C) (hd : Reps K F r ds vs)
    (o : Out (Rep K) K mg E B F r (newL c ds C) Q) {p : Addr} (hp : H p = none) : Q (.ref p) (upd H p (.lst vs)) := by
  unfold newL at o
  cases c with
  | true =>
    rw [if_pos rfl] at o
    refine o F (r ++ [p]) _ _ (.refl _) (Ex.app r _) (hr.alloc hp ⟨hr.freeF hp, vs, upd_same, hd.mono (.refl _) (Ex.app r _)⟩) ⟨p, rfl, ?_⟩
    rw [← hr.len, List.getElem?_append_right (Nat.le_refl _)]
    simp
  | false =>
    rw [if_neg Bool.false_ne_true] at o
    exact o (upd F p (.lst vs)) r _ _ (same_new (hr.freeF hp)) (.refl r) (hr.freeze hp) ⟨p, vs, rfl, .inl (.inl upd_same), hd.mono (same_new (hr.freeF hp)) (.refl r)⟩
theorem newT_ok {K : PySem.W.Frag} {mg : Str → Option Value} {B F : Hp} {r : List Addr} {H : Hp} {C : Store} {ds : List D} {vs : List V} {Q : VK} (hr : Rel K B F r H C) (hd : Reps K F r ds vs)
    (o : Out (Rep K) K mg E B F r (.ok (.tup ds, C)) Q) {p : Addr} (hp : H p = none) : Q (.ref p) (upd H p (.tup vs)) :=
  o (upd F p (.tup vs)) r _ _ (same_new (hr.freeF hp)) (.refl r) (hr.freeze hp) ⟨p, vs, rfl, .inl (.inl upd_same), hd.mono (same_new (hr.freeF hp)) (.refl r)⟩
def mLst (c : Bool) (mas : MG (List D)) : ME := fun sl C => (mas sl C).bind fun p => if p.1.length ≤ sizeLine then newL c p.1 p.2 else .no
def mTup (mas : MG (List D)) : ME := fun sl C => (mas sl C).bind fun p => if p.1.length ≤ sizeLine then .ok (.tup p.1, p.2) else .no
theorem ne_lst {k : Bool} (h : NA X E es mas) : NE X E (.List es pos) (mLst k mas) := ⟨pe_imp (pe_lst h.pa) fun s H Q q => by
    obtain ⟨B, F, r, sl, C, hr, hs, o⟩ := q
    refine ⟨B, F, r, sl, C, hr, hs, Out.bind (P := Reps X.K) o fun x C1 F1 r1 H1 v e1 e2 hr1 hx o1 => ?_⟩
    split at o1
    · rename_i hl
      exact ⟨by rw [← hx.length]; exact hl, fun p hp => newL_ok hr1 hx o1 hp⟩
    · exact False.elim o1⟩
theorem ne_tup {x1} (h : NA X E es mas) : NE X E (.Tuple es x1 pos) (mTup mas) := ⟨pe_imp (pe_tup h.pa) fun s H Q q => by
    obtain ⟨B, F, r, sl, C, hr, hs, o⟩ := q
    refine ⟨B, F, r, sl, C, hr, hs, Out.bind (P := Reps X.K) o fun x C1 F1 r1 H1 v e1 e2 hr1 hx o1 => ?_⟩
    split at o1
    · rename_i hl
      exact ⟨by rw [← hx.length]; exact hl, fun p hp => newT_ok hr1 hx o1 hp⟩
    · exact False.elim o1⟩

/-! calls of built-ins -/
def mCB (g : List D → Store → RE) (mas : MG (List D)) : ME := fun sl C => (mas sl C).bind fun p => g p.1 p.2
def CallN (K : PySem.W.Frag) (mg : Str → Option Value) (E : XK) (rc : List V → Hp → VK → Prop) (g : List D → Store → RE) : Prop :=
  ∀ (B F : Hp) (r : List Addr) (H : Hp) (C : Store) (ds : List D) (vs : List V) (Q : VK), Rel K B F r H C → Reps K F r ds vs → Out (Rep K) K mg E B F r (g ds C) Q → rc vs H Q
theorem args {rc : List V → Hp → VK → Prop} {g : List D → Store → RE} (hg : CallN X.K X.mg E rc g) : ∀ s H Q, LG (Rep X.K) X.K X.mg E (mCB g mas) s H Q → LG (Reps X.K) X.K X.mg E mas s H fun vs H1 => rc vs H1 Q := by
  intro s H Q q
  obtain ⟨B, F, r, sl, C, hr, hs, o⟩ := q
  exact ⟨B, F, r, sl, C, hr, hs, Out.bind (P := Reps X.K) o fun x C1 F1 r1 H1 v e1 e2 hr1 hx o1 => hg B F1 r1 H1 C1 x v Q hr1 hx o1⟩
theorem ne_callB {e : Expr} {x : Str} {id : String} {rc : List V → Hp → VK → Prop} {g : List D → Store → RE} (hc : CallR X (.builtin id) rc) (hg : CallN X.K X.mg E rc g) (hm : X.mg x = none) (ha : NA X E (e :: es) mas) (hl : Gl X x := by rfl)
    (hv : bootBuiltins x = some (.builtin id) := by decide +kernel) (hn : x ≠ "__name__" := by decide) (hdb : (x == ("__debug__" : Str)) = false := by decide) (he : starEach (e :: es) X.env = (false, eval e X.env) :: starEach es X.env := by rfl) (hpl : (backTo pos (starEach es X.env)).any (·.1) = false := by rfl) : NE X E (.Call (.Name x p1) (e :: es) [] pos) (mCB g mas) :=
  ⟨pe_imp (pe_callB hc hl hm hv ha.pa hn hdb he hpl) (args hg)⟩
theorem ne_callTy {e : Expr} {x : Str} {T : String} {rc : List V → Hp → VK → Prop} {g : List D → Store → RE} (hc : CallR X (.type T) rc) (hg : CallN X.K X.mg E rc g) (hm : X.mg x = none) (ha : NA X E (e :: es) mas) (hl : Gl X x := by rfl)
    (hv : bootBuiltins x = some (.type T) := by decide +kernel) (hn : x ≠ "__name__" := by decide) (hdb : (x == ("__debug__" : Str)) = false := by decide) (he : starEach (e :: es) X.env = (false, eval e X.env) :: starEach es X.env := by rfl) (hpl : (backTo pos (starEach es X.env)).any (·.1) = false := by rfl) : NE X E (.Call (.Name x p1) (e :: es) [] pos) (mCB g mas) :=
  ⟨pe_imp (pe_callTy hc hl hm hv ha.pa hn hdb he hpl) (args hg)⟩

end
end Nv

namespace Nv
open PySem PySem.Spec PyProof.Rows L2

/-! reading lists and tuples -/
def lstAt (C : Store) (i : Nat) : Option (List D) := match C[i]? with
  | some (.lst ds) => some ds
  | some (.fz ds) => some ds
  | _ => none
def mutAt (C : Store) (i : Nat) : Option (List D) := match C[i]? with
  | some (.lst ds) => some ds
  | _ => none
theorem lstAt_some {C : Store} {i : Nat} {ds : List D} (h : lstAt C i = some ds) : C[i]? = some (.lst ds) ∨ C[i]? = some (.fz ds) := by
  unfold lstAt at h
  split at h
  · rename_i ds' hc
    rw [hc, Option.some.inj h]
    exact .inl rfl
  · rename_i ds' hc
    rw [hc, Option.some.inj h]
    exact .inr rfl
  · cases h
theorem mutAt_some {C : Store} {i : Nat} {ds : List D} (h : mutAt C i = some ds) : C[i]? = some (.lst ds) := by
  unfold mutAt at h
  split at h
  · rename_i ds' hc
    rw [hc, Option.some.inj h]
  · cases h
def lstOf (C : Store) : D → Option (List D)
  | .lst ds => some ds
  | .cell i => lstAt C i
  | _ => none
def tupOf : D → Option (List D)
  | .tup ds => some ds
  | _ => none
def cellOf (C : Store) : D → Option (Nat × List D)
  | .cell i => (mutAt C i).map fun ds => (i, ds)
  | _ => none
section
variable {K : PySem.W.Frag} {mg : Str → Option Value} {E : XK} {B F H : Hp} {r : List Addr} {C : Store} {Q : VK}
theorem Rel.seq {a : Addr} {xs : List V} (hr : Rel K B F r H C) (h : SqL K F a xs) : SqL K H a xs := Same.seq hr.froz h
theorem mutAt_ok {i : Nat} {v : V} {ds : List D} (hr : Rel K B F r H C) (hx : Rep K F r (.cell i) v) (e : mutAt C i = some ds) :
    ∃ a vs, v = .ref a ∧ r[i]? = some a ∧ F a = none ∧ H a = some (.lst vs) ∧ Reps K F r ds vs := by
  obtain ⟨a, h1, h2⟩ := hx
  obtain ⟨h0, vs, h3, h4⟩ := hr.cells i _ a (mutAt_some e) h2
  exact ⟨a, vs, h1, h2, h0, h3, h4⟩
theorem lstAt_ok {i : Nat} {v : V} {ds : List D} (hr : Rel K B F r H C) (hx : Rep K F r (.cell i) v) (e : lstAt C i = some ds) : ∃ a vs, v = .ref a ∧ r[i]? = some a ∧ SqL K H a vs ∧ Reps K F r ds vs := by
  obtain ⟨a, h1, h2⟩ := hx
  rcases lstAt_some e with e | e
  · obtain ⟨h0, vs, h3, h4⟩ := hr.cells i _ a e h2
    exact ⟨a, vs, h1, h2, .inl (.inl h3), h4⟩
  · obtain ⟨vs, h3, h4⟩ := hr.cells i _ a e h2
    exact ⟨a, vs, h1, h2, .inl (.inl (hr.froz _ _ h3)), h4⟩
theorem lstOf_ok {x : D} {v : V} {ds : List D} (hr : Rel K B F r H C) (hx : Rep K F r x v) (e : lstOf C x = some ds) : ∃ a vs, v = .ref a ∧ SqL K H a vs ∧ Reps K F r ds vs := by
  cases x with
  | lst ds' =>
    have e : ds' = ds := Option.some.inj e
    subst e
    obtain ⟨a, vs, h1, h2, h3⟩ := hx
    exact ⟨a, vs, h1, Same.seq hr.froz h2, h3⟩
  | cell i =>
    obtain ⟨a, vs, h1, _, h3, h4⟩ := lstAt_ok hr hx e
    exact ⟨a, vs, h1, h3, h4⟩
  | _ => cases e
theorem tupOf_ok {x : D} {v : V} {ds : List D} (hr : Rel K B F r H C) (hx : Rep K F r x v) (e : tupOf x = some ds) : ∃ a vs, v = .ref a ∧ SqT K H a vs ∧ Reps K F r ds vs := by
  cases x with
  | tup ds' =>
    have e : ds' = ds := Option.some.inj e
    subst e
    obtain ⟨a, vs, h1, h2, h3⟩ := hx
    exact ⟨a, vs, h1, Same.tup hr.froz h2, h3⟩
  | _ => cases e
theorem cellOf_ok {x : D} {v : V} {i : Nat} {ds : List D} (hr : Rel K B F r H C) (hx : Rep K F r x v) (e : cellOf C x = some (i, ds)) :
    ∃ a vs, v = .ref a ∧ r[i]? = some a ∧ F a = none ∧ H a = some (.lst vs) ∧ Reps K F r ds vs := by
  cases x with
  | cell j =>
    have e : (mutAt C j).map (fun ds => (j, ds)) = some (i, ds) := e
    cases q : mutAt C j with
    | none => rw [q] at e; cases e
    | some es =>
      rw [q] at e
      cases e
      exact mutAt_ok hr hx q
  | _ => cases e

/-! arithmetic -/
def bigLine : Int := 2 ^ 10000
def powLine : Int := 2 ^ 1000
def smallI (i : Int) : Bool := decide (-(2 ^ 64) < i) && decide (i < 2 ^ 64)
def bigI (i : Int) : Bool := decide (-bigLine < i) && decide (i < bigLine)
def gAdd (c : Bool) (x y : D) (C : Store) : RE := match x, y with
  | .int i, .int j => .ok (.int (i + j), C)
  | .str a, .str b => if a.length + b.length ≤ sizeLine then .ok (.str (a ++ b), C) else .no
  | x, y => match lstOf C x, lstOf C y with
    | some a, some b => if a.length + b.length ≤ sizeLine then newL c (a ++ b) C else .no
    | _, _ => .no
def gSub (x y : D) (C : Store) : RE := match x, y with
  | .int i, .int j => .ok (.int (i - j), C)
  | _, _ => .no
def gMul (x y : D) (C : Store) : RE := match x, y with
  | .int i, .int j => if (smallI i || smallI j || (bigI i && bigI j)) = true then .ok (.int (i * j), C) else .no
  | _, _ => .no
def gDiv (x y : D) (C : Store) : RE := match x, y with
  | .int i, .int j => if 0 < j ∧ j ≤ 10 ^ 60 then .ok (.int (i / j), C) else .no
  | _, _ => .no
def gMod (x y : D) (C : Store) : RE := match x, y with
  | .int i, .int j => if 0 < j then .ok (.int (i % j), C) else .no
  | _, _ => .no
def gPow (x y : D) (C : Store) : RE := match x, y with
  | .int i, .int j => if 0 ≤ j ∧ j ≤ 1000 ∧ -powLine < i ∧ i < powLine then .ok (.int (i ^ j.toNat), C) else .no
  | _, _ => .no
/-- the rule for two values' answers -/
theorem out_ok {d : D} {v : V} (hr : Rel K B F r H C) (h : Rep K F r d v) (o : Out (Rep K) K mg E B F r (.ok (d, C)) Q) : Q v H := o F r H v (.refl _) (.refl _) hr h
variable {X : Cx}
theorem Inv.isL {pins : List (Addr × Obj)} {σ : L2.St} {s : Shared} {a : Addr} {xs : List V} (I : Inv X pins σ H s) (h : SqL X.K H a xs) : ∃ its : List Value, Vals xs its ∧ s.heap.IsList a its.toArray ∧ xs.length ≤ sizeLine := by
  obtain ⟨its, h1, h2, h3⟩ := I.list h
  exact ⟨its, h1, h2.isList, h3⟩
def rCatS (K : PySem.W.Frag) : R2 := fun x y H Q => ∃ l b xs zs, x = .ref l ∧ y = .ref b ∧ SqL K H l xs ∧ SqL K H b zs ∧ xs.length + zs.length ≤ sizeLine ∧ ∀ p, H p = none → Q (.ref p) (upd H p (.lst (xs ++ zs)))
theorem op_catS : OpR X (binaryOp .Add) (rCatS X.K) := by
  intro pins s σ H x y v u Q I rx ry h
  obtain ⟨l, b, xs, zs, rfl, rfl, hH, hB, hz, q⟩ := h
  cases rx
  cases ry
  obtain ⟨its, r1, hl, z⟩ := Inv.isL I hH
  obtain ⟨its2, r2, hl2, z2⟩ := Inv.isL I hB
  have l1 := r1.length
  have l2 := r2.length
  obtain ⟨⟨cls, dd, data, sl⟩, ho, hc, n, hd⟩ := hl
  obtain ⟨⟨cls2, dd2, data2, sl2⟩, ho2, hc2, n2, hd2⟩ := hl2
  simp only at hc hd hc2 hd2
  subst hc hd hc2 hd2
  have ea : its.toArray ++ its2.toArray = (its ++ its2).toArray := by simp
  refine concat_meets ⟨_, ho, rfl⟩ ⟨_, ho2, rfl⟩ noFill_list_add seq_list_add PySem.F.slot_list_add PySem.F.entry_list_add (PySem.F.args_list_add_2 _ _) (list_addW l b its.toArray its2.toArray n n2 dd dd2 sl sl2 (by simp; omega)) ⟨ho, ho2, ?_⟩
  rw [ea]
  exact ⟨.ref _, _, I.lnew (t' := s.toks) (r1.append r2) (by rw [List.length_append]; omega), rfl, q _ I.fresh⟩

def rAdd3 (K : PySem.W.Frag) : R2 := fun x y H Q => (∃ i j, x = .int i ∧ y = .int j ∧ Q (.int (i + j)) H) ∨ ((∃ i j, x = .str i ∧ y = .str j ∧ i.length + j.length ≤ sizeLine ∧ Q (.str (i ++ j)) H) ∨ rCatS K x y H Q)
theorem op_addA : OpR X (binaryOp .Add) (rAdd3 X.K) := op_add.or (op_add_str.or op_catS)
theorem addN {c : Bool} : OpN K mg E (rAdd3 K) (gAdd c) := by
  intro B F r H C x y v u Q hr hx hy o
  have cat : ∀ (o : Out (Rep K) K mg E B F r (match lstOf C x, lstOf C y with
    | some a, some b => if a.length + b.length ≤ sizeLine then newL c (a ++ b) C else .no
    | _, _ => .no) Q), rAdd3 K v u H Q := fun o => by
    split at o
    · rename_i a b e1 e2
      obtain ⟨p, vs, rfl, h1, h2⟩ := lstOf_ok hr hx e1
      obtain ⟨q, ws, rfl, h3, h4⟩ := lstOf_ok hr hy e2
      split at o
      · rename_i hl
        exact .inr (.inr ⟨p, q, vs, ws, rfl, rfl, h1, h3, by rw [← h2.length, ← h4.length]; exact hl, fun t ht => newL_ok hr (h2.append h4) o ht⟩)
      · exact False.elim o
    · exact False.elim o
  cases x with
  | int i =>
    cases y with
    | int j => exact .inl ⟨i, j, hx, hy, out_ok (d := .int (i + j)) hr rfl o⟩
    | _ => exact cat o
  | str a =>
    cases y with
    | str b =>
      have o : Out (Rep K) K mg E B F r (if a.length + b.length ≤ sizeLine then .ok (.str (a ++ b), C) else .no) Q := o
      split at o
      · rename_i hl
        exact .inr (.inl ⟨a, b, hx, hy, hl, out_ok (d := .str (a ++ b)) hr rfl o⟩)
      · exact False.elim o
    | _ => exact cat o
  | _ => exact cat o
theorem subN : OpN K mg E (rI0 fun i j => .int (i - j)) gSub := by
  intro B F r H C x y v u Q hr hx hy o
  cases x with
  | int i =>
    cases y with
    | int j => exact ⟨i, j, hx, hy, out_ok (d := .int (i - j)) hr rfl o⟩
    | _ => exact False.elim o
  | _ => exact False.elim o
theorem log2_lt {a : Nat} {n : Nat} (h : a < 2 ^ n) (h0 : 0 < n) : a.log2 < n := by
  by_cases h1 : a = 0
  · subst h1
    simpa using h0
  · exact (Nat.log2_lt h1).mpr h
theorem natAbs_lt {i b : Int} (h : -b < i) (h2 : i < b) : i.natAbs < b.natAbs := by omega
def rMul3 : R2 := fun x y H Q => (rI CMul (fun i j => .int (i * j)) x y H Q) ∨ (rI CMulW (fun i j => .int (i * j)) x y H Q)
theorem op_mulA : OpR X (binaryOp .Mult) rMul3 := op_mul.or op_mulW
theorem bigLine_abs : bigLine.natAbs = 2 ^ 10000 := by unfold bigLine; rw [Int.natAbs_pow]; rfl
theorem powLine_abs : powLine.natAbs = 2 ^ 1000 := by unfold powLine; rw [Int.natAbs_pow]; rfl
theorem mulN : OpN K mg E rMul3 gMul := by
  intro B F r H C x y v u Q hr hx hy o
  cases x with
  | int i =>
    cases y with
    | int j =>
      have o : Out (Rep K) K mg E B F r (if (smallI i || smallI j || (bigI i && bigI j)) = true then .ok (.int (i * j), C) else .no) Q := o
      split at o
      · rename_i hc
        have q := out_ok (d := .int (i * j)) hr rfl o
        simp only [Bool.or_eq_true, Bool.and_eq_true, smallI, bigI, decide_eq_true_eq] at hc
        rcases hc with (h | h) | ⟨h, h'⟩
        · exact .inl ⟨i, j, hx, hy, .inl h, q⟩
        · exact .inl ⟨i, j, hx, hy, .inr h, q⟩
        · refine .inr ⟨i, j, hx, hy, ?_, q⟩
          have h1 := natAbs_lt h.1 h.2
          have h2 := natAbs_lt h'.1 h'.2
          rw [bigLine_abs] at h1 h2
          exact wide_mul h1 h2 (by decide) (by decide) (by decide)
      · exact False.elim o
    | _ => exact False.elim o
  | _ => exact False.elim o
theorem divN : OpN K mg E (rI CDivW fun i j => .int (i / j)) gDiv := by
  intro B F r H C x y v u Q hr hx hy o
  cases x with
  | int i =>
    cases y with
    | int j =>
      have o : Out (Rep K) K mg E B F r (if 0 < j ∧ j ≤ 10 ^ 60 then .ok (.int (i / j), C) else .no) Q := o
      split at o
      · rename_i hc
        refine ⟨i, j, hx, hy, wide_div (b := 200) hc.1 ?_ (by decide) (by decide), out_ok (d := .int (i / j)) hr rfl o⟩
        have := hc.1
        have := hc.2
        omega
      · exact False.elim o
    | _ => exact False.elim o
  | _ => exact False.elim o
theorem modN : OpN K mg E (rI (fun _ j => 0 < j) fun i j => .int (i % j)) gMod := by
  intro B F r H C x y v u Q hr hx hy o
  cases x with
  | int i =>
    cases y with
    | int j =>
      have o : Out (Rep K) K mg E B F r (if 0 < j then .ok (.int (i % j), C) else .no) Q := o
      split at o
      · rename_i hc
        exact ⟨i, j, hx, hy, hc, out_ok (d := .int (i % j)) hr rfl o⟩
      · exact False.elim o
    | _ => exact False.elim o
  | _ => exact False.elim o
def CPowW (i j : Int) : Prop := 0 ≤ j ∧ j ≤ 1000 ∧ -powLine < i ∧ i < powLine
theorem op_powW : OpR X (binaryOp .Pow) (rI CPowW fun i j => .int (i ^ j.toNat)) := opI fun i j _ _ _ _ _ hc q => by
  obtain ⟨h0, h1, h2, h3⟩ := hc
  refine pow_int h0 ?_ q
  have h := natAbs_lt h2 h3
  rw [powLine_abs] at h
  have hb := PyProof.Rows.intBits_le h
  have h4 : ((Builtin.Int.intBits i : Nat) : Int) ≤ 1000 := by omega
  have h5 := Int.mul_le_mul h4 h1 h0 (by decide)
  omega
theorem powN : OpN K mg E (rI CPowW fun i j => .int (i ^ j.toNat)) gPow := by
  intro B F r H C x y v u Q hr hx hy o
  cases x with
  | int i =>
    cases y with
    | int j =>
      have o : Out (Rep K) K mg E B F r (if 0 ≤ j ∧ j ≤ 1000 ∧ -powLine < i ∧ i < powLine then .ok (.int (i ^ j.toNat), C) else .no) Q := o
      split at o
      · rename_i hc
        exact ⟨i, j, hx, hy, hc, out_ok (d := .int (i ^ j.toNat)) hr rfl o⟩
      · exact False.elim o
    | _ => exact False.elim o
  | _ => exact False.elim o

/-! comparisons of whole numbers -/
def gLt (x y : D) (C : Store) : RE := match x, y with
  | .int i, .int j => .ok (.bl (decide (i < j)), C)
  | _, _ => .no
def gLe (x y : D) (C : Store) : RE := match x, y with
  | .int i, .int j => .ok (.bl (decide (i ≤ j)), C)
  | _, _ => .no
def gGt (x y : D) (C : Store) : RE := match x, y with
  | .int i, .int j => .ok (.bl (decide (j < i)), C)
  | _, _ => .no
def gGe (x y : D) (C : Store) : RE := match x, y with
  | .int i, .int j => .ok (.bl (decide (j ≤ i)), C)
  | _, _ => .no
theorem ltN : OpN K mg E (rI0 fun i j => .bl (decide (i < j))) gLt := by
  intro B F r H C x y v u Q hr hx hy o
  cases x with
  | int i =>
    cases y with
    | int j => exact ⟨i, j, hx, hy, out_ok (d := .bl (decide (i < j))) hr rfl o⟩
    | _ => exact False.elim o
  | _ => exact False.elim o
theorem leN : OpN K mg E (rI0 fun i j => .bl (decide (i ≤ j))) gLe := by
  intro B F r H C x y v u Q hr hx hy o
  cases x with
  | int i =>
    cases y with
    | int j => exact ⟨i, j, hx, hy, out_ok (d := .bl (decide (i ≤ j))) hr rfl o⟩
    | _ => exact False.elim o
  | _ => exact False.elim o
theorem gtN : OpN K mg E (rI0 fun i j => .bl (decide (j < i))) gGt := by
  intro B F r H C x y v u Q hr hx hy o
  cases x with
  | int i =>
    cases y with
    | int j => exact ⟨i, j, hx, hy, out_ok (d := .bl (decide (j < i))) hr rfl o⟩
    | _ => exact False.elim o
  | _ => exact False.elim o
theorem geN : OpN K mg E (rI0 fun i j => .bl (decide (j ≤ i))) gGe := by
  intro B F r H C x y v u Q hr hx hy o
  cases x with
  | int i =>
    cases y with
    | int j => exact ⟨i, j, hx, hy, out_ok (d := .bl (decide (j ≤ i))) hr rfl o⟩
    | _ => exact False.elim o
  | _ => exact False.elim o

/-! as data: == and != -/
mutual
def toP0 : D → Option PyData
  | .non => some .none
  | .bl b => some (.bool b)
  | .int i => some (.int i)
  | .str x => some (.str x)
  | .lst ds => (toPs0 ds).map .list
  | .tup ds => (toPs0 ds).map .tuple
  | .cell _ => none
  | .edct => none
  | .exc _ _ _ => none
  | .fn _ => none
def toPs0 : List D → Option (List PyData)
  | [] => some []
  | d :: ds => match toP0 d, toPs0 ds with
    | some p, some ps => some (p :: ps)
    | _, _ => none
end
mutual
def toP (C : Store) : D → Option PyData
  | .non => some .none
  | .bl b => some (.bool b)
  | .int i => some (.int i)
  | .str x => some (.str x)
  | .lst ds => (toPs C ds).map .list
  | .tup ds => (toPs C ds).map .tuple
  | .cell i => (lstAt C i).bind fun ds => (toPs0 ds).map .list
  | .edct => none
  | .exc _ _ _ => none
  | .fn _ => none
def toPs (C : Store) : List D → Option (List PyData)
  | [] => some []
  | d :: ds => match toP C d, toPs C ds with
    | some p, some ps => some (p :: ps)
    | _, _ => none
end
theorem map_some {A B : Type} {f : A → B} {o : Option A} {b : B} (h : o.map f = some b) : ∃ a, o = some a ∧ f a = b := by
  cases o with
  | none => cases h
  | some a => exact ⟨a, rfl, Option.some.inj h⟩
mutual
theorem toP0_ok (hr : Rel K B F r H C) : ∀ {d : D} {v : V} {p : PyData}, Rep K F r d v → toP0 d = some p → Dp K H v p
  | .non, _, _, h, e => by rw [show _ = V.non from h, ← Option.some.inj e]; exact .non
  | .bl b, _, _, h, e => by rw [show _ = V.bl b from h, ← Option.some.inj e]; exact .bl b
  | .int b, _, _, h, e => by rw [show _ = V.int b from h, ← Option.some.inj e]; exact .int b
  | .str b, _, _, h, e => by rw [show _ = V.str b from h, ← Option.some.inj e]; exact .str b
  | .lst ds, _, _, h, e => by
    obtain ⟨a, vs, rfl, h1, h2⟩ := h
    obtain ⟨ps, e1, e2⟩ := map_some (show (toPs0 ds).map PyData.list = some _ from e)
    subst e2
    exact .lst (Same.seq hr.froz h1) (toPs0_ok hr h2 e1)
  | .tup ds, _, _, h, e => by
    obtain ⟨a, vs, rfl, h1, h2⟩ := h
    obtain ⟨ps, e1, e2⟩ := map_some (show (toPs0 ds).map PyData.tuple = some _ from e)
    subst e2
    exact .tup (Same.tup hr.froz h1) (toPs0_ok hr h2 e1)
  | .cell i, _, _, h, e => nomatch (show (none : Option PyData) = some _ from e)
  | .edct, _, _, h, e => nomatch (show (none : Option PyData) = some _ from e)
  | .exc _ _ _, _, _, h, e => nomatch (show (none : Option PyData) = some _ from e)
  | .fn _, _, _, h, e => nomatch (show (none : Option PyData) = some _ from e)
theorem toPs0_ok (hr : Rel K B F r H C) : ∀ {ds : List D} {vs : List V} {ps : List PyData}, Reps K F r ds vs → toPs0 ds = some ps → DpAll K H vs ps
  | [], _, _, h, e => by rw [show _ = [] from h, ← Option.some.inj e]; exact .nil
  | d :: ds, _, _, h, e => by
    obtain ⟨v, w, rfl, h1, h2⟩ := h
    unfold toPs0 at e
    split at e
    · rename_i p ps e1 e2
      cases e
      exact .cons (toP0_ok hr h1 e1) (toPs0_ok hr h2 e2)
    · cases e
end
mutual
theorem toP_ok (hr : Rel K B F r H C) : ∀ {d : D} {v : V} {p : PyData}, Rep K F r d v → toP C d = some p → Dp K H v p
  | .non, _, _, h, e => by rw [show _ = V.non from h, ← Option.some.inj e]; exact .non
  | .bl b, _, _, h, e => by rw [show _ = V.bl b from h, ← Option.some.inj e]; exact .bl b
  | .int b, _, _, h, e => by rw [show _ = V.int b from h, ← Option.some.inj e]; exact .int b
  | .str b, _, _, h, e => by rw [show _ = V.str b from h, ← Option.some.inj e]; exact .str b
  | .lst ds, _, _, h, e => by
    obtain ⟨a, vs, rfl, h1, h2⟩ := h
    obtain ⟨ps, e1, e2⟩ := map_some (show (toPs C ds).map PyData.list = some _ from e)
    subst e2
    exact .lst (Same.seq hr.froz h1) (toPs_ok hr h2 e1)
  | .tup ds, _, _, h, e => by
    obtain ⟨a, vs, rfl, h1, h2⟩ := h
    obtain ⟨ps, e1, e2⟩ := map_some (show (toPs C ds).map PyData.tuple = some _ from e)
    subst e2
    exact .tup (Same.tup hr.froz h1) (toPs_ok hr h2 e1)
  | .cell i, _, _, h, e => by
    have e : (lstAt C i).bind (fun ds => (toPs0 ds).map PyData.list) = some _ := e
    cases q : lstAt C i with
    | none => rw [q] at e; cases e
    | some ds =>
      rw [q] at e
      obtain ⟨ps, e1, e2⟩ := map_some (show (toPs0 ds).map PyData.list = some _ from e)
      subst e2
      obtain ⟨a, vs, rfl, _, h3, h4⟩ := lstAt_ok hr h q
      exact .lst h3 (toPs0_ok hr h4 e1)
  | .edct, _, _, h, e => nomatch (show (none : Option PyData) = some _ from e)
  | .exc _ _ _, _, _, h, e => nomatch (show (none : Option PyData) = some _ from e)
  | .fn _, _, _, h, e => nomatch (show (none : Option PyData) = some _ from e)
theorem toPs_ok (hr : Rel K B F r H C) : ∀ {ds : List D} {vs : List V} {ps : List PyData}, Reps K F r ds vs → toPs C ds = some ps → DpAll K H vs ps
  | [], _, _, h, e => by rw [show _ = [] from h, ← Option.some.inj e]; exact .nil
  | d :: ds, _, _, h, e => by
    obtain ⟨v, w, rfl, h1, h2⟩ := h
    unfold toPs at e
    split at e
    · rename_i p ps e1 e2
      cases e
      exact .cons (toP_ok hr h1 e1) (toPs_ok hr h2 e2)
    · cases e
end
def gEq0 (x y : D) (C : Store) : RE := match toP C x, toP C y with
  | some p, some q => if (SeqAt.shaped p && SeqAt.shaped q) = true then .ok (.bl (PyData.eqv p q), C) else .no
  | _, _ => .no
def gNe0 (x y : D) (C : Store) : RE := match toP C x, toP C y with
  | some p, some q => if (SeqAt.shaped p && SeqAt.shaped q) = true then .ok (.bl (!PyData.eqv p q), C) else .no
  | _, _ => .no
theorem eqN0 : OpN K mg E (rEqD K) gEq0 := by
  intro B F r H C x y v u Q hr hx hy o
  unfold gEq0 at o
  split at o
  · rename_i p q e1 e2
    split at o
    · rename_i hs
      rw [Bool.and_eq_true] at hs
      exact ⟨p, q, toP_ok hr hx e1, toP_ok hr hy e2, hs.1, hs.2, out_ok (d := .bl (PyData.eqv p q)) hr rfl o⟩
    · exact False.elim o
  · exact False.elim o
theorem neN0 : OpN K mg E (rNeD K) gNe0 := by
  intro B F r H C x y v u Q hr hx hy o
  unfold gNe0 at o
  split at o
  · rename_i p q e1 e2
    split at o
    · rename_i hs
      rw [Bool.and_eq_true] at hs
      exact ⟨p, q, toP_ok hr hx e1, toP_ok hr hy e2, hs.1, hs.2, out_ok (d := .bl (!PyData.eqv p q)) hr rfl o⟩
    · exact False.elim o
  · exact False.elim o
def gEq (x y : D) (C : Store) : RE := match x, y with
  | .str a, .str b => .ok (.bl (decide (a = b)), C)
  | x, y => gEq0 x y C
def gNe (x y : D) (C : Store) : RE := match x, y with
  | .str a, .str b => .ok (.bl (!decide (a = b)), C)
  | x, y => gNe0 x y C
theorem dec_strV {a b : Str} : decide (V.str a = V.str b) = decide (a = b) := by
  rw [Bool.eq_iff_iff]
  simp
theorem eqN : OpN K mg E (fun x y H Q => rEq x y H Q ∨ rEqD K x y H Q) gEq := by
  intro B F r H C x y v u Q hr hx hy o
  unfold gEq at o
  split at o
  · rename_i a b
    rw [show v = V.str a from hx, show u = V.str b from hy]
    refine .inl ⟨rfl, ?_⟩
    rw [dec_strV]
    exact out_ok (d := .bl (decide (a = b))) hr rfl o
  · exact .inr (eqN0 B F r H C _ _ v u Q hr hx hy o)
theorem neN : OpN K mg E (fun x y H Q => rNe x y H Q ∨ rNeD K x y H Q) gNe := by
  intro B F r H C x y v u Q hr hx hy o
  unfold gNe at o
  split at o
  · rename_i a b
    rw [show v = V.str a from hx, show u = V.str b from hy]
    refine .inl ⟨rfl, ?_⟩
    rw [dec_strV]
    exact out_ok (d := .bl (!decide (a = b))) hr rfl o
  · exact .inr (neN0 B F r H C _ _ v u Q hr hx hy o)
theorem op_eqE {X : Cx} (hu : X.A.units + 64 < cLine) : OpR X (compareOp .Eq) (fun x y H Q => rEq x y H Q ∨ rEqD X.K x y H Q) := op_eq.or (op_eqD hu)
theorem op_neE {X : Cx} (hu : X.A.units + 64 < cLine) : OpR X (compareOp .NotEq) (fun x y H Q => rNe x y H Q ∨ rNeD X.K x y H Q) := op_ne.or (op_neD hu)
end
end Nv

namespace Nv
open PySem PySem.Spec PyProof.Rows L2

/-! a def's promise, where no text of an object is being made (guards) -/
structure FnG (P : Program) (w : World) (K : PySem.W.Frag) (mg : Str → Option Value) (base : Heap) (k : Nat) (f : Addr) (fd : FuncData) (ps : List Str) (sp : Sp) : Prop where
  len : ∀ vs H Q E, sp vs H Q E → vs.length = ps.length
  run : ∀ (A : Around) (outer : List Env) (s : Shared) (H : Hp) (args : Args) (us : List Value) (vs : List V) (Q : VK) (E : XK), Room k A → A.guards = some [] →
    Env0 P w K mg base A outer s H → BindsTo s fd args (ps.zip us) → Vals vs us → sp vs H Q E → codeAny (model P w) A (.call (.ref f) args) (CR (L2.CX P w) outer P w H s Q E) s
theorem FnG.mono {P : Program} {w : World} {K : PySem.W.Frag} {mg : Str → Option Value} {base : Heap} {j k : Nat} {f : Addr} {fd : FuncData} {ps : List Str} {sp : Sp} (F : FnG P w K mg base j f fd ps sp) (h : j ≤ k) : FnG P w K mg base k f fd ps sp :=
  ⟨F.len, fun A outer s H args us vs Q E hr => F.run A outer s H args us vs Q E (hr.mono h)⟩
theorem FnG.imp {P : Program} {w : World} {K : PySem.W.Frag} {mg : Str → Option Value} {base : Heap} {k : Nat} {f : Addr} {fd : FuncData} {ps : List Str} {sp sp' : Sp} (F : FnG P w K mg base k f fd ps sp)
    (h : ∀ vs H Q E, sp' vs H Q E → sp vs H Q E) : FnG P w K mg base k f fd ps sp' :=
  ⟨fun vs H Q E q => F.len vs H Q E (h _ _ _ _ q), fun A outer s H args us vs Q E hr hg he hb hv hs => F.run A outer s H args us vs Q E hr hg he hb hv (h _ _ _ _ hs)⟩

section
variable {P : Program} {w : World} {K : PySem.W.Frag} {mg : Str → Option Value} {base : Heap}
/-- the rule for a def -/
theorem fnG_of {x qual : Str} {st : Stmt} {f : Addr} {fd : FuncData} {N ps : List Str} {k : Nat} {sp : Sp} (F : Fun K x qual st f fd) (S : FnScope N ps (defScope st)) (len : ∀ vs H Q E, sp vs H Q E → vs.length = ps.length)
    (hbody : ∀ (cdv : Value) (A : Around) (outer : List Env) (s : Shared) (H : Hp) (vs : List V) (Q : VK) (E : XK), Room k (A.deeper (envOfC qual (defScope st) s.heap.objs.size f cdv)) → A.guards = some [] → sp vs H Q E →
      ∃ t, PSs (cxOf (L2.CX P w) P w K mg base N qual (defScope st) f cdv A outer s H E) (defBody st) t ∧ t { nx := fun _ H' => Q .non H', rt := Q } (start N vs) H) : FnG P w K mg base (k + 1) f fd ps sp := by
  obtain ⟨oc, od, kV, doc, pm, an, cdv, ct, osl, rfl, lk, hcd⟩ := F.ex
  refine ⟨len, fun A outer s H args us vs Q E hr hg e0 hb r hsp => ?_⟩
  have hl := len _ _ _ _ hsp
  have there : K.In s.heap := e0.mod.kin.keeps fun b o e => (e0.bs b o e).1
  have lim : s.heap.NoLimit := e0.mod.nolimit.keeps fun b o e => (e0.bs b o e).1
  refine codeAny_call_function hr.depth (there _ _ lk) rfl S.co S.gen rfl (PySem.W.codeRec_of there hcd) (hb _ _ _ _ ?_)
  refine wpAny_newFunctionEnv_cells S.kind (fun ⟨n, v⟩ hy => ?_) fun env he s1 x => ?_
  · rcases S.par n (List.of_mem_zip hy).1 with q | q
    · exact .inl q
    · exact .inr ⟨q, PySem.W.cellsFrom_some _ _ _ (.inl q)⟩
  subst he
  refine ⟨lim.keeps x.toInCall.keep, codeAny_func ?_⟩
  obtain ⟨t, ht, hq⟩ := hbody cdv A outer s H vs Q E (hr.deeper _) hg hsp
  have I : Inv (cxOf (L2.CX P w) P w K mg base N qual (defScope st) f cdv A outer s H E) [] (start N vs) H s1 := inv_start S hr.hd e0 hl r x
  refine wpAny_mono (ht.run [] s1 (start N vs) H _ I hq) (fun fl s' hs => ?_) fun e s' hs => hs
  cases fl with
  | ret u =>
    obtain ⟨v, σ', H', J, rv, q⟩ := hs
    exact ⟨v, H', J.os, J.bare, J.base, J.hok, rv, q⟩
  | next =>
    obtain ⟨σ', H', J, q⟩ := hs
    exact ⟨.non, H', J.os, J.bare, J.base, J.hok, rfl, q⟩
  | brk => obtain ⟨_, _, _, q⟩ := hs; exact False.elim q
  | cont => obtain ⟨_, _, _, q⟩ := hs; exact False.elim q
end

section
variable {X : Cx} {k : Nat} {f : Addr} {fd : FuncData} {ps : List Str} {sp : Sp} {E : XK} {x : Str} {p pos : Pos} {e : Expr} {es : List Expr} {t : TA}
theorem run_fnG {pins : List (Addr × Obj)} {σ : L2.St} {H : Hp} {s : Shared} {Q : VK} {us : List Value} {vs : List V} (F : FnG X.prog X.w X.K X.mg X.base k f fd ps sp) (hr : Room k X.A) (hgd : X.A.guards = some []) (hb : L2.Binds X.K fd ps [])
    (hx : Passes (L2.CX X.prog X.w) X E) (I : L2.Inv X pins σ H s) (r : Vals vs us) (h : sp vs H Q E) : wpAny (model X.prog X.w) X.A (call (.ref f) us) (EP X pins σ Q) X.xe s := by
  have hl : (us ++ []).length = ps.length := by
    rw [List.append_nil, ← r.length]
    exact F.len _ _ _ _ h
  have hb1 := hb s us I.kIn hl
  rw [List.append_nil] at hb1
  refine wpAny_call (codeAny_mono (F.run X.A X.stack s H ⟨us, []⟩ us vs Q E hr hgd I.env0 hb1 r h) fun r s' hq => ?_)
  cases r with
  | error z => exact hx pins σ H s z s' I hq
  | ok fl =>
    cases fl with
    | ret u => exact I.after hq
    | next => exact False.elim hq
    | brk => exact False.elim hq
    | cont => exact False.elim hq
theorem pe_callG (F : FnG X.prog X.w X.K X.mg X.base k f fd ps sp) (hr : Room k X.A) (hgd : X.A.guards = some []) (hg : Gl X x) (hm : X.mg x = some (.ref f)) (hk : PySem.W.keepIn X.K (.ref f) = true) (hb : L2.Binds X.K fd ps [])
    (hx : Passes (L2.CX X.prog X.w) X E) (ha : PA X (e :: es) t) (hdb : (x == ("__debug__" : Str)) = false) (he : starEach (e :: es) X.env = (false, eval e X.env) :: starEach es X.env) (hpl : (backTo pos (starEach es X.env)).any (·.1) = false) :
    PE X (.Call (.Name x p) (e :: es) [] pos) (fun σ H Q => t σ H fun vs H1 => sp vs H1 Q E) := ⟨fun pins s σ H Q I h => by
  refine wpAny_Call_Name_kw (ld_glob I hg hm ?_ hdb)
  exact PySem.W.callWith_K (h₀ := X.base) I.ok.mod.kin hk (thn (ha.run pos pins s σ H _ I h) fun us s1 ⟨vs, H1, I1, r, q⟩ => ⟨I1.kIn, run_fnG F hr hgd hb hx I1 r q⟩) he hpl⟩
theorem pe_callG0 (F : FnG X.prog X.w X.K X.mg X.base k f fd ps sp) (hr : Room k X.A) (hgd : X.A.guards = some []) (hg : Gl X x) (hm : X.mg x = some (.ref f)) (hk : PySem.W.keepIn X.K (.ref f) = true) (hb : L2.Binds X.K fd ps [])
    (hx : Passes (L2.CX X.prog X.w) X E) (hdb : (x == ("__debug__" : Str)) = false) : PE X (.Call (.Name x p) [] [] pos) (fun σ H Q => sp [] H Q E) := ⟨fun pins s σ H Q I h => by
  refine wpAny_Call_Name_kw (ld_glob I hg hm ?_ hdb)
  exact PySem.W.callWith_K0 I.kIn hk (run_fnG (us := []) F hr hgd hb hx I .nil h)⟩
/-- with keywords -/
theorem pe_callGK {ks : List Str} {g : List Value → List Value → List Value} {gV : List V → List V → List V} {kws : List Keyword} {tk : TA} (F : FnG X.prog X.w X.K X.mg X.base k f fd ps sp) (hr : Room k X.A) (hgd : X.A.guards = some []) (hg : Gl X x)
    (hm : X.mg x = some (.ref f)) (hk : PySem.W.keepIn X.K (.ref f) = true) (hb : KBinds X.K fd ps ks g gV) (hx : Passes (L2.CX X.prog X.w) X E) (ha : PA X (e :: es) t) (hkw : PK X kws tk) (hall : (backToKw pos (keywordEach kws X.env)).all (·.1.isSome) = true)
    (hks : (backToKw pos (keywordEach kws X.env)).filterMap (·.1) = ks) (hdb : (x == ("__debug__" : Str)) = false) (he : starEach (e :: es) X.env = (false, eval e X.env) :: starEach es X.env)
    (hpl : ((backTo pos (starEach (e :: es) X.env)).any (·.1) || (backToKw pos (keywordEach kws X.env)).any (·.1.isNone)) = false) :
    PE X (.Call (.Name x p) (e :: es) kws pos) (fun σ H Q => t σ H fun vs H1 => tk σ H1 fun zs H2 => sp (gV vs zs) H2 Q E) := ⟨fun pins s σ H Q I h => by
  refine wpAny_Call_Name_kw (ld_glob I hg hm ?_ hdb)
  refine PySem.W.callWith_KW (h₀ := X.base) I.ok.mod.kin hk hall (thn (ha.run pos pins s σ H _ I h) fun us s1 ⟨vs, H1, I1, r, q⟩ => ?_) hpl he
  refine thn (hkw.run pos pins s1 σ H1 _ I1 q) fun ws s2 ⟨zs, H2, I2, rz, q2⟩ => ⟨I2.kIn, ?_⟩
  rw [hks]
  have r2 := hb.rel r rz
  have hl : (g us ws).length = ps.length := by
    rw [← r2.length]
    exact F.len _ _ _ _ q2
  refine wpAny_call (codeAny_mono (F.run X.A X.stack s2 H2 ⟨us, ks.zip ws⟩ (g us ws) (gV vs zs) Q E hr hgd I2.env0 (hb.to s2 us ws I2.kIn hl) r2 q2) fun r s' hq => ?_)
  cases r with
  | error z => exact hx pins σ H2 s2 z s' I2 hq
  | ok fl =>
    cases fl with
    | ret u => exact I2.after hq
    | next => exact False.elim hq
    | brk => exact False.elim hq
    | cont => exact False.elim hq⟩
end

/-! calls of defs, by data -/
abbrev MF := List D → Store → RE
def spN (K : PySem.W.Frag) (mg : Str → Option Value) (n : Nat) (mf : MF) : Sp := fun vs H Q E =>
  ∃ B F r C ds, Rel K B F r H C ∧ Reps K F r ds vs ∧ ds.length = n ∧ Out (Rep K) K mg E B F r (mf ds C) Q
theorem spN_len {K : PySem.W.Frag} {mg : Str → Option Value} {n : Nat} {mf : MF} : ∀ vs H Q E, spN K mg n mf vs H Q E → vs.length = n := by
  intro vs H Q E h
  obtain ⟨B, F, r, C, ds, _, h2, h3, _⟩ := h
  rw [← h2.length]
  exact h3
section
variable {X : Cx} {E : XK} {a b c : Expr} {es : List Expr} {ma mb mc : ME} {ta tb : MG Bool} {mas : MG (List D)} {pos p1 : Pos}
def mF (n : Nat) (mf : MF) (mas : MG (List D)) : ME := fun sl C => (mas sl C).bind fun p => if p.1.length = n then mf p.1 p.2 else .no
theorem ne_call {x : Str} {e : Expr} {k n : Nat} {f : Addr} {fd : FuncData} {ps : List Str} {mf : MF} (F : FnG X.prog X.w X.K X.mg X.base k f fd ps (spN X.K X.mg n mf)) (hr : Room k X.A) (hgd : X.A.guards = some []) (hm : X.mg x = some (.ref f))
    (hk : PySem.W.keepIn X.K (.ref f) = true) (hb : L2.Binds X.K fd ps []) (hx : Passes (L2.CX X.prog X.w) X E) (ha : NA X E (e :: es) mas) (hg : Gl X x := by rfl) (hdb : (x == ("__debug__" : Str)) = false := by decide)
    (he : starEach (e :: es) X.env = (false, eval e X.env) :: starEach es X.env := by rfl) (hpl : (backTo pos (starEach es X.env)).any (·.1) = false := by rfl) : NE X E (.Call (.Name x p1) (e :: es) [] pos) (mF n mf mas) :=
  ⟨pe_imp (pe_callG F hr hgd hg hm hk hb hx ha.pa hdb he hpl) fun s H Q q => by
    obtain ⟨B, F, r, sl, C, hr, hs, o⟩ := q
    refine ⟨B, F, r, sl, C, hr, hs, Out.bind (P := Reps X.K) o fun x C1 F1 r1 H1 v e1 e2 hr1 hx o1 => ?_⟩
    simp only at o1
    split at o1
    · rename_i hl
      exact ⟨B, F1, r1, C1, x, hr1, hx, hl, o1⟩
    · exact False.elim o1⟩
theorem ne_call0 {x : Str} {k n : Nat} {f : Addr} {fd : FuncData} {ps : List Str} {mf : MF} (F : FnG X.prog X.w X.K X.mg X.base k f fd ps (spN X.K X.mg n mf)) (hr : Room k X.A) (hgd : X.A.guards = some []) (hm : X.mg x = some (.ref f))
    (hk : PySem.W.keepIn X.K (.ref f) = true) (hb : L2.Binds X.K fd ps []) (hx : Passes (L2.CX X.prog X.w) X E) (hg : Gl X x := by rfl) (hdb : (x == ("__debug__" : Str)) = false := by decide) : NE X E (.Call (.Name x p1) [] [] pos) (mF n mf aNil) :=
  ⟨pe_imp (pe_callG0 F hr hgd hg hm hk hb hx hdb) fun s H Q q => by
    obtain ⟨B, F, r, sl, C, hr, hs, o⟩ := q
    have o : Out (Rep X.K) X.K X.mg E B F r (if ([] : List D).length = n then mf [] C else .no) Q := o
    split at o
    · rename_i hl
      exact ⟨B, F, r, C, [], hr, rfl, hl, o⟩
    · exact False.elim o⟩
end
end Nv

namespace Nv
open PySem PySem.Spec PyProof.Rows L2
section
variable {K : PySem.W.Frag} {mg : Str → Option Value} {E : XK} {B F H : Hp} {r : List Addr} {C : Store} {Q : VK} {X : Cx}

/-! is -/
def isD : D → D → Option Bool
  | .non, .non => some true
  | .bl a, .bl b => some (decide (a = b))
  | .non, _ => some false
  | .cell _, .non => some false
  | .int _, .non => some false
  | .str _, .non => some false
  | .bl _, .non => some false
  | .lst _, .non => some false
  | .tup _, .non => some false
  | .exc _ _ _, .non => some false
  | _, _ => none
def gIs (x y : D) (C : Store) : RE := match isD x y with
  | some b => match y with
    | .non => .ok (.bl b, C)
    | .bl _ => match x with
      | .bl _ => .ok (.bl b, C)
      | _ => .no
    | _ => .no
  | none => .no
def gIsNot (x y : D) (C : Store) : RE := match isD x y with
  | some b => match y with
    | .non => .ok (.bl (!b), C)
    | .bl _ => match x with
      | .bl _ => .ok (.bl (!b), C)
      | _ => .no
    | _ => .no
  | none => .no
def rIs2 : R2 := fun x y H Q => (y = .non ∧ Q (.bl (decide (x = .non))) H) ∨ rIsB x y H Q
def rIsNot2 : R2 := fun x y H Q => (y = .non ∧ Q (.bl (!decide (x = .non))) H) ∨ rNotB x y H Q
theorem op_is2 : OpR X (compareOp .Is) rIs2 := op_isN.or op_isBl
theorem op_isNot2 : OpR X (compareOp .IsNot) rIsNot2 := op_notN.or op_notBl
theorem Rep.isNon {x : D} {v : V} (h : Rep K F r x v) {b : Bool} (e : isD x .non = some b) : decide (v = V.non) = b := by
  cases x with
  | non => cases e; exact decide_eq_true h
  | bl i => cases e; rw [show v = V.bl i from h]; rfl
  | int i => cases e; rw [show v = V.int i from h]; rfl
  | str i => cases e; rw [show v = V.str i from h]; rfl
  | lst i => cases e; obtain ⟨a, vs, h, _⟩ := h; rw [h]; rfl
  | tup i => cases e; obtain ⟨a, vs, h, _⟩ := h; rw [h]; rfl
  | cell i => cases e; obtain ⟨a, h, _⟩ := h; rw [h]; rfl
  | edct => cases e
  | exc _ _ _ => cases e; obtain ⟨a, C, us, h, _⟩ := h; rw [h]; rfl
  | fn a => cases e
theorem isN2 : OpN K mg E rIs2 gIs := by
  intro B F r H C x y v u Q hr hx hy o
  cases e : isD x y with
  | none => unfold gIs at o; rw [e] at o; exact False.elim o
  | some b =>
    unfold gIs at o
    rw [e] at o
    cases y with
    | non =>
      refine .inl ⟨hy, ?_⟩
      rw [hx.isNon e]
      exact out_ok (d := .bl b) hr rfl o
    | bl k =>
      cases x with
      | bl j =>
        cases e
        exact .inr ⟨j, k, hx, hy, out_ok (d := .bl (decide (j = k))) hr rfl o⟩
      | _ => exact False.elim o
    | _ => exact False.elim o
theorem isNotN2 : OpN K mg E rIsNot2 gIsNot := by
  intro B F r H C x y v u Q hr hx hy o
  cases e : isD x y with
  | none => unfold gIsNot at o; rw [e] at o; exact False.elim o
  | some b =>
    unfold gIsNot at o
    rw [e] at o
    cases y with
    | non =>
      refine .inl ⟨hy, ?_⟩
      rw [hx.isNon e]
      exact out_ok (d := .bl (!b)) hr rfl o
    | bl k =>
      cases x with
      | bl j =>
        cases e
        exact .inr ⟨j, k, hx, hy, out_ok (d := .bl (!decide (j = k))) hr rfl o⟩
      | _ => exact False.elim o
    | _ => exact False.elim o

/-! in, of flat things -/
def flatD : D → Bool
  | .non => true
  | .bl _ => true
  | .int _ => true
  | .str _ => true
  | _ => false
def eqF : D → D → Bool
  | .non, .non => true
  | .bl a, .bl b => a == b
  | .bl a, .int b => (if a then 1 else 0) == b
  | .int a, .bl b => a == (if b then 1 else 0)
  | .int a, .int b => a == b
  | .str a, .str b => a == b
  | _, _ => false
def inF (x : D) (ds : List D) : Bool := ds.any fun y => eqF y x
def seqOf (C : Store) : D → Option (List D)
  | .lst ds => some ds
  | .tup ds => some ds
  | .cell i => lstAt C i
  | _ => none
theorem seqOf_ok {x : D} {v : V} {ds : List D} (hr : Rel K B F r H C) (hx : Rep K F r x v) (e : seqOf C x = some ds) : ∃ a vs, v = .ref a ∧ (SqL K H a vs ∨ SqT K H a vs) ∧ Reps K F r ds vs := by
  cases x with
  | lst ds' =>
    obtain ⟨a, vs, h1, h2, h3⟩ := lstOf_ok hr hx (show lstOf C (.lst ds') = some ds from e)
    exact ⟨a, vs, h1, .inl h2, h3⟩
  | tup ds' =>
    obtain ⟨a, vs, h1, h2, h3⟩ := tupOf_ok hr hx (show tupOf (.tup ds') = some ds from e)
    exact ⟨a, vs, h1, .inr h2, h3⟩
  | cell i =>
    obtain ⟨a, vs, h1, h2, h3⟩ := lstOf_ok hr hx (show lstOf C (.cell i) = some ds from e)
    exact ⟨a, vs, h1, .inl h2, h3⟩
  | _ => cases e
theorem flat_ok {x : D} {v : V} (h : Rep K F r x v) (f : flatD x = true) : flatV v = true := by
  cases x with
  | non => rw [show v = V.non from h]; rfl
  | bl b => rw [show v = V.bl b from h]; rfl
  | int b => rw [show v = V.int b from h]; rfl
  | str b => rw [show v = V.str b from h]; rfl
  | _ => cases f
theorem eqF_ok {x y : D} {v u : V} (h : Rep K F r x v) (k : Rep K F r y u) (f : flatD x = true) (g : flatD y = true) : eqV v u = eqF x y := by
  cases x with
  | non => rw [show v = V.non from h]; cases y with
    | non => rw [show u = V.non from k]; rfl
    | bl b => rw [show u = V.bl b from k]; rfl
    | int b => rw [show u = V.int b from k]; rfl
    | str b => rw [show u = V.str b from k]; rfl
    | _ => cases g
  | bl a => rw [show v = V.bl a from h]; cases y with
    | non => rw [show u = V.non from k]; rfl
    | bl b => rw [show u = V.bl b from k]; rfl
    | int b => rw [show u = V.int b from k]; rfl
    | str b => rw [show u = V.str b from k]; rfl
    | _ => cases g
  | int a => rw [show v = V.int a from h]; cases y with
    | non => rw [show u = V.non from k]; rfl
    | bl b => rw [show u = V.bl b from k]; rfl
    | int b => rw [show u = V.int b from k]; rfl
    | str b => rw [show u = V.str b from k]; rfl
    | _ => cases g
  | str a => rw [show v = V.str a from h]; cases y with
    | non => rw [show u = V.non from k]; rfl
    | bl b => rw [show u = V.bl b from k]; rfl
    | int b => rw [show u = V.int b from k]; rfl
    | str b => rw [show u = V.str b from k]; rfl
    | _ => cases g
  | _ => cases f
theorem flats_ok : ∀ {ds : List D} {vs : List V}, Reps K F r ds vs → ds.all flatD = true → vs.all flatV = true
  | [], _, h, _ => by cases (show _ = [] from h); rfl
  | d :: ds, _, h, f => by
    obtain ⟨v, w, rfl, h1, h2⟩ := h
    rw [List.all_cons, Bool.and_eq_true] at f ⊢
    exact ⟨flat_ok h1 f.1, flats_ok h2 f.2⟩
theorem inF_ok {x : D} {u : V} (k : Rep K F r x u) (g : flatD x = true) : ∀ {ds : List D} {vs : List V}, Reps K F r ds vs → ds.all flatD = true → inV u vs = inF x ds
  | [], _, h, _ => by cases (show _ = [] from h); rfl
  | d :: ds, _, h, f => by
    obtain ⟨v, w, rfl, h1, h2⟩ := h
    rw [List.all_cons, Bool.and_eq_true] at f
    have ih := inF_ok k g h2 f.2
    unfold inV inF at ih ⊢
    rw [List.any_cons, List.any_cons, ih, eqF_ok h1 k f.1 g]
/-- neg: not in -/
def gIn (neg : Bool) (x y : D) (C : Store) : RE := match seqOf C y with
  | some ds => if (flatD x && ds.all flatD) = true then .ok (.bl (if neg then !inF x ds else inF x ds), C) else .no
  | none => .no
theorem inN {neg : Bool} : OpN K mg E (rIn K neg) (gIn neg) := by
  intro B F r H C x y v u Q hr hx hy o
  unfold gIn at o
  split at o
  · rename_i ds e
    split at o
    · rename_i f
      rw [Bool.and_eq_true] at f
      obtain ⟨a, vs, h1, h2, h3⟩ := seqOf_ok hr hy e
      refine ⟨a, vs, h1, h2, flat_ok hx f.1, flats_ok h3 f.2, ?_⟩
      rw [inF_ok hx f.1 h3 f.2]
      exact out_ok (d := .bl (if neg then !inF x ds else inF x ds)) hr rfl o
    · exact False.elim o
  · exact False.elim o
/-- in a text -/
def gInS (neg : Bool) (x y : D) (C : Store) : RE := match x, y with
  | .str a, .str b => .ok (.bl (if neg then !(!(Builtin.Str.occurrences b a 0 b.length 1).isEmpty) else !(Builtin.Str.occurrences b a 0 b.length 1).isEmpty), C)
  | _, _ => .no
theorem inSN : OpN K mg E (fun x y H Q => ∃ i j, x = .str i ∧ y = .str j ∧ Q (.bl (!(Builtin.Str.occurrences j i 0 j.length 1).isEmpty)) H) (gInS false) := by
  intro B F r H C x y v u Q hr hx hy o
  cases x with
  | str i =>
    cases y with
    | str j => exact ⟨i, j, hx, hy, out_ok (d := .bl (!(Builtin.Str.occurrences j i 0 j.length 1).isEmpty)) hr rfl o⟩
    | _ => exact False.elim o
  | _ => exact False.elim o
theorem notInSN : OpN K mg E (fun x y H Q => ∃ i j, x = .str i ∧ y = .str j ∧ Q (.bl (!(!(Builtin.Str.occurrences j i 0 j.length 1).isEmpty))) H) (gInS true) := by
  intro B F r H C x y v u Q hr hx hy o
  cases x with
  | str i =>
    cases y with
    | str j => exact ⟨i, j, hx, hy, out_ok (d := .bl (!(!(Builtin.Str.occurrences j i 0 j.length 1).isEmpty))) hr rfl o⟩
    | _ => exact False.elim o
  | _ => exact False.elim o

/-! isinstance, built-in types -/
def tyD : D → Option String
  | .non => some "NoneType"
  | .bl _ => some "bool"
  | .int _ => some "int"
  | .str _ => some "str"
  | .lst _ => some "list"
  | .tup _ => some "tuple"
  | .edct => some "dict"
  | .cell _ => none
  | .fn _ => none
  | .exc _ _ _ => none
def tyC (C : Store) : D → Option String
  | .cell i => match C[i]? with
    | some (.lst _) => some "list"
    | some (.fz _) => some "list"
    | some (.dk _) => some "dict"
    | some (.dt _) => some "dict"
    | _ => none
  | d => tyD d
def kinds : List String := ["NoneType", "bool", "int", "str", "list", "tuple", "dict"]
def isB (a b : String) : Bool := a == b || (a == "bool" && b == "int")
theorem kit_kinds : ∀ a ∈ kinds, ∀ b ∈ kinds, kitB a b = some (isB a b) := by decide +kernel
theorem tyX_seqL {a : Addr} {vs : List V} (h : SqL K H a vs) : TyX K H (.ref a) (.type "list") := by
  rcases h with (h | ⟨o, h⟩) | ⟨o, its, n, h1, h2, _⟩
  · exact .base (.lst h)
  · exact .base (.frz h)
  · exact .kList h1 h2
theorem tyX_seqT {a : Addr} {vs : List V} (h : SqT K H a vs) : TyX K H (.ref a) (.type "tuple") := by
  rcases h with (h | ⟨o, h⟩) | ⟨o, its, n, h1, h2, _⟩
  · exact .base (.tup h)
  · exact .fTuple h
  · exact .kTuple h1 h2
theorem tyC_ok {x : D} {v : V} {T : String} (hr : Rel K B F r H C) (hx : Rep K F r x v) (e : tyC C x = some T) : T ∈ kinds ∧ TyX K H v (.type T) := by
  cases x with
  | non => cases e; rw [show v = V.non from hx]; exact ⟨by decide, .base .non⟩
  | bl b => cases e; rw [show v = V.bl b from hx]; exact ⟨by decide, .base (.bl b)⟩
  | int b => cases e; rw [show v = V.int b from hx]; exact ⟨by decide, .base (.int b)⟩
  | str b => cases e; rw [show v = V.str b from hx]; exact ⟨by decide, .base (.str b)⟩
  | lst ds =>
    cases e
    obtain ⟨a, vs, rfl, h2, _⟩ := lstOf_ok hr hx (show lstOf C (.lst ds) = some ds from rfl)
    exact ⟨by decide, tyX_seqL h2⟩
  | tup ds =>
    cases e
    obtain ⟨a, vs, rfl, h2, _⟩ := tupOf_ok hr hx (show tupOf (.tup ds) = some ds from rfl)
    exact ⟨by decide, tyX_seqT h2⟩
  | edct =>
    cases e
    obtain ⟨a, rfl, h⟩ := hx
    exact ⟨by decide, .base (.dK (hr.froz _ _ h))⟩
  | cell i =>
    obtain ⟨a, rfl, h⟩ := hx
    have e : (match C[i]? with
    | some (.lst _) => some "list"
    | some (.fz _) => some "list"
    | some (.dk _) => some "dict"
    | some (.dt _) => some "dict"
    | _ => none) = some T := e
    split at e
    · rename_i ds hc
      cases e
      obtain ⟨_, vs, h3, _⟩ := hr.cells i _ a hc h
      exact ⟨by decide, .base (.lst h3)⟩
    · rename_i ds hc
      cases e
      obtain ⟨vs, h3, _⟩ := hr.cells i _ a hc h
      exact ⟨by decide, .base (.lst (hr.froz _ _ h3))⟩
    · rename_i ds hc
      cases e
      obtain ⟨_, vs, h3, _⟩ := hr.cells i _ a hc h
      exact ⟨by decide, .base (.dK h3)⟩
    · rename_i ds hc
      cases e
      obtain ⟨_, vs, h3, _⟩ := hr.cells i _ a hc h
      exact ⟨by decide, .base (.dT h3)⟩
    · cases e
  | fn a => cases e
  | exc c f a => cases e
/-- isinstance(x, T) -/
def gIsi (T : String) (x : D) (C : Store) : RE := match tyC C x with
  | some t => .ok (.bl (isB t T), C)
  | none => .no
def gIsiL (Ts : List String) (x : D) (C : Store) : RE := match tyC C x with
  | some t => .ok (.bl (Ts.any (isB t)), C)
  | none => .no
end
end Nv

namespace Nv
open PySem PySem.Spec PyProof.Rows L2
def intsOf : List D → Option (List Int)
  | [] => some []
  | .int i :: r => (intsOf r).map (i :: ·)
  | _ :: _ => none
def blsOf : List D → Option (List Bool)
  | [] => some []
  | .bl i :: r => (blsOf r).map (i :: ·)
  | _ :: _ => none
def strsOf : List D → Option (List Str)
  | [] => some []
  | .str i :: r => (strsOf r).map (i :: ·)
  | _ :: _ => none
theorem intsOf_map : ∀ ns : List Int, intsOf (ns.map D.int) = some ns
  | [] => rfl
  | n :: r => by simp [intsOf, intsOf_map r]
theorem blsOf_map : ∀ ns : List Bool, blsOf (ns.map D.bl) = some ns
  | [] => rfl
  | n :: r => by simp [blsOf, blsOf_map r]
theorem strsOf_map : ∀ ns : List Str, strsOf (ns.map D.str) = some ns
  | [] => rfl
  | n :: r => by simp [strsOf, strsOf_map r]
theorem intsOf_eq : ∀ {ds : List D} {ns : List Int}, intsOf ds = some ns → ds = ns.map D.int
  | [], _, h => by cases h; rfl
  | d :: ds, ns, h => by
    cases d with
    | int i =>
      obtain ⟨ms, e, rfl⟩ := map_some (show (intsOf ds).map (i :: ·) = some ns from h)
      rw [intsOf_eq e]
      rfl
    | _ => cases h
theorem blsOf_eq : ∀ {ds : List D} {ns : List Bool}, blsOf ds = some ns → ds = ns.map D.bl
  | [], _, h => by cases h; rfl
  | d :: ds, ns, h => by
    cases d with
    | bl i =>
      obtain ⟨ms, e, rfl⟩ := map_some (show (blsOf ds).map (i :: ·) = some ns from h)
      rw [blsOf_eq e]
      rfl
    | _ => cases h
theorem strsOf_eq : ∀ {ds : List D} {ns : List Str}, strsOf ds = some ns → ds = ns.map D.str
  | [], _, h => by cases h; rfl
  | d :: ds, ns, h => by
    cases d with
    | str i =>
      obtain ⟨ms, e, rfl⟩ := map_some (show (strsOf ds).map (i :: ·) = some ns from h)
      rw [strsOf_eq e]
      rfl
    | _ => cases h
section
variable {K : PySem.W.Frag} {mg : Str → Option Value} {E : XK} {B F H : Hp} {r : List Addr} {C : Store} {Q : VK} {X : Cx}
theorem Reps.bls : ∀ {ns : List Bool} {vs : List V}, Reps K F r (ns.map D.bl) vs → vs = ns.map V.bl
  | [], _, h => h
  | n :: ns, _, h => by
    obtain ⟨v, w, rfl, h1, h2⟩ := h
    rw [Reps.bls h2, show v = V.bl n from h1]
    rfl
theorem Reps.strs : ∀ {ns : List Str} {vs : List V}, Reps K F r (ns.map D.str) vs → vs = ns.map V.str
  | [], _, h => h
  | n :: ns, _, h => by
    obtain ⟨v, w, rfl, h1, h2⟩ := h
    rw [Reps.strs h2, show v = V.str n from h1]
    rfl
theorem Reps.ofStrs : ∀ (ns : List Str), Reps K F r (ns.map D.str) (ns.map V.str)
  | [] => rfl
  | n :: ns => .cons rfl (Reps.ofStrs ns)

/-! one argument -/
def on1 (g : D → Store → RE) : List D → Store → RE := fun ds C => match ds with
  | [x] => g x C
  | _ => .no
def on2 (g : D → D → Store → RE) : List D → Store → RE := fun ds C => match ds with
  | [x, y] => g x y C
  | _ => .no
theorem on1N {rc : List V → Hp → VK → Prop} {g : D → Store → RE} (h : ∀ (B F : Hp) (r : List Addr) (H : Hp) (C : Store) (x : D) (v : V) (Q : VK), Rel K B F r H C → Rep K F r x v → Out (Rep K) K mg E B F r (g x C) Q → rc [v] H Q) : CallN K mg E rc (on1 g) := by
  intro B F r H C ds vs Q hr hd o
  unfold on1 at o
  split at o
  · rename_i x
    obtain ⟨v, w, rfl, h1, h2⟩ := hd
    cases (show w = [] from h2)
    exact h B F r H C x v Q hr h1 o
  · exact False.elim o
theorem on2N {rc : List V → Hp → VK → Prop} {g : D → D → Store → RE} (h : ∀ (B F : Hp) (r : List Addr) (H : Hp) (C : Store) (x y : D) (v u : V) (Q : VK), Rel K B F r H C → Rep K F r x v → Rep K F r y u → Out (Rep K) K mg E B F r (g x y C) Q → rc [v, u] H Q) : CallN K mg E rc (on2 g) := by
  intro B F r H C ds vs Q hr hd o
  unfold on2 at o
  split at o
  · rename_i x y
    obtain ⟨v, w, rfl, h1, u, w', rfl, h2, h3⟩ := hd
    cases (show w' = [] from h3)
    exact h B F r H C x y v u Q hr h1 h2 o
  · exact False.elim o
/-! len -/
def gLen (x : D) (C : Store) : RE := match x with
  | .str s => if s.length ≤ sizeLine then .ok (.int s.length, C) else .no
  | x => match seqOf C x with
    | some ds => .ok (.int ds.length, C)
    | none => .no
theorem lenN : CallN K mg E (fun xs H Q => ∃ x n, xs = [x] ∧ LenV K x H n ∧ Q (.int n) H) (on1 gLen) := on1N fun B F r H C x v Q hr hx o => by
  have sq : ∀ (o : Out (Rep K) K mg E B F r (match seqOf C x with
    | some ds => .ok (.int ds.length, C)
    | none => .no) Q), ∃ z n, [v] = [z] ∧ LenV K z H n ∧ Q (.int n) H := fun o => by
    split at o
    · rename_i ds e
      obtain ⟨a, vs, rfl, h2, h3⟩ := seqOf_ok hr hx e
      refine ⟨.ref a, ds.length, rfl, ?_, out_ok (d := .int ds.length) hr rfl o⟩
      rcases h2 with h2 | h2
      · exact .inl ⟨vs, h2, h3.length⟩
      · exact .inr ⟨vs, h2, h3.length⟩
    · exact False.elim o
  cases x with
  | str s =>
    have o : Out (Rep K) K mg E B F r (if s.length ≤ sizeLine then .ok (.int s.length, C) else .no) Q := o
    split at o
    · rename_i hl
      rw [show v = V.str s from hx]
      exact ⟨.str s, s.length, rfl, ⟨hl, rfl⟩, out_ok (d := .int s.length) hr rfl o⟩
    · exact False.elim o
  | _ => exact sq o
/-! max, min, abs, int, str of whole numbers -/
def gMax2 (x y : D) (C : Store) : RE := match x, y with
  | .int i, .int j => .ok (.int (max i j), C)
  | _, _ => .no
def gMin2 (x y : D) (C : Store) : RE := match x, y with
  | .int i, .int j => .ok (.int (min i j), C)
  | _, _ => .no
theorem max2N : CallN K mg E (fun xs H Q => ∃ i j, xs = [.int i, .int j] ∧ Q (.int (if j > i then j else i)) H) (on2 gMax2) := on2N fun B F r H C x y v u Q hr hx hy o => by
  cases x with
  | int i =>
    cases y with
    | int j =>
      refine ⟨i, j, by rw [show v = V.int i from hx, show u = V.int j from hy], ?_⟩
      have e : (if j > i then j else i) = max i j := by split <;> omega
      rw [e]
      exact out_ok (d := .int (max i j)) hr rfl o
    | _ => exact False.elim o
  | _ => exact False.elim o
theorem min2N : CallN K mg E (fun xs H Q => ∃ i j, xs = [.int i, .int j] ∧ Q (.int (if j < i then j else i)) H) (on2 gMin2) := on2N fun B F r H C x y v u Q hr hx hy o => by
  cases x with
  | int i =>
    cases y with
    | int j =>
      refine ⟨i, j, by rw [show v = V.int i from hx, show u = V.int j from hy], ?_⟩
      have e : (if j < i then j else i) = min i j := by split <;> omega
      rw [e]
      exact out_ok (d := .int (min i j)) hr rfl o
    | _ => exact False.elim o
  | _ => exact False.elim o
def gInt (x : D) (C : Store) : RE := match x with
  | .int i => .ok (.int i, C)
  | .bl b => .ok (.int (if b then 1 else 0), C)
  | .str a => match PySem.intText? a with
    | some n => if a.length ≤ 640 then .ok (.int n, C) else .no
    | none => .no
  | _ => .no
def rInt3 : List V → Hp → VK → Prop := fun xs H Q => ((∃ i, xs = [.int i] ∧ Q (.int i) H) ∨ ∃ k, xs = [.bl k] ∧ Q (.int (if k then 1 else 0)) H) ∨ ∃ a n, xs = [.str a] ∧ PySem.intText? a = some n ∧ a.length ≤ 640 ∧ Q (.int n) H
theorem call_int3 : CallR X (.type "int") rInt3 := call_int1.or call_int_str
theorem intN : CallN K mg E rInt3 (on1 gInt) := on1N fun B F r H C x v Q hr hx o => by
  cases x with
  | int i => exact .inl (.inl ⟨i, by rw [show v = V.int i from hx], out_ok (d := .int i) hr rfl o⟩)
  | bl i => exact .inl (.inr ⟨i, by rw [show v = V.bl i from hx], out_ok (d := .int (if i then 1 else 0)) hr rfl o⟩)
  | str a =>
    have o : Out (Rep K) K mg E B F r (match PySem.intText? a with
    | some n => if a.length ≤ 640 then .ok (.int n, C) else .no
    | none => .no) Q := o
    split at o
    · rename_i n e
      split at o
      · rename_i hl
        exact .inr ⟨a, n, by rw [show v = V.str a from hx], e, hl, out_ok (d := .int n) hr rfl o⟩
      · exact False.elim o
    · exact False.elim o
  | _ => exact False.elim o
def gStr (x : D) (C : Store) : RE := match x with
  | .int i => if i.natAbs < 10 ^ 400 then .ok (.str (toString i), C) else .no
  | _ => .no
theorem strN : CallN K mg E (fun xs H Q => ∃ i, xs = [.int i] ∧ i.natAbs.log2 < 1920 ∧ Q (.str (toString i)) H) (on1 gStr) := on1N fun B F r H C x v Q hr hx o => by
  cases x with
  | int i =>
    have o : Out (Rep K) K mg E B F r (if i.natAbs < 10 ^ 400 then .ok (.str (toString i), C) else .no) Q := o
    split at o
    · rename_i hl
      refine ⟨i, by rw [show v = V.int i from hx], log2_lt (Nat.lt_of_lt_of_le hl (by decide +kernel)) (by decide), out_ok (d := .str (toString i)) hr rfl o⟩
    · exact False.elim o
  | _ => exact False.elim o
/-! lists and tuples of lists and tuples -/
def gList (c : Bool) (x : D) (C : Store) : RE := match seqOf C x with
  | some ds => newL c ds C
  | none => .no
theorem listN {c : Bool} : CallN K mg E (fun xs H Q => ∃ p ys, xs = [.ref p] ∧ (SqL K H p ys ∨ SqT K H p ys) ∧ ∀ l, H l = none → Q (.ref l) (upd H l (.lst ys))) (on1 (gList c)) := on1N fun B F r H C x v Q hr hx o => by
  unfold gList at o
  split at o
  · rename_i ds e
    obtain ⟨a, vs, rfl, h2, h3⟩ := seqOf_ok hr hx e
    exact ⟨a, vs, rfl, h2, fun l hl => newL_ok hr h3 o hl⟩
  · exact False.elim o
def gTuple (x : D) (C : Store) : RE := match x with
  | .tup ds => .ok (.tup ds, C)
  | x => match lstOf C x with
    | some ds => .ok (.tup ds, C)
    | none => .no
theorem tupleN : CallN K mg E (fun xs H Q => ∃ p ys, xs = [.ref p] ∧ ((SqL K H p ys ∧ ∀ l, H l = none → Q (.ref l) (upd H l (.tup ys))) ∨ (SqT K H p ys ∧ Q (.ref p) H))) (on1 gTuple) := on1N fun B F r H C x v Q hr hx o => by
  have sq : ∀ (o : Out (Rep K) K mg E B F r (match lstOf C x with
    | some ds => .ok (.tup ds, C)
    | none => .no) Q), ∃ p ys, [v] = [V.ref p] ∧ ((SqL K H p ys ∧ ∀ l, H l = none → Q (.ref l) (upd H l (.tup ys))) ∨ (SqT K H p ys ∧ Q (.ref p) H)) := fun o => by
    split at o
    · rename_i ds e
      obtain ⟨a, vs, rfl, h2, h3⟩ := lstOf_ok hr hx e
      exact ⟨a, vs, rfl, .inl ⟨h2, fun l hl => newT_ok hr h3 o hl⟩⟩
    · exact False.elim o
  cases x with
  | tup ds =>
    obtain ⟨a, vs, h1, h2, h3⟩ := tupOf_ok hr hx (show tupOf (.tup ds) = some ds from rfl)
    exact ⟨a, vs, by rw [h1], .inr ⟨h2, out_ok (d := .tup ds) hr (h1 ▸ hx) o⟩⟩
  | _ => exact sq o
/-! all, any, sum, max, min, sorted -/
def gAll (x : D) (C : Store) : RE := match (lstOf C x).bind blsOf with
  | some bs => .ok (.bl (bs.all id), C)
  | none => .no
def gAny (x : D) (C : Store) : RE := match (lstOf C x).bind blsOf with
  | some bs => .ok (.bl (bs.any id), C)
  | none => .no
theorem bind_some {A B : Type} {o : Option A} {f : A → Option B} {b : B} (h : o.bind f = some b) : ∃ a, o = some a ∧ f a = some b := by
  cases o with
  | none => cases h
  | some a => exact ⟨a, rfl, h⟩
theorem bls_ok {x : D} {v : V} {bs : List Bool} (hr : Rel K B F r H C) (hx : Rep K F r x v) (e : (lstOf C x).bind blsOf = some bs) : ∃ a, v = .ref a ∧ SqL K H a (bs.map V.bl) := by
  obtain ⟨ds, e1, e2⟩ := bind_some e
  obtain ⟨a, vs, rfl, h2, h3⟩ := lstOf_ok hr hx e1
  rw [blsOf_eq e2] at h3
  rw [h3.bls] at h2
  exact ⟨a, rfl, h2⟩
theorem ints_ok {x : D} {v : V} {bs : List Int} (hr : Rel K B F r H C) (hx : Rep K F r x v) (e : (lstOf C x).bind intsOf = some bs) : ∃ a, v = .ref a ∧ SqL K H a (bs.map V.int) := by
  obtain ⟨ds, e1, e2⟩ := bind_some e
  obtain ⟨a, vs, rfl, h2, h3⟩ := lstOf_ok hr hx e1
  rw [intsOf_eq e2] at h3
  rw [h3.ints] at h2
  exact ⟨a, rfl, h2⟩
theorem allN : CallN K mg E (rAll K) (on1 gAll) := on1N fun B F r H C x v Q hr hx o => by
  unfold gAll at o
  split at o
  · rename_i bs e
    obtain ⟨a, rfl, h⟩ := bls_ok hr hx e
    exact ⟨a, bs, rfl, h, out_ok (d := .bl (bs.all id)) hr rfl o⟩
  · exact False.elim o
theorem anyN : CallN K mg E (rAny K) (on1 gAny) := on1N fun B F r H C x v Q hr hx o => by
  unfold gAny at o
  split at o
  · rename_i bs e
    obtain ⟨a, rfl, h⟩ := bls_ok hr hx e
    exact ⟨a, bs, rfl, h, out_ok (d := .bl (bs.any id)) hr rfl o⟩
  · exact False.elim o
def gSum (x : D) (C : Store) : RE := match (lstOf C x).bind intsOf with
  | some bs => .ok (.int bs.sum, C)
  | none => .no
theorem sumN : CallN K mg E (rSum K) (on1 gSum) := on1N fun B F r H C x v Q hr hx o => by
  unfold gSum at o
  split at o
  · rename_i bs e
    obtain ⟨a, rfl, h⟩ := ints_ok hr hx e
    exact ⟨a, bs, rfl, h, out_ok (d := .int bs.sum) hr rfl o⟩
  · exact False.elim o
def maxL (ns : List Int) : Int := ns.foldl max (ns.headD 0)
def minL (ns : List Int) : Int := ns.foldl min (ns.headD 0)
theorem foldl_max : ∀ (ns : List Int) (z : Int), z ≤ ns.foldl max z ∧ (∀ y ∈ ns, y ≤ ns.foldl max z) ∧ (ns.foldl max z = z ∨ ns.foldl max z ∈ ns)
  | [], z => by simp
  | n :: ns, z => by
    obtain ⟨h1, h2, h3⟩ := foldl_max ns (max z n)
    rw [List.foldl_cons]
    refine ⟨by omega, fun y hy => ?_, ?_⟩
    · rcases List.mem_cons.mp hy with rfl | hy
      · omega
      · exact h2 y hy
    · rcases h3 with h3 | h3
      · rw [h3]
        by_cases hz : z ≤ n
        · exact .inr (by rw [Int.max_eq_right hz]; exact List.mem_cons_self)
        · exact .inl (Int.max_eq_left (by omega))
      · exact .inr (List.mem_cons_of_mem _ h3)
theorem foldl_min : ∀ (ns : List Int) (z : Int), ns.foldl min z ≤ z ∧ (∀ y ∈ ns, ns.foldl min z ≤ y) ∧ (ns.foldl min z = z ∨ ns.foldl min z ∈ ns)
  | [], z => by simp
  | n :: ns, z => by
    obtain ⟨h1, h2, h3⟩ := foldl_min ns (min z n)
    rw [List.foldl_cons]
    refine ⟨by omega, fun y hy => ?_, ?_⟩
    · rcases List.mem_cons.mp hy with rfl | hy
      · omega
      · exact h2 y hy
    · rcases h3 with h3 | h3
      · rw [h3]
        by_cases hz : z ≤ n
        · exact .inl (Int.min_eq_left hz)
        · exact .inr (by rw [Int.min_eq_right (by omega)]; exact List.mem_cons_self)
      · exact .inr (List.mem_cons_of_mem _ h3)
theorem maxL_spec {ns : List Int} (h : ns ≠ []) : maxL ns ∈ ns ∧ ∀ y ∈ ns, y ≤ maxL ns := by
  cases ns with
  | nil => exact absurd rfl h
  | cons n r =>
    obtain ⟨h1, h2, h3⟩ := foldl_max (n :: r) n
    refine ⟨?_, h2⟩
    rcases h3 with h3 | h3
    · show (n :: r).foldl max n ∈ n :: r
      rw [h3]
      exact List.mem_cons_self
    · exact h3
theorem minL_spec {ns : List Int} (h : ns ≠ []) : minL ns ∈ ns ∧ ∀ y ∈ ns, minL ns ≤ y := by
  cases ns with
  | nil => exact absurd rfl h
  | cons n r =>
    obtain ⟨h1, h2, h3⟩ := foldl_min (n :: r) n
    refine ⟨?_, h2⟩
    rcases h3 with h3 | h3
    · show (n :: r).foldl min n ∈ n :: r
      rw [h3]
      exact List.mem_cons_self
    · exact h3
def gMaxL (x : D) (C : Store) : RE := match (lstOf C x).bind intsOf with
  | some (n :: ns) => .ok (.int (maxL (n :: ns)), C)
  | _ => .no
def gMinL (x : D) (C : Store) : RE := match (lstOf C x).bind intsOf with
  | some (n :: ns) => .ok (.int (minL (n :: ns)), C)
  | _ => .no
theorem maxLN : CallN K mg E (rMax K) (on1 gMaxL) := on1N fun B F r H C x v Q hr hx o => by
  unfold gMaxL at o
  split at o
  · rename_i n ns e
    obtain ⟨a, rfl, h⟩ := ints_ok hr hx e
    refine ⟨a, n :: ns, rfl, h, by simp, fun m h1 h2 => ?_⟩
    have s := maxL_spec (ns := n :: ns) (by simp)
    have e : m = maxL (n :: ns) := Int.le_antisymm (s.2 m h1) (h2 _ s.1)
    rw [e]
    exact out_ok (d := .int (maxL (n :: ns))) hr rfl o
  · exact False.elim o
theorem minLN : CallN K mg E (rMin K) (on1 gMinL) := on1N fun B F r H C x v Q hr hx o => by
  unfold gMinL at o
  split at o
  · rename_i n ns e
    obtain ⟨a, rfl, h⟩ := ints_ok hr hx e
    refine ⟨a, n :: ns, rfl, h, by simp, fun m h1 h2 => ?_⟩
    have s := minL_spec (ns := n :: ns) (by simp)
    have e : m = minL (n :: ns) := Int.le_antisymm (h2 _ s.1) (s.2 m h1)
    rw [e]
    exact out_ok (d := .int (minL (n :: ns))) hr rfl o
  · exact False.elim o
def sortI (ns : List Int) : List Int := ns.mergeSort (fun a b => decide (a ≤ b))
theorem sortI_perm (ns : List Int) : (sortI ns).Perm ns := List.mergeSort_perm _ _
theorem sortI_le (ns : List Int) : (sortI ns).Pairwise (· ≤ ·) := by
  have h := List.pairwise_mergeSort (le := fun (a b : Int) => decide (a ≤ b)) (fun a b c h1 h2 => by simp at *; omega) (fun a b => by simp; omega) ns
  exact h.imp fun h => by simpa using h
theorem sorted_uniq {ms ns : List Int} (h : ms.Perm ns) (a : ms.Pairwise (· ≤ ·)) (b : ns.Pairwise (· ≤ ·)) : ms = ns :=
  List.Perm.eq_of_pairwise (fun x y _ _ h1 h2 => Int.le_antisymm h1 h2) a b h
def gSorted (c : Bool) (x : D) (C : Store) : RE := match (lstOf C x).bind intsOf with
  | some ns => newL c ((sortI ns).map D.int) C
  | none => .no
theorem sortedN {c : Bool} : CallN K mg E (rSortedI K) (on1 (gSorted c)) := on1N fun B F r H C x v Q hr hx o => by
  unfold gSorted at o
  split at o
  · rename_i ns e
    obtain ⟨a, rfl, h⟩ := ints_ok hr hx e
    refine ⟨a, ns, rfl, h, fun ms p h1 h2 hp => ?_⟩
    have e : ms = sortI ns := sorted_uniq (h1.trans (sortI_perm ns).symm) h2 (sortI_le ns)
    subst e
    exact newL_ok hr (Reps.ofInts _) o hp
  · exact False.elim o
end
end Nv

namespace Nv
open PySem PySem.Spec PyProof.Rows L2
section
variable {K : PySem.W.Frag} {mg : Str → Option Value} {E : XK} {B F H : Hp} {r : List Addr} {C : Store} {Q : VK} {X : Cx} {a b e : Expr} {es : List Expr} {ma mb mo : ME} {mas : MG (List D)} {pos p1 p2 p3 : Pos}

/-! isinstance -/
theorem ne_isi {T : Str} {Ts : String} (hm : X.mg "isinstance" = none) (hmT : X.mg T = none) (hbT : bootBuiltins T = some (.type Ts)) (hT : Ts ∈ kinds) (ha : NE X E a ma) (hl : Gl X "isinstance" := by rfl) (hlT : Gl X T := by rfl)
    (h1 : T ≠ "__name__" := by decide) (h2 : (T == ("__debug__" : Str)) = false := by decide) (hs : starEach [a, .Name T p2] X.env = (false, eval a X.env) :: starEach [.Name T p2] X.env := by rfl)
    (hs2 : starEach [.Name T p2] X.env = (false, eval (.Name T p2) X.env) :: starEach [] X.env := by rfl) (hpl : (backTo pos (starEach [.Name T p2] X.env)).any (·.1) = false := by rfl) :
    NE X E (.Call (.Name "isinstance" p1) [a, .Name T p2] [] pos) (m1 (gIsi Ts) ma) :=
  ⟨pe_imp (pe_callB call_isi hl hm boot_isinstance (pa_cons ha.pe (pa_cons (pe_bltn (v := .ty Ts) hlT hmT hbT rfl h1 h2) pa_nil hs2) hs) (by decide) (by decide) hs hpl) fun s H Q q => by
    obtain ⟨B, F, r, sl, C, hr, hs, o⟩ := q
    refine ⟨B, F, r, sl, C, hr, hs, Out.bind (P := Rep X.K) o fun x C1 F1 r1 H1 v e1 e2 hr1 hx o1 => ?_⟩
    simp only [gIsi] at o1
    split at o1
    · rename_i t et
      obtain ⟨k1, k2⟩ := tyC_ok hr1 hx et
      exact ⟨v, .ty Ts, .type t, .type Ts, isB t Ts, rfl, .ty Ts, k2, kit_ty (kit_kinds t k1 Ts hT), out_ok (d := .bl (isB t Ts)) hr1 rfl o1⟩
    · exact False.elim o1⟩
/-- a row of names of built-in types -/
structure TyArgs (X : Cx) (es : List Expr) (Ts : List String) : Prop where
  pa : PA X es fun _ H Q => Q (Ts.map V.ty) H
theorem ta_nil : TyArgs X [] [] := ⟨pa_imp pa_nil fun _ _ _ q => q⟩
theorem ta_cons {T : Str} {Ts : String} {Us : List String} (hmT : X.mg T = none) (hbT : bootBuiltins T = some (.type Ts)) (h : TyArgs X es Us) (hlT : Gl X T := by rfl)
    (h1 : T ≠ "__name__" := by decide) (h2 : (T == ("__debug__" : Str)) = false := by decide) (hs : starEach (.Name T p2 :: es) X.env = (false, eval (.Name T p2) X.env) :: starEach es X.env := by rfl) : TyArgs X (.Name T p2 :: es) (Ts :: Us) :=
  ⟨pa_imp (pa_cons (pe_bltn (v := .ty Ts) hlT hmT hbT rfl h1 h2) h.pa hs) fun _ _ _ q => q⟩
theorem kitAny_kinds {a : String} (ha : a ∈ kinds) : ∀ {Ts : List String}, (∀ T ∈ Ts, T ∈ kinds) → PySem.W.kitAny K (.type a) (Ts.map Value.type) = some (Ts.any (isB a))
  | [], _ => kitAny_nil
  | T :: Ts, h => by
    have e := kit_ty (K := K) (kit_kinds a ha T (h T List.mem_cons_self))
    have ih := kitAny_kinds ha (Ts := Ts) fun t ht => h t (List.mem_cons_of_mem _ ht)
    rw [List.map_cons, List.any_cons]
    refine kitAny_cons e (fun z => ?_) fun z => ?_
    · rw [z, Bool.false_or]
      exact ih
    · rw [z, Bool.true_or]
theorem cls_tys : ∀ Ts : List String, Paired ClsV (Ts.map V.ty) (Ts.map Value.type)
  | [] => .nil
  | T :: Ts => .cons (.ty T) (cls_tys Ts)
theorem ne_isiL {Ts : List String} {k : Nat} (hm : X.mg "isinstance" = none) (hT : ∀ T ∈ Ts, T ∈ kinds) (hz : Ts.length ≤ 100) (ha : NE X E a ma) (ht : TyArgs X es Ts) (hl : Gl X "isinstance" := by rfl)
    (hs : starEach [a, .Tuple es k p2] X.env = (false, eval a X.env) :: starEach [.Tuple es k p2] X.env := by rfl)
    (hs2 : starEach [.Tuple es k p2] X.env = (false, eval (.Tuple es k p2) X.env) :: starEach [] X.env := by rfl) (hpl : (backTo pos (starEach [.Tuple es k p2] X.env)).any (·.1) = false := by rfl) :
    NE X E (.Call (.Name "isinstance" p1) [a, .Tuple es k p2] [] pos) (m1 (gIsiL Ts) ma) :=
  ⟨pe_imp (pe_callB call_isiT hl hm boot_isinstance (pa_cons ha.pe (pa_cons (pe_tup ht.pa) pa_nil hs2) hs) (by decide) (by decide) hs hpl) fun s H Q q => by
    obtain ⟨B, F, r, sl, C, hr, hs, o⟩ := q
    refine ⟨B, F, r, sl, C, hr, hs, Out.bind (P := Rep X.K) o fun x C1 F1 r1 H1 v e1 e2 hr1 hx o1 => ?_⟩
    refine ⟨by rw [List.length_map]; exact Nat.le_trans hz (by decide), fun p hp => ?_⟩
    simp only [gIsiL] at o1
    split at o1
    · rename_i t et
      have hr2 := hr1.junk (o := .tup (Ts.map V.ty)) hp
      obtain ⟨k1, k2⟩ := tyC_ok hr2 hx et
      exact ⟨v, p, Ts.map V.ty, .type t, Ts.map Value.type, Ts.any (isB t), rfl, upd_same, cls_tys Ts, k2, kitAny_kinds k1 hT, out_ok (d := .bl (Ts.any (isB t))) hr2 rfl o1⟩
    · exact False.elim o1⟩

/-! list(range(..)), [..] * n -/
def intOf : D → Option Int
  | .int i => some i
  | _ => none
theorem intOf_ok {x : D} {v : V} {i : Int} (hx : Rep K F r x v) (e : intOf x = some i) : v = .int i := by
  cases x with
  | int j => cases e; exact hx
  | _ => cases e
def rangeD (a b : Int) : List D := (List.range (b - a).toNat).map fun i => D.int (a + (i : Nat))
theorem range_ok (a b : Int) : Reps K F r (rangeD a b) (rgV a b) := by
  unfold rangeD rgV
  generalize (b - a).toNat = n
  generalize List.range n = l
  induction l with
  | nil => exact .nil
  | cons i l ih => exact .cons rfl ih
/-- small numbers: ranges and indices -/
def lowI (i : Int) : Bool := decide (-(2 ^ 20) ≤ i) && decide (i ≤ 2 ^ 20)
theorem lowI_ok {i : Int} (h : lowI i = true) : -(2 ^ 20) ≤ i ∧ i ≤ 2 ^ 20 := by
  unfold lowI at h
  rw [Bool.and_eq_true] at h
  exact ⟨of_decide_eq_true h.1, of_decide_eq_true h.2⟩
theorem rg_ok {a b : Int} (h : (lowI a && lowI b) = true) : RgOk a b := by
  rw [Bool.and_eq_true] at h
  have h1 := lowI_ok h.1
  have h2 := lowI_ok h.2
  unfold RgOk
  omega
def gRg (c : Bool) (x y : D) (C : Store) : RE := match intOf x, intOf y with
  | some i, some j => if (lowI i && lowI j) = true then newL c (rangeD i j) C else .no
  | _, _ => .no
theorem ne_listRg2 {c : Bool} (hc : X.calm = true) (hml : X.mg "list" = none) (hmr : X.mg "range" = none) (ha : NE X E a ma) (hb : NE X E b mb) (hgl : Gl X "list" := by rfl) (hgr : Gl X "range" := by rfl)
    (na : starEach [a, b] X.env = (false, eval a X.env) :: starEach [b] X.env := by rfl) (nb : starEach [b] X.env = (false, eval b X.env) :: starEach [] X.env := by rfl) (hp : (backTo p2 (starEach [b] X.env)).any (·.1) = false := by rfl)
    (nl : starEach [.Call (.Name "range" p3) [a, b] [] p2] X.env = (false, eval (.Call (.Name "range" p3) [a, b] [] p2) X.env) :: starEach [] X.env := by rfl) :
    NE X E (.Call (.Name "list" p1) [.Call (.Name "range" p3) [a, b] [] p2] [] pos) (m2 (gRg c) ma mb) :=
  ⟨pe_imp (pe_listRg hc hgl hml (prg_2 hgr hmr ha.pe hb.pe na nb hp) nl) fun s H Q q => by
    obtain ⟨B, F, r, sl, C, hr, hs, o⟩ := q
    refine ⟨B, F, r, sl, C, hr, hs, Out.bind (P := Rep X.K) o fun x C1 F1 r1 H1 v e1 e2 hr1 hx o1 => ?_⟩
    refine ⟨B, F1, r1, sl, C1, hr1, hs.mono e1 e2, Out.bind (P := Rep X.K) o1 fun y C2 F2 r2 H2 u e3 e4 hr2 hy o2 => ?_⟩
    simp only [gRg] at o2
    split at o2
    · rename_i i j ei ej
      split at o2
      · rename_i hl
        exact ⟨i, j, intOf_ok hx ei, intOf_ok hy ej, rg_ok hl, fun q hq => newL_ok hr2 (range_ok i j) o2 hq⟩
      · exact False.elim o2
    · exact False.elim o2⟩
theorem ne_listRg1 {c : Bool} (hc : X.calm = true) (hml : X.mg "list" = none) (hmr : X.mg "range" = none) (ha : NE X E a ma) (hgl : Gl X "list" := by rfl) (hgr : Gl X "range" := by rfl)
    (na : starEach [a] X.env = (false, eval a X.env) :: starEach [] X.env := by rfl)
    (nl : starEach [.Call (.Name "range" p3) [a] [] p2] X.env = (false, eval (.Call (.Name "range" p3) [a] [] p2) X.env) :: starEach [] X.env := by rfl) :
    NE X E (.Call (.Name "list" p1) [.Call (.Name "range" p3) [a] [] p2] [] pos) (m1 (gRg c (.int 0)) ma) :=
  ⟨pe_imp (pe_listRg hc hgl hml (prg_1 hgr hmr ha.pe na) nl) fun s H Q q => by
    obtain ⟨B, F, r, sl, C, hr, hs, o⟩ := q
    refine ⟨B, F, r, sl, C, hr, hs, Out.bind (P := Rep X.K) o fun x C1 F1 r1 H1 v e1 e2 hr1 hx o1 => ?_⟩
    have o1 : Out (Rep X.K) X.K X.mg E B F1 r1 (match intOf (.int 0), intOf x with
      | some i, some j => if (lowI i && lowI j) = true then newL c (rangeD i j) C1 else .no
      | _, _ => .no) Q := o1
    split at o1
    · rename_i i j ei ej
      cases ei
      split at o1
      · rename_i hl
        exact ⟨j, intOf_ok hx ej, rg_ok hl, fun q hq => newL_ok hr1 (range_ok 0 j) o1 hq⟩
      · exact False.elim o1
    · exact False.elim o1⟩
def mRep (c : Bool) (mas : MG (List D)) (mb : ME) : ME := fun sl C => (mas sl C).bind fun p => if p.1.length ≤ sizeLine then (mb sl p.2).bind fun q => match intOf q.1 with
    | some k => if lowI k = true ∧ p.1.length * k.toNat ≤ sizeLine then newL c (List.replicate k.toNat p.1).flatten q.2 else .no
    | none => .no
  else .no
theorem ne_rep {c : Bool} (ha : NA X E es mas) (hb : NE X E b mb) : NE X E (.BinOp (.List es p1) .Mult b pos) (mRep c mas mb) :=
  ⟨pe_imp (pe_op op_rep (pe_lst ha.pa) hb.pe) fun s H Q q => by
    obtain ⟨B, F, r, sl, C, hr, hs, o⟩ := q
    refine ⟨B, F, r, sl, C, hr, hs, Out.bind (P := Reps X.K) o fun x C1 F1 r1 H1 v e1 e2 hr1 hx o1 => ?_⟩
    simp only at o1
    split at o1
    · rename_i hz
      refine ⟨by rw [← hx.length]; exact hz, fun p hp => ?_⟩
      have hF := same_new (o := HO.lst v) (hr1.freeF hp)
      have hr1' := hr1.freeze (o := HO.lst v) hp
      refine ⟨B, upd F1 p (.lst v), r1, sl, C1, hr1', (hs.mono e1 e2).mono hF (.refl _), Out.bind (P := Rep X.K) (o1.mono hF (.refl _)) fun y C2 F2 r2 H2 u e3 e4 hr2 hy o2 => ?_⟩
      simp only at o2
      split at o2
      · rename_i k ek
        split at o2
        · rename_i hl
          have hk := lowI_ok hl.1
          have hx2 := hx.mono (hF.trans e3) e4
          exact ⟨p, k, v, rfl, intOf_ok hy ek, hr2.froz _ _ (e3 _ _ upd_same), by omega, by omega, by rw [← hx.length]; exact hl.2, fun q hq => newL_ok hr2 (hx2.rep k.toNat) o2 hq⟩
        · exact False.elim o2
      · exact False.elim o2
    · exact False.elim o1⟩
/-! items -/
theorem atI_ok {ds : List D} {vs : List V} {i : Int} {d : D} (h : Reps K F r ds vs) (e : atI ds i = some d) : ∃ v, atI vs i = some v ∧ Rep K F r d v := by
  unfold atI at e ⊢
  rw [← h.length]
  obtain ⟨j, e1, e2⟩ := bind_some e
  obtain ⟨v, h1, h2⟩ := h.get e2
  rw [e1]
  exact ⟨v, h1, h2⟩
def gIx (x y : D) (C : Store) : RE := match intOf y with
  | some i => match x with
    | .str z => if z.length ≤ sizeLine then match atI z.cps.toList i with
        | some c => .ok (.str ⟨#[c]⟩, C)
        | none => .no
      else .no
    | x => match (seqOf C x).bind fun ds => atI ds i with
      | some d => .ok (d, C)
      | none => .no
  | none => .no
theorem ixN_ok : OpN K mg E (rIx K) gIx := by
  intro B F r H C x y v u Q hr hx hy o
  cases ei : intOf y with
  | none => unfold gIx at o; rw [ei] at o; exact False.elim o
  | some i =>
    unfold gIx at o
    rw [ei] at o
    have hu := intOf_ok hy ei
    have sq : ∀ (o : Out (Rep K) K mg E B F r (match (seqOf C x).bind fun ds => atI ds i with
      | some d => .ok (d, C)
      | none => .no) Q), rIx K v u H Q := fun o => by
      split at o
      · rename_i d e
        obtain ⟨ds, e1, e2⟩ := bind_some e
        obtain ⟨a, vs, rfl, h2, h3⟩ := seqOf_ok hr hx e1
        obtain ⟨w, h4, h5⟩ := atI_ok h3 e2
        rcases h2 with h2 | h2
        · exact .inl ⟨a, vs, i, w, rfl, hu, h2, h4, out_ok hr h5 o⟩
        · exact .inr (.inl ⟨a, vs, i, w, rfl, hu, h2, h4, out_ok hr h5 o⟩)
      · exact False.elim o
    cases x with
    | str z =>
      have o : Out (Rep K) K mg E B F r (if z.length ≤ sizeLine then match atI z.cps.toList i with
        | some c => .ok (.str ⟨#[c]⟩, C)
        | none => .no
      else .no) Q := o
      split at o
      · rename_i hz
        split at o
        · rename_i c ec
          exact .inr (.inr ⟨z, i, c, hx, hu, hz, ec, out_ok (d := .str ⟨#[c]⟩) hr rfl o⟩)
        · exact False.elim o
      · exact False.elim o
    | _ => exact sq o
theorem ne_ix (ha : NE X E a ma) (hb : NE X E b mb) (hs : PlainIx b := by exact fun _ _ => rfl) : NE X E (.Subscript a b pos) (m2 gIx ma mb) :=
  ⟨pe_imp (pe_ix ix_seq ha.pe hb.pe hs) (two ixN_ok)⟩

/-! slices -/
def cutD (xs : List D) (lo hi : Option Int) : List D := (xs.drop (HT.sIx xs.length 0 lo)).take (HT.sIx xs.length xs.length hi - HT.sIx xs.length 0 lo)
theorem cut_ok {ds : List D} {vs : List V} (h : Reps K F r ds vs) (lo hi : Option Int) : Reps K F r (cutD ds lo hi) (cutV vs lo hi) := by
  unfold cutD cutV
  rw [h.length]
  exact (h.drop _).take _
structure NO (X : Cx) (E : XK) (e : Option Expr) (m : MG (Option Int)) : Prop where
  po : PO X e (LG (fun _ _ a b => a = b) X.K X.mg E m)
theorem po_imp {X : Cx} {e : Option Expr} {t t' : TO} (h : PO X e t) (hi : ∀ s H Q, t' s H Q → t s H Q) : PO X e t' := ⟨fun pins s σ H Q I q => h.run pins s σ H Q I (hi _ _ _ q)⟩
def oNone : MG (Option Int) := fun _ C => .ok (none, C)
def oSome (m : ME) : MG (Option Int) := fun sl C => (m sl C).bind fun p => match intOf p.1 with
  | some i => .ok (some i, p.2)
  | none => .no
theorem no_none : NO X E none oNone := ⟨po_imp po_none fun s H Q q => by
    obtain ⟨B, F, r, sl, C, hr, hs, o⟩ := q
    exact o F r H none (.refl _) (.refl _) hr rfl⟩
theorem no_some (ha : NE X E a ma) : NO X E (some a) (oSome ma) := ⟨po_imp (po_some ha.pe) fun s H Q q => by
    obtain ⟨B, F, r, sl, C, hr, hs, o⟩ := q
    refine ⟨B, F, r, sl, C, hr, hs, Out.bind (P := Rep X.K) o fun x C1 F1 r1 H1 v e1 e2 hr1 hx o1 => ?_⟩
    simp only at o1
    split at o1
    · rename_i i ei
      exact ⟨i, intOf_ok hx ei, o1 F1 r1 H1 (some i) (.refl _) (.refl _) hr1 rfl⟩
    · exact False.elim o1⟩
def gSl (c : Bool) (x : D) (lo hi : Option Int) (C : Store) : RE := match x with
  | .str z => if z.length ≤ sizeLine then .ok (.str (cutS z lo hi), C) else .no
  | x => match lstOf C x with
    | some ds => newL c (cutD ds lo hi) C
    | none => .no
def mSl (c : Bool) (ma : ME) (ml mh : MG (Option Int)) : ME := fun sl C => (ma sl C).bind fun p => (ml sl p.2).bind fun q => (mh sl q.2).bind fun t => gSl c p.1 q.1 t.1 t.2
theorem ne_sl {c : Bool} {lo hi : Option Expr} {ml mh : MG (Option Int)} (ha : NE X E a ma) (hl : NO X E lo ml) (hh : NO X E hi mh) : NE X E (.Subscript a (.Slice lo hi none p2) pos) (mSl c ma ml mh) :=
  ⟨pe_imp (pe_slice (sl_list.or sl_str) ha.pe hl.po hh.po) fun s H Q q => by
    obtain ⟨B, F, r, sl, C, hr, hs, o⟩ := q
    refine ⟨B, F, r, sl, C, hr, hs, Out.bind (P := Rep X.K) o fun x C1 F1 r1 H1 v e1 e2 hr1 hx o1 => ?_⟩
    refine ⟨B, F1, r1, sl, C1, hr1, hs.mono e1 e2, Out.bind (P := fun _ _ a b => a = b) o1 fun y C2 F2 r2 H2 u e3 e4 hr2 hy o2 => ?_⟩
    refine ⟨B, F2, r2, sl, C2, hr2, (hs.mono e1 e2).mono e3 e4, Out.bind (P := fun _ _ a b => a = b) o2 fun z C3 F3 r3 H3 w e5 e6 hr3 hz o3 => ?_⟩
    subst hy hz
    have hx3 := (hx.mono e3 e4).mono e5 e6
    have sq : ∀ (o : Out (Rep X.K) X.K X.mg E B F3 r3 (match lstOf C3 x with
      | some ds => newL c (cutD ds y z) C3
      | none => .no) Q), rSlL X.K v y z H3 Q ∨ rSlS v y z H3 Q := fun o => by
      split at o
      · rename_i ds e
        obtain ⟨a, vs, rfl, h2, h3⟩ := lstOf_ok hr3 hx3 e
        exact .inl ⟨a, vs, rfl, h2, fun p hp => newL_ok hr3 (cut_ok h3 y z) o hp⟩
      · exact False.elim o
    cases x with
    | str zz =>
      have o3 : Out (Rep X.K) X.K X.mg E B F3 r3 (if zz.length ≤ sizeLine then .ok (.str (cutS zz y z), C3) else .no) Q := o3
      split at o3
      · rename_i hl
        exact .inr ⟨zz, hx, hl, out_ok (d := .str (cutS zz y z)) hr3 rfl o3⟩
      · exact False.elim o3
    | _ => exact sq o3⟩

/-! methods of lists -/
def isL (C : Store) (x : D) : Bool := (lstOf C x).isSome
def mMt (chk : Store → D → Bool) (g : D → List D → Store → RE) (mo : ME) (mas : MG (List D)) : ME := fun sl C => (mo sl C).bind fun p => if chk p.2 p.1 = true then (mas sl p.2).bind fun q => g p.1 q.1 q.2 else .no
def ChkN (K : PySem.W.Frag) (T : String) (chk : Store → D → Bool) : Prop := ∀ (B F : Hp) (r : List Addr) (H : Hp) (C : Store) (x : D) (v : V), Rel K B F r H C → Rep K F r x v → chk C x = true → tyV K T v H
def MtN (K : PySem.W.Frag) (mg : Str → Option Value) (E : XK) (rm : V → List V → Hp → VK → Prop) (g : D → List D → Store → RE) : Prop :=
  ∀ (B F : Hp) (r : List Addr) (H : Hp) (C : Store) (x : D) (v : V) (ds : List D) (vs : List V) (Q : VK), Rel K B F r H C → Rep K F r x v → Reps K F r ds vs → Out (Rep K) K mg E B F r (g x ds C) Q → rm v vs H Q
theorem chk_list : ChkN K "list" isL := by
  intro B F r H C x v hr hx h
  unfold isL at h
  cases e : lstOf C x with
  | none => rw [e] at h; cases h
  | some ds =>
    obtain ⟨a, vs, rfl, h2, _⟩ := lstOf_ok hr hx e
    exact .inl ⟨rfl, vs, h2⟩
def isS (C : Store) (x : D) : Bool := match x with
  | .str _ => true
  | _ => false
theorem chk_str : ChkN K "str" isS := by
  intro B F r H C x v hr hx h
  cases x with
  | str s => rw [show v = V.str s from hx]; exact rfl
  | _ => cases h
theorem ne_mt {o : Expr} {name : Str} {apos cpos : Pos} {T id : String} {rm : V → List V → Hp → VK → Prop} {chk : Store → D → Bool} {g : D → List D → Store → RE} (pa : PlainAttrs T) (slot : Slot T name id)
    (hty : typeOf (.builtin id) = pure (.type "method_descriptor")) (hm : MtR X id rm) (hc : ChkN X.K T chk) (hg : MtN X.K X.mg E rm g) (ho : NE X E o mo) (ha : NA X E (e :: es) mas) (hbase : attributeBase o name X.env (eval o X.env) = eval o X.env := by rfl)
    (hfew : ((backTo cpos (starEach (e :: es) X.env)).all (fun x => !x.1) && (backToKw cpos (keywordEach [] X.env)).all (fun x => x.1.isSome)
      && decide ((e :: es).length + ([] : List Keyword).length + (if ([] : List Keyword).isEmpty then 0 else 1) < 30)) = true := by rfl)
    (hline : (apos.endLine == cpos.line) = true := by rfl) (hs : starEach (e :: es) X.env = (false, eval e X.env) :: starEach es X.env := by rfl) (hplain : (backTo cpos (starEach es X.env)).any (·.1) = false := by rfl) :
    NE X E (.Call (.Attribute o name apos) (e :: es) [] cpos) (mMt chk g mo mas) :=
  ⟨pe_imp (pe_bm pa slot hty hm ho.pe ha.pa hbase hfew hline hs hplain) fun s H Q q => by
    obtain ⟨B, F, r, sl, C, hr, hs, o⟩ := q
    refine ⟨B, F, r, sl, C, hr, hs, Out.bind (P := Rep X.K) o fun x C1 F1 r1 H1 v e1 e2 hr1 hx o1 => ?_⟩
    simp only at o1
    split at o1
    · rename_i hk
      refine ⟨hc B F1 r1 H1 C1 x v hr1 hx hk, B, F1, r1, sl, C1, hr1, hs.mono e1 e2, Out.bind (P := Reps X.K) o1 fun y C2 F2 r2 H2 u e3 e4 hr2 hy o2 => ?_⟩
      exact hg B F2 r2 H2 C2 x v y u Q hr2 (hx.mono e3 e4) hy o2
    · exact False.elim o1⟩
def mMt0 (chk : Store → D → Bool) (g : D → List D → Store → RE) (mo : ME) : ME := fun sl C => (mo sl C).bind fun p => if chk p.2 p.1 = true then g p.1 [] p.2 else .no
theorem ne_mt0 {o : Expr} {name : Str} {apos cpos : Pos} {T id : String} {rm : V → List V → Hp → VK → Prop} {chk : Store → D → Bool} {g : D → List D → Store → RE} (pa : PlainAttrs T) (slot : Slot T name id)
    (hty : typeOf (.builtin id) = pure (.type "method_descriptor")) (hm : MtR X id rm) (hc : ChkN X.K T chk) (hg : MtN X.K X.mg E rm g) (ho : NE X E o mo) (hbase : attributeBase o name X.env (eval o X.env) = eval o X.env := by rfl)
    (hline : (apos.endLine == cpos.line) = true := by rfl) : NE X E (.Call (.Attribute o name apos) [] [] cpos) (mMt0 chk g mo) :=
  ⟨pe_imp (pe_bm0 pa slot hty hm ho.pe hbase hline) fun s H Q q => by
    obtain ⟨B, F, r, sl, C, hr, hs, o⟩ := q
    refine ⟨B, F, r, sl, C, hr, hs, Out.bind (P := Rep X.K) o fun x C1 F1 r1 H1 v e1 e2 hr1 hx o1 => ?_⟩
    simp only at o1
    split at o1
    · rename_i hk
      exact ⟨hc B F1 r1 H1 C1 x v hr1 hx hk, hg B F1 r1 H1 C1 x v [] [] Q hr1 hx .nil o1⟩
    · exact False.elim o1⟩
/-- a list's cell gets other items -/
theorem setc_ok {x : D} {v : V} {i : Nat} {ds ds' : List D} {vs' : List V} {a : Addr} {d : D} {w : V} (hr : Rel K B F r H C) (e2 : r[i]? = some a) (hn : F a = none) (hd : Reps K F r ds' vs') (hw : Rep K F r d w)
    (o : Out (Rep K) K mg E B F r (.ok (d, C.set i (.lst ds'))) Q) : Q w (upd H a (.lst vs')) :=
  o F r _ w (.refl _) (.refl _) (hr.write e2 hn ⟨hn, vs', upd_same, hd⟩) hw
def gAppend (x : D) (ds : List D) (C : Store) : RE := match cellOf C x, ds with
  | some (i, xs), [y] => if xs.length < sizeLine then .ok (.non, C.set i (.lst (xs ++ [y]))) else .no
  | _, _ => .no
theorem appendN : MtN K mg E rAppend gAppend := by
  intro B F r H C x v ds vs Q hr hx hd o
  unfold gAppend at o
  split at o
  · rename_i i xs y e
    obtain ⟨a, zs, rfl, h1, h2, h3, h4⟩ := cellOf_ok hr hx e
    obtain ⟨u, w, rfl, h5, h6⟩ := hd
    cases (show w = [] from h6)
    split at o
    · rename_i hl
      exact ⟨a, zs, u, rfl, rfl, h3, by rw [← h4.length]; exact hl, setc_ok (x := x) (v := .non) (ds := xs) (d := .non) hr h1 h2 (h4.append (.one h5)) rfl o⟩
    · exact False.elim o
  · exact False.elim o
def gReverse (x : D) (ds : List D) (C : Store) : RE := match cellOf C x, ds with
  | some (i, xs), [] => .ok (.non, C.set i (.lst xs.reverse))
  | _, _ => .no
theorem reverseN : MtN K mg E rReverse gReverse := by
  intro B F r H C x v ds vs Q hr hx hd o
  unfold gReverse at o
  split at o
  · rename_i i xs e
    obtain ⟨a, zs, rfl, h1, h2, h3, h4⟩ := cellOf_ok hr hx e
    cases (show vs = [] from hd)
    exact ⟨a, zs, rfl, rfl, h3, setc_ok (x := x) (v := .non) (ds := xs) (d := .non) hr h1 h2 h4.reverse rfl o⟩
  · exact False.elim o
def gClear (x : D) (ds : List D) (C : Store) : RE := match cellOf C x, ds with
  | some (i, xs), [] => .ok (.non, C.set i (.lst []))
  | _, _ => .no
theorem clearN : MtN K mg E rClear gClear := by
  intro B F r H C x v ds vs Q hr hx hd o
  unfold gClear at o
  split at o
  · rename_i i xs e
    obtain ⟨a, zs, rfl, h1, h2, h3, h4⟩ := cellOf_ok hr hx e
    cases (show vs = [] from hd)
    exact ⟨a, zs, rfl, rfl, h3, setc_ok (x := x) (v := .non) (ds := xs) (ds' := []) (d := .non) hr h1 h2 .nil rfl o⟩
  · exact False.elim o
def gPop (x : D) (ds : List D) (C : Store) : RE := match cellOf C x, ds with
  | some (i, xs), [] => match xs[xs.length - 1]? with
    | some y => .ok (y, C.set i (.lst xs.dropLast))
    | none => .no
  | some (i, xs), [.int k] => if lowI k = true then match seqIndex? k xs.length with
      | some j => match xs[j]? with
        | some y => .ok (y, C.set i (.lst (xs.eraseIdx j)))
        | none => .no
      | none => .no
    else .no
  | _, _ => .no
theorem popN : MtN K mg E (fun x vs H Q => rPop x vs H Q ∨ rPopAt x vs H Q) gPop := by
  intro B F r H C x v ds vs Q hr hx hd o
  unfold gPop at o
  split at o
  · rename_i i xs e
    obtain ⟨a, zs, rfl, h1, h2, h3, h4⟩ := cellOf_ok hr hx e
    cases (show vs = [] from hd)
    split at o
    · rename_i y ey
      obtain ⟨w, h5, h6⟩ := h4.get ey
      exact .inl ⟨a, zs, w, rfl, rfl, h3, by rw [← h4.length]; exact h5, setc_ok (x := x) (v := .non) (ds := xs) hr h1 h2 h4.dropLast h6 o⟩
    · exact False.elim o
  · rename_i i xs k e
    obtain ⟨a, zs, rfl, h1, h2, h3, h4⟩ := cellOf_ok hr hx e
    obtain ⟨u, w, rfl, h5, h6⟩ := hd
    cases (show w = [] from h6)
    split at o
    · rename_i hk
      have hk := lowI_ok hk
      split at o
      · rename_i j ej
        split at o
        · rename_i y ey
          obtain ⟨w, h7, h8⟩ := h4.get ey
          exact .inr ⟨a, zs, k, j, w, rfl, by rw [show u = V.int k from h5], h3, by omega, by omega, by rw [← h4.length]; exact ej, h7, setc_ok (x := x) (v := .non) (ds := xs) hr h1 h2 (h4.eraseIdx j) h8 o⟩
        · exact False.elim o
      · exact False.elim o
    · exact False.elim o
  · exact False.elim o
theorem mt_pop2 : MtR X "list.pop" (fun x vs H Q => rPop x vs H Q ∨ rPopAt x vs H Q) := MtR.or (id := "list.pop") mt_pop mt_popAt
end
end Nv

namespace Nv
open PySem PySem.Spec PyProof.Rows L2

/-! statements -/
inductive Fl where
  | nx
  | rt (d : D)
  | bk
  | ct
abbrev RS := R ((Fl × Sl) × Store)
abbrev MS := Sl → Store → RS
def EndOk (K : PySem.W.Frag) (De : Ends) (F : Hp) (r : List Addr) (H : Hp) (sl : Sl) : Fl → Prop
  | .nx => ∀ s, Sls K F r sl s → De.nx s H
  | .bk => ∀ s, Sls K F r sl s → De.bk s H
  | .ct => ∀ s, Sls K F r sl s → De.ct s H
  | .rt d => ∀ v, Rep K F r d v → De.rt v H
def OutS (K : PySem.W.Frag) (mg : Str → Option Value) (E : XK) (B F : Hp) (r : List Addr) (o : RS) (De : Ends) : Prop :=
  match o with
  | .ok (p, C) => ∀ (F' : Hp) (r' : List Addr) (H' : Hp), Same F F' → Ex r r' → Rel K B F' r' H' C → EndOk K De F' r' H' p.2 p.1
  | .ex x C => XOk K mg E B F r x C
  | .no => False
def LS (K : PySem.W.Frag) (mg : Str → Option Value) (E : XK) (m : MS) : TS := fun De s H =>
  ∃ B F r sl C, Rel K B F r H C ∧ Sls K F r sl s ∧ OutS K mg E B F r (m sl C) De
structure NS (X : Cx) (E : XK) (st : Stmt) (m : MS) : Prop where
  ps : PS X st (LS X.K X.mg E m)
structure NSs (X : Cx) (E : XK) (st : List Stmt) (m : MS) : Prop where
  ps : PSs X st (LS X.K X.mg E m)
theorem ps_imp {X : Cx} {st : Stmt} {t t' : TS} (h : PS X st t) (hi : ∀ De s H, t' De s H → t De s H) : PS X st t' := ⟨fun pins s σ H De I q => h.run pins s σ H De I (hi _ _ _ q)⟩
theorem pss_imp {X : Cx} {st : List Stmt} {t t' : TS} (h : PSs X st t) (hi : ∀ De s H, t' De s H → t De s H) : PSs X st t' := ⟨fun pins s σ H De I q => h.run pins s σ H De I (hi _ _ _ q)⟩
section
variable {K : PySem.W.Frag} {mg : Str → Option Value} {E : XK} {B F F1 : Hp} {r r1 : List Addr} {H : Hp} {C : Store} {De : Ends} {s : L2.St} {sl : Sl}
theorem OutS.mono {o : RS} (h : OutS K mg E B F r o De) (hF : Same F F1) (hr : Ex r r1) : OutS K mg E B F1 r1 o De := by
  cases o with
  | ok p => exact fun F' r' H' h1 h2 h3 => h F' r' H' (hF.trans h1) (hr.trans h2) h3
  | ex x C => exact XOk.mono h hF hr
  | no => exact h
/-- an expression first -/
theorem OutS.bind {S T : Type} {P : PR S T} {o : R (S × Store)} {k : S × Store → RS} {Q : T → Hp → Prop} (h : OutS K mg E B F r (o.bind k) De)
    (hk : ∀ (a : S) (C1 : Store) (F1 : Hp) (r1 : List Addr) (H1 : Hp) (b : T), Same F F1 → Ex r r1 → Rel K B F1 r1 H1 C1 → P F1 r1 a b → OutS K mg E B F1 r1 (k (a, C1)) De → Q b H1) : Out P K mg E B F r o Q := by
  cases o with
  | ok p =>
    obtain ⟨a, C1⟩ := p
    exact fun F' r' H' b h1 h2 h3 h4 => hk a C1 F' r' H' b h1 h2 h3 h4 (OutS.mono h h1 h2)
  | ex x C => exact h
  | no => exact h
theorem OutS.next (h : OutS K mg E B F r (.ok ((.nx, sl), C)) De) (hr : Rel K B F r H C) (hs : Sls K F r sl s) : De.nx s H := h F r H (.refl _) (.refl _) hr s hs
variable {X : Cx} {st : Stmt} {rest : List Stmt} {e a b c : Expr} {m ma mb : ME} {mt : MG Bool} {u u1 u2 : MS} {pos p1 p2 : Pos}
def sNil : MS := fun sl C => .ok ((.nx, sl), C)
def sSeq (u1 u2 : MS) : MS := fun sl C => (u1 sl C).bind fun p => match p.1.1 with
  | .nx => u2 p.1.2 p.2
  | _ => .ok p
theorem nss_nil : NSs X E [] sNil := ⟨pss_imp pss_nil fun De s H q => by
    obtain ⟨B, F, r, sl, C, hr, hs, o⟩ := q
    exact OutS.next o hr hs⟩
theorem nss_cons (h1 : NS X E st u1) (h2 : NSs X E rest u2) : NSs X E (st :: rest) (sSeq u1 u2) := ⟨pss_imp (pss_cons h1.ps h2.ps) fun De s H q => by
    obtain ⟨B, F, r, sl, C, hr, hs, o⟩ := q
    refine ⟨B, F, r, sl, C, hr, hs, ?_⟩
    unfold sSeq at o
    cases hu : u1 sl C with
    | ok p =>
      obtain ⟨⟨f, sl1⟩, C1⟩ := p
      rw [hu, R.bind_ok] at o
      intro F' r' H' k1 k2 k3
      cases f with
      | nx => exact fun s' hs' => ⟨B, F', r', sl1, C1, k3, hs', OutS.mono o k1 k2⟩
      | rt d => exact fun v hv => o F' r' H' k1 k2 k3 v hv
      | bk => exact fun s' hs' => o F' r' H' k1 k2 k3 s' hs'
      | ct => exact fun s' hs' => o F' r' H' k1 k2 k3 s' hs'
    | ex x Cx => rw [hu] at o; exact o
    | no => rw [hu] at o; exact o⟩
theorem nss_one (h1 : NS X E st u1) : NSs X E [st] u1 := ⟨pss_one h1.ps⟩
def sBk : MS := fun sl C => .ok ((.bk, sl), C)
def sCt : MS := fun sl C => .ok ((.ct, sl), C)
theorem ns_pass : NS X E (.Pass pos) sNil := ⟨ps_imp ps_pass fun De s H q => by
    obtain ⟨B, F, r, sl, C, hr, hs, o⟩ := q
    exact OutS.next o hr hs⟩
theorem ns_doc {x : Str} {j : Nat} : NS X E (.Expr (.Constant (.str x) j p1) pos) sNil := ⟨ps_imp ps_doc fun De s H q => by
    obtain ⟨B, F, r, sl, C, hr, hs, o⟩ := q
    exact OutS.next o hr hs⟩
theorem ns_break : NS X E (.Break pos) sBk := ⟨ps_imp ps_break fun De s H q => by
    obtain ⟨B, F, r, sl, C, hr, hs, o⟩ := q
    exact o F r H (.refl _) (.refl _) hr s hs⟩
theorem ns_continue : NS X E (.Continue pos) sCt := ⟨ps_imp ps_continue fun De s H q => by
    obtain ⟨B, F, r, sl, C, hr, hs, o⟩ := q
    exact o F r H (.refl _) (.refl _) hr s hs⟩
def sDrop (m : ME) : MS := fun sl C => (m sl C).bind fun p => .ok ((.nx, sl), p.2)
theorem ns_expr (he : NE X E e m) (hs : swapsWith e none pos.line X.env = pure false := by rfl) : NS X E (.Expr e pos) (sDrop m) := ⟨ps_imp (ps_expr he.pe hs) fun De s H q => by
    obtain ⟨B, F, r, sl, C, hr, hs, o⟩ := q
    refine ⟨B, F, r, sl, C, hr, hs, OutS.bind (P := Rep X.K) o fun x C1 F1 r1 H1 v e1 e2 hr1 hx o1 => ?_⟩
    exact OutS.next o1 hr1 (hs.mono e1 e2)⟩
def sRet (m : ME) : MS := fun sl C => (m sl C).bind fun p => .ok ((.rt p.1, sl), p.2)
theorem ns_ret (he : NE X E e m) : NS X E (.Return (some e) pos) (sRet m) := ⟨ps_imp (ps_ret he.pe) fun De s H q => by
    obtain ⟨B, F, r, sl, C, hr, hs, o⟩ := q
    refine ⟨B, F, r, sl, C, hr, hs, OutS.bind (P := Rep X.K) o fun x C1 F1 r1 H1 v e1 e2 hr1 hx o1 => ?_⟩
    exact o1 F1 r1 H1 (.refl _) (.refl _) hr1 v hx⟩
def sRetN : MS := fun sl C => .ok ((.rt .non, sl), C)
theorem ns_retN : NS X E (.Return none pos) sRetN := ⟨ps_imp ps_retN fun De s H q => by
    obtain ⟨B, F, r, sl, C, hr, hs, o⟩ := q
    exact o F r H (.refl _) (.refl _) hr .non rfl⟩
def sIf (t : MG Bool) (u1 u2 : MS) : MS := fun sl C => (t sl C).bind fun p => if p.1 = true then u1 sl p.2 else u2 sl p.2
theorem ns_if {xs ys : List Stmt} (hc : NT X E c mt) (ha : NSs X E xs u1) (hb : NSs X E ys u2) : NS X E (.If c xs ys pos) (sIf mt u1 u2) := ⟨ps_imp (ps_if hc.pt ha.ps hb.ps) fun De s H q => by
    obtain ⟨B, F, r, sl, C, hr, hs, o⟩ := q
    refine ⟨B, F, r, sl, C, hr, hs, OutS.bind (P := PB) o fun x C1 F1 r1 H1 v e1 e2 hr1 hx o1 => ?_⟩
    subst hx
    cases x with
    | true =>
      rw [if_pos rfl] at o1 ⊢
      exact ⟨B, F1, r1, sl, C1, hr1, hs.mono e1 e2, o1⟩
    | false =>
      rw [if_neg Bool.false_ne_true] at o1 ⊢
      exact ⟨B, F1, r1, sl, C1, hr1, hs.mono e1 e2, o1⟩⟩
/-- code that is not reached -/
def sNo : MS := fun _ _ => .no
theorem ns_never : NS X E st sNo := ⟨ps_imp ps_never fun De s H q => by
    obtain ⟨B, F, r, sl, C, hr, hs, o⟩ := q
    exact o⟩

/-! targets -/
abbrev MT := D → Sl → Store → R (Sl × Store)
def LT (own : List Nat) (K : PySem.W.Frag) (mg : Str → Option Value) (E : XK) (g : MT) : TG := fun v s H Q =>
  ∃ B F r sl C d, Rel K B F r H C ∧ Sls K F r sl s ∧ Rep K F r d v ∧ Out (fun F' r' sl' s' => Sls K F' r' sl' s' ∧ wipe s' own = wipe s own) K mg E B F r (g d sl C) Q
def LTs (own : List Nat) (K : PySem.W.Frag) (mg : Str → Option Value) (E : XK) (g : List D → Sl → Store → R (Sl × Store)) : TGs := fun vs s H Q =>
  ∃ B F r sl C ds, Rel K B F r H C ∧ Sls K F r sl s ∧ Reps K F r ds vs ∧ Out (fun F' r' sl' s' => Sls K F' r' sl' s' ∧ wipe s' own = wipe s own) K mg E B F r (g ds sl C) Q
structure NG (X : Cx) (E : XK) (own : List Nat) (tg : Expr) (g : MT) : Prop where
  pg : PG X tg (LT own X.K X.mg E g)
structure NGs (X : Cx) (E : XK) (own : List Nat) (tgs : List Expr) (g : List D → Sl → Store → R (Sl × Store)) : Prop where
  pg : PGs X tgs (LTs own X.K X.mg E g)
theorem pg_imp {tg : Expr} {t t' : TG} (h : PG X tg t) (hi : ∀ v s H Q, t' v s H Q → t v s H Q) : PG X tg t' := ⟨fun pins s σ H v w Q I rv q => h.run pins s σ H v w Q I rv (hi _ _ _ _ q)⟩
theorem pgs_imp {tg : List Expr} {t t' : TGs} (h : PGs X tg t) (hi : ∀ v s H Q, t' v s H Q → t v s H Q) : PGs X tg t' := ⟨fun pins s σ H v w Q I rv q => h.run pins s σ H v w Q I rv (hi _ _ _ _ q)⟩
theorem wipe_set {σ : L2.St} {i : Nat} {v : Option V} : ∀ {own : List Nat}, i ∈ own → wipe (σ.set i v) own = wipe σ own
  | j :: own, h => by
    unfold wipe
    by_cases hj : i ∈ own
    · rw [wipe_set hj]
    · have e : i = j := (List.mem_cons.mp h).resolve_right hj
      subst e
      clear h
      have key : ∀ own : List Nat, i ∉ own → wipe (σ.set i v) own = (wipe σ own).set i v := by
        intro own
        induction own with
        | nil => intro _; rfl
        | cons k own ih =>
          intro hk
          have h1 : i ≠ k := fun z => hk (z ▸ List.mem_cons_self)
          have h2 : i ∉ own := fun z => hk (List.mem_cons_of_mem _ z)
          unfold wipe
          rw [ih h2, List.set_comm _ _ h1]
      rw [key own hj, List.set_set]
theorem Sls.set (hs : Sls K F r sl s) {d : D} {v : V} (hd : Rep K F r d v) (i : Nat) : Sls K F r (sl.set i (some d)) (s.set i (some v)) := by
  refine ⟨by simp [hs.1], fun j d' e => ?_⟩
  by_cases hj : i = j
  · subst hj
    have hi : i < sl.length := by
      have := (List.getElem?_eq_some_iff.mp e).1
      simpa using this
    rw [List.getElem?_set_self hi] at e
    cases e
    exact ⟨v, List.getElem?_set_self (by rw [hs.1]; exact hi), hd⟩
  · rw [List.getElem?_set_ne hj] at e ⊢
    exact hs.2 j d' e
def gmN (i : Nat) : MT := fun d sl C => .ok (sl.set i (some d), C)
theorem ng_name {own : List Nat} (i : Nat) {x : Str} (hi : i ∈ own) (hN : X.N.Nodup) (hx : X.N[i]? = some x) (hl : Loc X.env.scope x) (hf : X.fn x = true ∨ X.env.scope.names.lookup x = some .local := by first | exact .inl rfl | exact .inr rfl) : NG X E own (.Name x pos) (gmN i) :=
  ⟨pg_imp (pg_name hN hx hl hf) fun v s H Q q => by
    obtain ⟨B, F, r, sl, C, d, hr, hs, hd, o⟩ := q
    exact o F r H (s.set i (some v)) (.refl _) (.refl _) hr ⟨hs.set hd i, wipe_set hi⟩⟩
def gmNil : List D → Sl → Store → R (Sl × Store) := fun ds sl C => match ds with
  | [] => .ok (sl, C)
  | _ => .no
def gmCons (g : MT) (gs : List D → Sl → Store → R (Sl × Store)) : List D → Sl → Store → R (Sl × Store) := fun ds sl C => match ds with
  | d :: ds => (g d sl C).bind fun p => gs ds p.1 p.2
  | [] => .no
theorem ngs_nil {own : List Nat} : NGs X E own [] gmNil := ⟨pgs_imp pgs_nil fun v s H Q q => by
    obtain ⟨B, F, r, sl, C, ds, hr, hs, hd, o⟩ := q
    cases ds with
    | nil => exact ⟨hd, o F r H s (.refl _) (.refl _) hr ⟨hs, rfl⟩⟩
    | cons d ds => exact False.elim o⟩
theorem ngs_cons {own : List Nat} {tg : Expr} {tgs : List Expr} {g : MT} {gs : List D → Sl → Store → R (Sl × Store)} (h1 : NG X E own tg g) (h2 : NGs X E own tgs gs)
    (hs : (assignEach (tg :: tgs) X.env).map (·.2) = assign tg X.env :: (assignEach tgs X.env).map (·.2) := by rfl) : NGs X E own (tg :: tgs) (gmCons g gs) := ⟨pgs_imp (pgs_cons h1.pg h2.pg hs) fun vs s H Q q => by
    obtain ⟨B, F, r, sl, C, ds, hr, hs, hd, o⟩ := q
    cases ds with
    | nil => exact False.elim o
    | cons d ds =>
      obtain ⟨v, w, rfl, k1, k2⟩ := hd
      refine ⟨v, w, rfl, B, F, r, sl, C, d, hr, hs, k1, ?_⟩
      refine Out.bind (P := fun F' r' sl' s' => Sls X.K F' r' sl' s' ∧ wipe s' own = wipe s own) o fun sl1 C1 F1 r1 H1 s1 e1 e2 hr1 hs1 o1 => ?_
      refine ⟨B, F1, r1, sl1, C1, ds, hr1, hs1.1, k2.mono e1 e2, ?_⟩
      cases o2 : gs ds sl1 C1 with
      | ok p =>
        simp only at o1
        rw [o2] at o1
        exact fun F' r' H' s' z1 z2 z3 z4 => o1 F' r' H' s' z1 z2 z3 ⟨z4.1, z4.2.trans hs1.2⟩
      | ex x Cx => simp only at o1; rw [o2] at o1; exact o1
      | no => simp only at o1; rw [o2] at o1; exact o1⟩
/-- (a, b, ..) = a tuple -/
def gmTup (n : Nat) (gs : List D → Sl → Store → R (Sl × Store)) : MT := fun d sl C => match tupOf d with
  | some ds => if ds.length = n then gs ds sl C else .no
  | none => .no
theorem ng_tup {own : List Nat} {tgs : List Expr} {k n : Nat} {gs : List D → Sl → Store → R (Sl × Store)} (hc : X.calm = true) (h : NGs X E own tgs gs) (hn : (assignEach tgs X.env).length = n := by rfl)
    (hst : (assignEach tgs X.env).findIdx? (·.1) = none := by rfl) : NG X E own (.Tuple tgs k pos) (gmTup n gs) := ⟨pg_imp (pg_tup hc h.pg hn hst) fun v s H Q q => by
    obtain ⟨B, F, r, sl, C, d, hr, hs, hd, o⟩ := q
    unfold gmTup at o
    split at o
    · rename_i ds e
      split at o
      · rename_i hl
        obtain ⟨a, vs, rfl, h2, h3⟩ := tupOf_ok hr hd e
        exact ⟨a, vs, rfl, h2, by rw [← h3.length]; exact hl, B, F, r, sl, C, ds, hr, hs, h3, o⟩
      · exact False.elim o
    · exact False.elim o⟩
/-- x[i] = .. of a list's cell -/
def gSet (o i d : D) (C : Store) : R (Unit × Store) := match cellOf C o, intOf i with
  | some (k, xs), some j => match ixN xs.length j with
    | some n => .ok ((), C.set k (.lst (xs.set n d)))
    | none => .no
  | _, _ => .no
def gmSub (mo mi : ME) : MT := fun d sl C => (mo sl C).bind fun p => (mi sl p.2).bind fun q => (gSet p.1 q.1 d q.2).bind fun t => .ok (sl, t.2)
theorem ng_sub {own : List Nat} {o i : Expr} {mo mi : ME} (ho : NE X E o mo) (hi : NE X E i mi)
    (ha : ∀ v, assign (.Subscript o i pos) X.env v = (do
      let ov ← holding [v] (eval o X.env)
      let iv ← holding [v, ov] (eval i X.env)
      standAt pos
      holding [v, ov, iv] (setItem ov iv v)
      release [v, ov, iv] []) := by intro _; rfl) : NG X E own (.Subscript o i pos) (gmSub mo mi) := ⟨pg_imp (pg_sub ho.pe hi.pe set_list ha) fun v s H Q q => by
    obtain ⟨B, F, r, sl, C, d, hr, hs, hd, o⟩ := q
    refine ⟨B, F, r, sl, C, hr, hs, Out.bind (P := Rep X.K) o fun x C1 F1 r1 H1 w e1 e2 hr1 hx o1 => ?_⟩
    refine ⟨B, F1, r1, sl, C1, hr1, hs.mono e1 e2, Out.bind (P := Rep X.K) o1 fun y C2 F2 r2 H2 z e3 e4 hr2 hy o2 => ?_⟩
    have hx2 := hx.mono e3 e4
    have hd2 := (hd.mono e1 e2).mono e3 e4
    have hs2 := (hs.mono e1 e2).mono e3 e4
    simp only [gSet] at o2
    split at o2
    · rename_i k xs j ek ej
      obtain ⟨a, vs, rfl, h1, h2, h3, h4⟩ := cellOf_ok hr2 hx2 ek
      split at o2
      · rename_i n en
        refine ⟨a, vs, j, n, rfl, intOf_ok hy ej, h3, by rw [← h4.length]; exact en, ?_⟩
        exact o2 F2 r2 _ s (.refl _) (.refl _) (hr2.write h1 h2 ⟨h2, _, upd_same, Reps.set hd2 n h4⟩) ⟨hs2, rfl⟩
      · exact False.elim o2
    · exact False.elim o2⟩
/-! assignments -/
def sAsg (m : ME) (g : MT) : MS := fun sl C => (m sl C).bind fun p => (g p.1 sl p.2).bind fun q => .ok ((.nx, q.1), q.2)
theorem asg_ok {own : List Nat} {g : MT} : ∀ De s H, LS X.K X.mg E (sAsg m g) De s H → tAsg (LG (Rep X.K) X.K X.mg E m) (LT own X.K X.mg E g) De s H := fun De s H q => by
    obtain ⟨B, F, r, sl, C, hr, hs, o⟩ := q
    refine ⟨B, F, r, sl, C, hr, hs, OutS.bind (P := Rep X.K) o fun x C1 F1 r1 H1 v e1 e2 hr1 hx o1 => ?_⟩
    refine ⟨B, F1, r1, sl, C1, x, hr1, hs.mono e1 e2, hx, OutS.bind (P := fun F' r' sl' s' => Sls X.K F' r' sl' s' ∧ wipe s' own = wipe s own) o1 fun sl2 C2 F2 r2 H2 s2 e3 e4 hr2 hs2 o2 => ?_⟩
    exact OutS.next o2 hr2 hs2.1
theorem ns_asg {own : List Nat} {tg : Expr} {g : MT} (he : NE X E e m) (hg : NG X E own tg g) (hs : swapsWithSole [tg] e pos.line X.env = pure false := by rfl) (hw : swappedStores [tg] e X.env = pure none := by rfl)
    (h1 : (assignEach [tg] X.env).map (·.2) = [assign tg X.env] := by rfl) : NS X E (.Assign [tg] e pos) (sAsg m g) := ⟨ps_imp (ps_asg he.pe hg.pg hs hw h1) asg_ok⟩
theorem ns_set (i : Nat) {x : Str} (hN : X.N.Nodup) (hx : X.N[i]? = some x) (hl : Loc X.env.scope x) (he : NE X E e m) (hs : swapsWith e (some (.Name x p1)) pos.line X.env = pure false := by rfl)
    (hf : X.fn x = true ∨ X.env.scope.names.lookup x = some .local := by first | exact .inl rfl | exact .inr rfl) : NS X E (.Assign [.Name x p1] e pos) (sAsg m (gmN i)) :=
  ⟨ps_imp (ps_set hN hx hl he.pe hs hf) fun De s H q => by
    obtain ⟨B, F, r, sl, C, hr, hs, o⟩ := q
    refine ⟨B, F, r, sl, C, hr, hs, OutS.bind (P := Rep X.K) o fun x C1 F1 r1 H1 v e1 e2 hr1 hx o1 => ?_⟩
    exact OutS.next o1 hr1 ((hs.mono e1 e2).set hx i)⟩
def sPar (i j : Nat) (mas : MG (List D)) : MS := fun sl C => (mas sl C).bind fun p => match p.1 with
  | [x, y] => .ok ((.nx, (sl.set i (some x)).set j (some y)), p.2)
  | _ => .no
theorem ns_par (i j : Nat) {x y : Str} {px py pt pt2 : Pos} {kt k2 : Nat} {mas : MG (List D)} (hc : X.calm = true) (hN : X.N.Nodup) (hi : X.N[i]? = some x) (hj : X.N[j]? = some y) (hij : i ≠ j) (hx : X.env.scope.names.lookup x = some .local)
    (hy : X.env.scope.names.lookup y = some .local) (ha : NA X E [a, b] mas) (hw : swappedStores [.Tuple [.Name x px, .Name y py] kt pt] (.Tuple [a, b] k2 pt2) X.env = pure (some [x, y]))
    (hs : swapsWithSole [.Tuple [.Name x px, .Name y py] kt pt] (.Tuple [a, b] k2 pt2) pos.line X.env = pure false := by rfl) : NS X E (.Assign [.Tuple [.Name x px, .Name y py] kt pt] (.Tuple [a, b] k2 pt2) pos) (sPar i j mas) :=
  ⟨ps_imp (ps_par hc hN hi hj hij hx hy ha.pa hw hs) fun De s H q => by
    obtain ⟨B, F, r, sl, C, hr, hs, o⟩ := q
    refine ⟨B, F, r, sl, C, hr, hs, OutS.bind (P := Reps X.K) o fun ds C1 F1 r1 H1 vs e1 e2 hr1 hx o1 => ?_⟩
    simp only at o1
    split at o1
    · rename_i d1 d2
      obtain ⟨v, w, rfl, h1, v2, w2, rfl, h2, h3⟩ := hx
      cases (show w2 = [] from h3)
      exact ⟨v, v2, rfl, OutS.next o1 hr1 (((hs.mono e1 e2).set h1 i).set h2 j)⟩
    · exact False.elim o1⟩
/-- name op= e -/
def sAug (i : Nat) (g : D → D → Store → RE) (m : ME) : MS := fun sl C => match sl[i]? with
  | some (some x) => (m sl C).bind fun p => (g x p.1 p.2).bind fun q => .ok ((.nx, sl.set i (some q.1)), q.2)
  | _ => .no
theorem ns_aug (i : Nat) {x : Str} {op : Operator} {ti : TIp} {g : D → D → Store → RE} (hN : X.N.Nodup) (hx : X.N[i]? = some x) (hl : Loc X.env.scope x) (he : NE X E e m) (ho : PIp X op ti) (hg : OpN X.K X.mg E ti g)
    (hf : X.fn x = true ∨ X.env.scope.names.lookup x = some .local := by first | exact .inl rfl | exact .inr rfl) : NS X E (.AugAssign (.Name x p1) op e pos) (sAug i g m) :=
  ⟨ps_imp (ps_aug hN hx hl he.pe ho hf) fun De s H q => by
    obtain ⟨B, F, r, sl, C, hr, hs, o⟩ := q
    unfold sAug at o
    split at o
    · rename_i d ed
      obtain ⟨v, e1, e2⟩ := hs.2 i d ed
      refine ⟨v, e1, B, F, r, sl, C, hr, hs, OutS.bind (P := Rep X.K) o fun y C1 F1 r1 H1 w k1 k2 hr1 hy o1 => ?_⟩
      refine hg B F1 r1 H1 C1 d y v w _ hr1 (e2.mono k1 k2) hy (OutS.bind (P := Rep X.K) o1 fun z C2 F2 r2 H2 t k3 k4 hr2 hz o2 => ?_)
      exact OutS.next o2 hr2 (((hs.mono k1 k2).mono k3 k4).set hz i)
    · exact False.elim o⟩
end
end Nv

namespace Nv
open PySem PySem.Spec PyProof.Rows L2

/-! what is walked -/
abbrev Gd := List (Nat × List D)
/-- the things walked; live cells that must stay as they are -/
abbrev Wk := List D × Gd
def okG (g : Gd) (C : Store) : Prop := ∀ p ∈ g, C[p.1]? = some (Cell.lst p.2)
theorem okG_nil (C : Store) : okG [] C := fun p h => nomatch h
structure WalkN (K : PySem.W.Frag) (B : Hp) (J : It) (F : Hp) (r : List Addr) (k : Wk) : Prop where
  goes : ∀ (i : Nat) (F1 : Hp) (r1 : List Addr) (H : Hp) (C : Store), i < k.1.length → Same F F1 → Ex r r1 → Rel K B F1 r1 H C → okG k.2 C → J.go i H
  stops : ∀ (F1 : Hp) (r1 : List Addr) (H : Hp) (C : Store), Same F F1 → Ex r r1 → Rel K B F1 r1 H C → okG k.2 C → J.stop k.1.length H
  yields : ∀ (i : Nat) (d : D) (F1 : Hp) (r1 : List Addr) (H : Hp) (C : Store) (x : V) (H' : Hp), k.1[i]? = some d → Same F F1 → Ex r r1 → Rel K B F1 r1 H C → okG k.2 C → J.yld i H x H' →
    ∃ F2, Same F1 F2 ∧ Rel K B F2 r1 H' C ∧ Rep K F2 r1 d x
abbrev MI := Sl → Store → R (Wk × Store)
/-- B may grow meanwhile (a list that a comprehension makes) -/
def WalkB (K : PySem.W.Frag) (B : Hp) (J : It) (F : Hp) (r : List Addr) (k : Wk) : Prop := ∀ B', Same B B' → WalkN K B' J F r k
def LI (K : PySem.W.Frag) (mg : Str → Option Value) (E : XK) (m : MI) : TI := fun s H Q =>
  ∃ B F r sl C, Rel K B F r H C ∧ Sls K F r sl s ∧ Out (fun F' r' k J => ∀ B', WalkN K B' J F' r' k) K mg E B F r (m sl C) Q
structure NI (X : Cx) (E : XK) (tg it : Expr) (m : MI) : Prop where
  pi : PI X tg it (LI X.K X.mg E m)
theorem pi_imp {X : Cx} {tg it : Expr} {t t' : TI} (h : PI X tg it t) (hi : ∀ s H Q, t' s H Q → t s H Q) : PI X tg it t' := ⟨fun pins s σ H Q I q => h.run pins s σ H Q I (hi _ _ _ q)⟩
def StayL (K : PySem.W.Frag) (F : Hp) (r : List Addr) (a : Addr) (ds : List D) (g : Gd) : Prop :=
  ∀ (B F1 : Hp) (r1 : List Addr) (H : Hp) (C : Store), Same F F1 → Ex r r1 → Rel K B F1 r1 H C → okG g C → ∃ ws, SqL K H a ws ∧ Reps K F1 r1 ds ws
def StayT (K : PySem.W.Frag) (F : Hp) (r : List Addr) (a : Addr) (ds : List D) : Prop :=
  ∀ (B F1 : Hp) (r1 : List Addr) (H : Hp) (C : Store), Same F F1 → Ex r r1 → Rel K B F1 r1 H C → ∃ ws, SqT K H a ws ∧ Reps K F1 r1 ds ws
def pairs (xs ys : List D) : List D := List.zipWith (fun x y => D.tup [x, y]) xs ys
def enumD (k : Nat) : List D → List D
  | [] => []
  | x :: xs => .tup [.int k, x] :: enumD (k + 1) xs
theorem enumD_length : ∀ (xs : List D) (k : Nat), (enumD k xs).length = xs.length
  | [], _ => rfl
  | x :: xs, k => by simp [enumD, enumD_length xs (k + 1)]
theorem enumD_get : ∀ (xs : List D) (k i : Nat), (enumD k xs)[i]? = (xs[i]?).map fun x => D.tup [.int ((k + i : Nat) : Int), x]
  | [], _, _ => by simp [enumD]
  | x :: xs, k, 0 => by simp [enumD]
  | x :: xs, k, i + 1 => by
    simp only [enumD, List.getElem?_cons_succ, enumD_get xs (k + 1) i]
    rw [show k + 1 + i = k + (i + 1) by omega]
section
variable {K : PySem.W.Frag} {mg : Str → Option Value} {E : XK} {B F F1 : Hp} {r r1 : List Addr} {H : Hp} {C : Store} {De : Ends} {s : L2.St} {sl : Sl}
variable {X : Cx} {st : Stmt} {rest : List Stmt} {e a b c tg it : Expr} {m ma mb : ME} {mt : MG Bool} {u u1 u2 : MS} {pos p1 p2 tpos : Pos} {mas : MG (List D)} {elts : List Expr} {kk : Nat}
theorem walk_l {a : Addr} {ds : List D} {g : Gd} (h : StayL K F r a ds g) : WalkN K B (Itl K a) F r (ds, g) where
  goes := fun i F1 r1 H C hi e1 e2 hr hg => by
    obtain ⟨ws, h1, h2⟩ := h B F1 r1 H C e1 e2 hr hg
    have hi : i < ws.length := by rw [← h2.length]; exact hi
    exact ⟨ws, ws[i], h1, List.getElem?_eq_getElem hi⟩
  stops := fun F1 r1 H C e1 e2 hr hg => by
    obtain ⟨ws, h1, h2⟩ := h B F1 r1 H C e1 e2 hr hg
    exact ⟨ws, h1, Nat.le_of_eq h2.length.symm⟩
  yields := fun i d F1 r1 H C x H' ed e1 e2 hr hg y => by
    obtain ⟨ws, h1, h2⟩ := h B F1 r1 H C e1 e2 hr hg
    obtain ⟨rfl, y⟩ := y
    obtain ⟨v, h3, h4⟩ := h2.get ed
    have ex := y ws h1
    rw [h3] at ex
    cases ex
    exact ⟨F1, .refl _, hr, h4⟩
theorem walk_t {a : Addr} {ds : List D} (h : StayT K F r a ds) : WalkN K B (Itt K a) F r (ds, []) where
  goes := fun i F1 r1 H C hi e1 e2 hr hg => by
    obtain ⟨ws, h1, h2⟩ := h B F1 r1 H C e1 e2 hr
    have hi : i < ws.length := by rw [← h2.length]; exact hi
    exact ⟨ws, ws[i], h1, List.getElem?_eq_getElem hi⟩
  stops := fun F1 r1 H C e1 e2 hr hg => by
    obtain ⟨ws, h1, h2⟩ := h B F1 r1 H C e1 e2 hr
    exact ⟨ws, h1, Nat.le_of_eq h2.length.symm⟩
  yields := fun i d F1 r1 H C x H' ed e1 e2 hr hg y => by
    obtain ⟨ws, h1, h2⟩ := h B F1 r1 H C e1 e2 hr
    obtain ⟨rfl, y⟩ := y
    obtain ⟨v, h3, h4⟩ := h2.get ed
    have ex := y ws h1
    rw [h3] at ex
    cases ex
    exact ⟨F1, .refl _, hr, h4⟩
/-- a new pair -/
theorem pair_new {d1 d2 : D} {x y : V} {T : Addr} (hr : Rel K B F r H C) (h1 : Rep K F r d1 x) (h2 : Rep K F r d2 y) (hT : H T = none) :
    ∃ F2, Same F F2 ∧ Rel K B F2 r (upd H T (.tup [x, y])) C ∧ Rep K F2 r (.tup [d1, d2]) (.ref T) := by
  have hF := same_new (o := HO.tup [x, y]) (hr.freeF hT)
  exact ⟨upd F T (.tup [x, y]), hF, hr.freeze hT, T, [x, y], rfl, .inl (.inl upd_same), .cons (h1.mono hF (.refl _)) (.one (h2.mono hF (.refl _)))⟩
theorem walk_e {a : Addr} {ds : List D} {g : Gd} (h : StayL K F r a ds g) : WalkN K B (Ite K a) F r (enumD 0 ds, g) where
  goes := fun i F1 r1 H C hi e1 e2 hr hg => by
    obtain ⟨ws, h1, h2⟩ := h B F1 r1 H C e1 e2 hr hg
    have hi : i < (enumD 0 ds).length := hi
    have hi : i < ws.length := by rw [← h2.length, ← enumD_length ds 0]; exact hi
    exact ⟨ws, ws[i], h1, List.getElem?_eq_getElem hi⟩
  stops := fun F1 r1 H C e1 e2 hr hg => by
    obtain ⟨ws, h1, h2⟩ := h B F1 r1 H C e1 e2 hr hg
    exact ⟨ws, h1, by show ws.length ≤ (enumD 0 ds).length; rw [enumD_length, h2.length]; exact Nat.le_refl _⟩
  yields := fun i d F1 r1 H C x H' ed e1 e2 hr hg y => by
    obtain ⟨ws, h1, h2⟩ := h B F1 r1 H C e1 e2 hr hg
    have ed : (enumD 0 ds)[i]? = some d := ed
    rw [enumD_get] at ed
    obtain ⟨dz, ed', rfl⟩ := map_some ed
    obtain ⟨T, z, rfl, hT, rfl, y⟩ := y
    obtain ⟨v, h3, h4⟩ := h2.get ed'
    have ex := y ws h1
    rw [h3] at ex
    cases ex
    rw [Nat.zero_add]
    exact pair_new hr (d1 := .int (i : Nat)) rfl h4 hT
theorem pairs_get (xs ys : List D) (i : Nat) (d : D) (h : (pairs xs ys)[i]? = some d) : ∃ x y, xs[i]? = some x ∧ ys[i]? = some y ∧ d = .tup [x, y] := by
  unfold pairs at h
  rw [List.getElem?_zipWith] at h
  split at h
  · rename_i x y e1 e2
    exact ⟨x, y, e1, e2, (Option.some.inj h).symm⟩
  · cases h
theorem pairs_length (xs ys : List D) : (pairs xs ys).length = min xs.length ys.length := by unfold pairs; simp
theorem walk_z {a b : Addr} {ds es : List D} {g : Gd} (h : StayL K F r a ds g) (k : StayL K F r b es g) : WalkN K B (Itz K a b) F r (pairs ds es, g) where
  goes := fun i F1 r1 H C hi e1 e2 hr hg => by
    obtain ⟨ws, h1, h2⟩ := h B F1 r1 H C e1 e2 hr hg
    obtain ⟨us, k1, k2⟩ := k B F1 r1 H C e1 e2 hr hg
    have hi : i < (pairs ds es).length := hi
    rw [pairs_length] at hi
    have hi1 : i < ws.length := by rw [← h2.length]; omega
    have hi2 : i < us.length := by rw [← k2.length]; omega
    exact ⟨ws, us, ws[i], us[i], h1, k1, List.getElem?_eq_getElem hi1, List.getElem?_eq_getElem hi2⟩
  stops := fun F1 r1 H C e1 e2 hr hg => by
    obtain ⟨ws, h1, h2⟩ := h B F1 r1 H C e1 e2 hr hg
    obtain ⟨us, k1, k2⟩ := k B F1 r1 H C e1 e2 hr hg
    refine ⟨ws, us, h1, k1, ?_⟩
    show ws.length ≤ (pairs ds es).length ∨ us.length ≤ (pairs ds es).length
    rw [pairs_length, ← h2.length, ← k2.length]
    omega
  yields := fun i d F1 r1 H C x H' ed e1 e2 hr hg y => by
    obtain ⟨ws, h1, h2⟩ := h B F1 r1 H C e1 e2 hr hg
    obtain ⟨us, k1, k2⟩ := k B F1 r1 H C e1 e2 hr hg
    obtain ⟨d1, d2, q1, q2, rfl⟩ := pairs_get ds es i d ed
    obtain ⟨T, z1, z2, rfl, hT, rfl, y1, y2⟩ := y
    obtain ⟨v, h3, h4⟩ := h2.get q1
    obtain ⟨w, k3, k4⟩ := k2.get q2
    have ex := y1 ws h1
    rw [h3] at ex
    cases ex
    have ey := y2 us k1
    rw [k3] at ey
    cases ey
    exact pair_new hr h4 k4 hT
theorem walk_zT {a b : Addr} {ds es : List D} (h : StayT K F r a ds) (k : StayT K F r b es) : WalkN K B (RZ.ItzT K a b) F r (pairs ds es, []) where
  goes := fun i F1 r1 H C hi e1 e2 hr hg => by
    obtain ⟨ws, h1, h2⟩ := h B F1 r1 H C e1 e2 hr
    obtain ⟨us, k1, k2⟩ := k B F1 r1 H C e1 e2 hr
    have hi : i < (pairs ds es).length := hi
    rw [pairs_length] at hi
    have hi1 : i < ws.length := by rw [← h2.length]; omega
    have hi2 : i < us.length := by rw [← k2.length]; omega
    exact ⟨ws, us, ws[i], us[i], h1, k1, List.getElem?_eq_getElem hi1, List.getElem?_eq_getElem hi2⟩
  stops := fun F1 r1 H C e1 e2 hr hg => by
    obtain ⟨ws, h1, h2⟩ := h B F1 r1 H C e1 e2 hr
    obtain ⟨us, k1, k2⟩ := k B F1 r1 H C e1 e2 hr
    refine ⟨ws, us, h1, k1, ?_⟩
    show ws.length ≤ (pairs ds es).length ∨ us.length ≤ (pairs ds es).length
    rw [pairs_length, ← h2.length, ← k2.length]
    omega
  yields := fun i d F1 r1 H C x H' ed e1 e2 hr hg y => by
    obtain ⟨ws, h1, h2⟩ := h B F1 r1 H C e1 e2 hr
    obtain ⟨us, k1, k2⟩ := k B F1 r1 H C e1 e2 hr
    obtain ⟨d1, d2, q1, q2, rfl⟩ := pairs_get ds es i d ed
    obtain ⟨T, z1, z2, rfl, hT, rfl, y1, y2⟩ := y
    obtain ⟨v, h3, h4⟩ := h2.get q1
    obtain ⟨w, k3, k4⟩ := k2.get q2
    have ex := y1 ws h1
    rw [h3] at ex
    cases ex
    have ey := y2 us k1
    rw [k3] at ey
    cases ey
    exact pair_new hr h4 k4 hT
theorem walk_r {lo : Int} {n : Nat} : WalkN K B (Itr lo n) F r ((List.range n).map fun i => D.int (lo + (i : Nat)), []) where
  goes := fun i F1 r1 H C hi e1 e2 hr hg => by
    have hi : i < ((List.range n).map fun i => D.int (lo + (i : Nat))).length := hi
    rw [List.length_map, List.length_range] at hi
    exact hi
  stops := fun F1 r1 H C e1 e2 hr hg => by
    show n ≤ ((List.range n).map fun i => D.int (lo + (i : Nat))).length
    simp
  yields := fun i d F1 r1 H C x H' ed e1 e2 hr hg y => by
    obtain ⟨rfl, rfl⟩ := y
    have ed : ((List.range n).map fun i => D.int (lo + (i : Nat)))[i]? = some d := ed
    rw [List.getElem?_map] at ed
    obtain ⟨j, ej, rfl⟩ := map_some ed
    have : j = i := by
      obtain ⟨h1, h2⟩ := List.getElem?_eq_some_iff.mp ej
      rw [List.getElem_range] at h2
      exact h2.symm
    subst this
    exact ⟨F1, .refl _, hr, rfl⟩
theorem walk_rc {lo c : Int} {n : Nat} : WalkN K B (Itc lo c n) F r ((List.range n).map fun i => D.int (lo + (i : Nat) * c), []) where
  goes := fun i F1 r1 H C hi e1 e2 hr hg => by
    have hi : i < ((List.range n).map fun i => D.int (lo + (i : Nat) * c)).length := hi
    rw [List.length_map, List.length_range] at hi
    exact hi
  stops := fun F1 r1 H C e1 e2 hr hg => by
    show n ≤ ((List.range n).map fun i => D.int (lo + (i : Nat) * c)).length
    simp
  yields := fun i d F1 r1 H C x H' ed e1 e2 hr hg y => by
    obtain ⟨rfl, rfl⟩ := y
    have ed : ((List.range n).map fun i => D.int (lo + (i : Nat) * c))[i]? = some d := ed
    rw [List.getElem?_map] at ed
    obtain ⟨j, ej, rfl⟩ := map_some ed
    have : j = i := by
      obtain ⟨h1, h2⟩ := List.getElem?_eq_some_iff.mp ej
      rw [List.getElem_range] at h2
      exact h2.symm
    subst this
    exact ⟨F1, .refl _, hr, rfl⟩
theorem walk_s {z : Str} : WalkN K B (Its z) F r (z.cps.toList.map fun c => D.str ⟨#[c]⟩, []) where
  goes := fun i F1 r1 H C hi e1 e2 hr hg => by
    have hi : i < (z.cps.toList.map fun c => D.str ⟨#[c]⟩).length := hi
    rw [List.length_map, Array.length_toList] at hi
    exact hi
  stops := fun F1 r1 H C e1 e2 hr hg => by
    show z.cps.size ≤ (z.cps.toList.map fun c => D.str ⟨#[c]⟩).length
    simp
  yields := fun i d F1 r1 H C x H' ed e1 e2 hr hg y => by
    obtain ⟨rfl, c, ec, rfl⟩ := y
    have ed : (z.cps.toList.map fun c => D.str ⟨#[c]⟩)[i]? = some d := ed
    rw [List.getElem?_map, Array.getElem?_toList, ec] at ed
    cases ed
    exact ⟨F1, .refl _, hr, rfl⟩

/-! the walked expressions -/
/-- a list's things; which cell they lie in -/
def lstG (C : Store) : D → Option Wk
  | .lst ds => some (ds, [])
  | .cell k => match C[k]? with
    | some (.lst ds) => some (ds, [(k, ds)])
    | some (.fz ds) => some (ds, [])
    | _ => none
  | _ => none
theorem lstG_ok {x : D} {v : V} {k : Wk} (hr : Rel K B F r H C) (hx : Rep K F r x v) (e : lstG C x = some k) : ∃ a vs, v = .ref a ∧ SqL K H a vs ∧ StayL K F r a k.1 k.2 := by
  cases x with
  | lst ds =>
    cases e
    obtain ⟨a, vs, rfl, h2, h3⟩ := hx
    exact ⟨a, vs, rfl, Same.seq hr.froz h2, fun B F1 r1 H C e1 e2 hr1 _ => ⟨vs, Same.seq hr1.froz (Same.seq e1 h2), h3.mono e1 e2⟩⟩
  | cell i =>
    obtain ⟨a, rfl, h1⟩ := hx
    have e : (match C[i]? with
    | some (.lst ds) => some (ds, [(i, ds)])
    | some (.fz ds) => some (ds, [])
    | _ => none) = some k := e
    split at e
    · rename_i ds hc
      cases e
      obtain ⟨h2, vs, h3, h4⟩ := hr.cells i _ a hc h1
      refine ⟨a, vs, rfl, .inl (.inl h3), fun B1 F1 r1 H1 C1 k1 k2 hr1 hg => ?_⟩
      have hg : C1[i]? = some (.lst ds) := hg (i, ds) List.mem_cons_self
      obtain ⟨_, ws, h5, h6⟩ := hr1.cells i _ a hg (k2 _ _ h1)
      exact ⟨ws, .inl (.inl h5), h6⟩
    · rename_i ds hc
      cases e
      obtain ⟨vs, h3, h4⟩ := hr.cells i _ a hc h1
      exact ⟨a, vs, rfl, .inl (.inl (hr.froz _ _ h3)), fun B1 F1 r1 H1 C1 k1 k2 hr1 hg => ⟨vs, .inl (.inl (hr1.froz _ _ (k1 _ _ h3))), h4.mono k1 k2⟩⟩
    · cases e
  | _ => cases e
theorem tupOf_stay {x : D} {v : V} {ds : List D} (hr : Rel K B F r H C) (hx : Rep K F r x v) (e : tupOf x = some ds) : ∃ a vs, v = .ref a ∧ SqT K H a vs ∧ StayT K F r a ds := by
  cases x with
  | tup ds' =>
    cases e
    obtain ⟨a, vs, rfl, h2, h3⟩ := hx
    exact ⟨a, vs, rfl, Same.tup hr.froz h2, fun B F1 r1 H C e1 e2 hr1 => ⟨vs, Same.tup hr1.froz (Same.tup e1 h2), h3.mono e1 e2⟩⟩
  | _ => cases e
def iLst (m : ME) : MI := fun sl C => (m sl C).bind fun p => match lstG p.2 p.1 with
  | some k => .ok (k, p.2)
  | none => .no
theorem ni_list (he : NE X E e m) : NI X E tg e (iLst m) := ⟨pi_imp (pi_list he.pe) fun s H Q q => by
    obtain ⟨B, F, r, sl, C, hr, hs, o⟩ := q
    refine ⟨B, F, r, sl, C, hr, hs, Out.bind (P := Rep X.K) o fun x C1 F1 r1 H1 v e1 e2 hr1 hx o1 => ?_⟩
    simp only at o1
    split at o1
    · rename_i k ek
      obtain ⟨a, vs, rfl, h1, h2⟩ := lstG_ok hr1 hx ek
      exact ⟨a, rfl, ⟨vs, h1⟩, o1 F1 r1 H1 _ (.refl _) (.refl _) hr1 fun B' => walk_l h2⟩
    · exact False.elim o1⟩
def iTp (m : ME) : MI := fun sl C => (m sl C).bind fun p => match tupOf p.1 with
  | some ds => .ok ((ds, []), p.2)
  | none => .no
theorem ni_tup (he : NE X E e m) : NI X E tg e (iTp m) := ⟨pi_imp (pi_tup he.pe) fun s H Q q => by
    obtain ⟨B, F, r, sl, C, hr, hs, o⟩ := q
    refine ⟨B, F, r, sl, C, hr, hs, Out.bind (P := Rep X.K) o fun x C1 F1 r1 H1 v e1 e2 hr1 hx o1 => ?_⟩
    simp only at o1
    split at o1
    · rename_i ds ek
      obtain ⟨a, vs, rfl, h1, h2⟩ := tupOf_stay hr1 hx ek
      exact ⟨a, rfl, ⟨vs, h1⟩, o1 F1 r1 H1 _ (.refl _) (.refl _) hr1 fun B' => walk_t h2⟩
    · exact False.elim o1⟩
def iStrD (m : ME) : MI := fun sl C => (m sl C).bind fun p => match p.1 with
  | .str z => .ok ((z.cps.toList.map fun c => D.str ⟨#[c]⟩, []), p.2)
  | _ => .no
theorem ni_str (he : NE X E e m) : NI X E tg e (iStrD m) := ⟨pi_imp (pi_str he.pe) fun s H Q q => by
    obtain ⟨B, F, r, sl, C, hr, hs, o⟩ := q
    refine ⟨B, F, r, sl, C, hr, hs, Out.bind (P := Rep X.K) o fun x C1 F1 r1 H1 v e1 e2 hr1 hx o1 => ?_⟩
    cases x with
    | str z => exact ⟨z, hx, o1 F1 r1 H1 _ (.refl _) (.refl _) hr1 fun B' => walk_s⟩
    | _ => exact False.elim o1⟩
def rgD (a b : Int) : List D := (List.range (b - a).toNat).map fun i => D.int (a + (i : Nat))
def iRg1 (mas : MG (List D)) : MI := fun sl C => (mas sl C).bind fun p => match p.1 with
  | [.int j] => if lowI j = true then .ok ((rgD 0 j, []), p.2) else .no
  | _ => .no
theorem ni_range1 (hm : X.mg "range" = none) (ha : NA X E [a] mas) (hg : Gl X "range" := by rfl) (hs : starEach [a] X.env = [(false, eval a X.env)] := by rfl) : NI X E tg (.Call (.Name "range" p1) [a] [] pos) (iRg1 mas) :=
  ⟨pi_imp (pi_range1 hg hm ha.pa hs) fun s H Q q => by
    obtain ⟨B, F, r, sl, C, hr, hs, o⟩ := q
    refine ⟨B, F, r, sl, C, hr, hs, Out.bind (P := Reps X.K) o fun x C1 F1 r1 H1 v e1 e2 hr1 hx o1 => ?_⟩
    simp only at o1
    split at o1
    · rename_i j
      obtain ⟨v, w, rfl, h1, h2⟩ := hx
      cases (show w = [] from h2)
      split at o1
      · rename_i hl
        have hl := lowI_ok hl
        refine ⟨j, by rw [show v = V.int j from h1], by omega, by omega, ?_⟩
        refine o1 F1 r1 H1 _ (.refl _) (.refl _) hr1 fun B' => ?_
        unfold rgD
        rw [Int.sub_zero]
        exact walk_r
      · exact False.elim o1
    · exact False.elim o1⟩
def iRg2 (mas : MG (List D)) : MI := fun sl C => (mas sl C).bind fun p => match p.1 with
  | [.int i, .int j] => if (lowI i && lowI j) = true then .ok ((rgD i j, []), p.2) else .no
  | _ => .no
theorem ni_range2 (hm : X.mg "range" = none) (ha : NA X E [a, b] mas) (hg : Gl X "range" := by rfl) (hs : starEach [a, b] X.env = [(false, eval a X.env), (false, eval b X.env)] := by rfl) (hs2 : starEach [b] X.env = [(false, eval b X.env)] := by rfl) :
    NI X E tg (.Call (.Name "range" p1) [a, b] [] pos) (iRg2 mas) :=
  ⟨pi_imp (pi_range2 hg hm ha.pa hs hs2) fun s H Q q => by
    obtain ⟨B, F, r, sl, C, hr, hs, o⟩ := q
    refine ⟨B, F, r, sl, C, hr, hs, Out.bind (P := Reps X.K) o fun x C1 F1 r1 H1 v e1 e2 hr1 hx o1 => ?_⟩
    simp only at o1
    split at o1
    · rename_i i j
      obtain ⟨v, w, rfl, h1, v2, w2, rfl, h2, h3⟩ := hx
      cases (show w2 = [] from h3)
      split at o1
      · rename_i hl
        rw [Bool.and_eq_true] at hl
        have hl1 := lowI_ok hl.1
        have hl2 := lowI_ok hl.2
        refine ⟨i, j, by rw [show v = V.int i from h1, show v2 = V.int j from h2], by omega, ?_⟩
        exact o1 F1 r1 H1 _ (.refl _) (.refl _) hr1 fun B' => walk_r
      · exact False.elim o1
    · exact False.elim o1⟩
/-- down by ones: range(a, b, -1) -/
def rgDown (a b : Int) : List D := (List.range (a - b).toNat).map fun i => D.int (a + (i : Nat) * (-1))
def iRg3 (mas : MG (List D)) : MI := fun sl C => (mas sl C).bind fun p => match p.1 with
  | [.int i, .int j, .int k] => if (lowI i && lowI j) = true ∧ k = -1 then .ok ((rgDown i j, []), p.2) else .no
  | _ => .no
theorem ni_range3 {c : Expr} (hm : X.mg "range" = none) (ha : NA X E [a, b, c] mas) (hg : Gl X "range" := by rfl) (hs : starEach [a, b, c] X.env = (false, eval a X.env) :: starEach [b, c] X.env := by rfl) (hpl : (backTo pos (starEach [b, c] X.env)).any (·.1) = false := by rfl) :
    NI X E tg (.Call (.Name "range" p1) [a, b, c] [] pos) (iRg3 mas) :=
  ⟨pi_imp (pi_range3 hg hm ha.pa hs hpl) fun s H Q q => by
    obtain ⟨B, F, r, sl, C, hr, hs, o⟩ := q
    refine ⟨B, F, r, sl, C, hr, hs, Out.bind (P := Reps X.K) o fun x C1 F1 r1 H1 v e1 e2 hr1 hx o1 => ?_⟩
    simp only at o1
    split at o1
    · rename_i i j k
      obtain ⟨v, w, rfl, h1, v2, w2, rfl, h2, v3, w3, rfl, h3, h4⟩ := hx
      cases (show w3 = [] from h4)
      split at o1
      · rename_i hl
        obtain ⟨hl, rfl⟩ := hl
        rw [Bool.and_eq_true] at hl
        have hl1 := lowI_ok hl.1
        have hl2 := lowI_ok hl.2
        refine ⟨i, j, -1, (i - j).toNat, by rw [show v = V.int i from h1, show v2 = V.int j from h2, show v3 = V.int (-1) from h3], RgC.neg (by omega) (by omega) (by omega) (by omega), ?_⟩
        exact o1 F1 r1 H1 _ (.refl _) (.refl _) hr1 fun B' => walk_rc
      · exact False.elim o1
    · exact False.elim o1⟩
def iEn (mas : MG (List D)) : MI := fun sl C => (mas sl C).bind fun p => match p.1 with
  | [x] => match lstG p.2 x with
    | some k => .ok ((enumD 0 k.1, k.2), p.2)
    | none => .no
  | _ => .no
theorem ni_enum (hm : X.mg "enumerate" = none) (ha : NA X E [a] mas) (hg : Gl X "enumerate" := by rfl) (hs : starEach [a] X.env = [(false, eval a X.env)] := by rfl) : NI X E (.Tuple elts kk tpos) (.Call (.Name "enumerate" p1) [a] [] pos) (iEn mas) :=
  ⟨pi_imp (pi_enum hg hm ha.pa hs) fun s H Q q => by
    obtain ⟨B, F, r, sl, C, hr, hs, o⟩ := q
    refine ⟨B, F, r, sl, C, hr, hs, Out.bind (P := Reps X.K) o fun x C1 F1 r1 H1 v e1 e2 hr1 hx o1 => ?_⟩
    simp only at o1
    split at o1
    · rename_i d
      obtain ⟨v, w, rfl, h1, h2⟩ := hx
      cases (show w = [] from h2)
      split at o1
      · rename_i k ek
        obtain ⟨a, vs, rfl, h1, h2⟩ := lstG_ok hr1 h1 ek
        exact ⟨a, vs, rfl, h1, o1 F1 r1 H1 _ (.refl _) (.refl _) hr1 fun B' => walk_e h2⟩
      · exact False.elim o1
    · exact False.elim o1⟩
theorem StayL.more {a : Addr} {ds : List D} {g g' : Gd} (h : StayL K F r a ds g) (hg : ∀ p ∈ g, p ∈ g') : StayL K F r a ds g' := fun B F1 r1 H C e1 e2 hr ok => h B F1 r1 H C e1 e2 hr fun p hp => ok p (hg p hp)
def iZp (mas : MG (List D)) : MI := fun sl C => (mas sl C).bind fun p => match p.1 with
  | [x, y] => match lstG p.2 x, lstG p.2 y with
    | some k, some l => .ok ((pairs k.1 l.1, k.2 ++ l.2), p.2)
    | _, _ => match tupOf x, tupOf y with
      | some k, some l => .ok ((pairs k l, []), p.2)
      | _, _ => .no
  | _ => .no
theorem ni_zip (hm : X.mg "zip" = none) (ha : NA X E [a, b] mas) (hg : Gl X "zip" := by rfl) (hs : starEach [a, b] X.env = (false, eval a X.env) :: starEach [b] X.env := by rfl) (hpl : (backTo pos (starEach [b] X.env)).any (·.1) = false := by rfl) :
    NI X E (.Tuple elts kk tpos) (.Call (.Name "zip" p1) [a, b] [] pos) (iZp mas) :=
  ⟨pi_imp (RZ.pi_zipA hg hm ha.pa hs hpl) fun s H Q q => by
    obtain ⟨B, F, r, sl, C, hr, hs, o⟩ := q
    refine ⟨B, F, r, sl, C, hr, hs, Out.bind (P := Reps X.K) o fun x C1 F1 r1 H1 v e1 e2 hr1 hx o1 => ?_⟩
    simp only at o1
    split at o1
    · rename_i d1 d2
      obtain ⟨v, w, rfl, h1, v2, w2, rfl, h2, h3⟩ := hx
      cases (show w2 = [] from h3)
      split at o1
      · rename_i k l ek el
        obtain ⟨a, vs, rfl, q1, q2⟩ := lstG_ok hr1 h1 ek
        obtain ⟨b, ws, rfl, q3, q4⟩ := lstG_ok hr1 h2 el
        exact ⟨a, b, vs, ws, rfl, .inl ⟨q1, q3, o1 F1 r1 H1 _ (.refl _) (.refl _) hr1 fun B' => walk_z (q2.more fun p hp => List.mem_append_left _ hp) (q4.more fun p hp => List.mem_append_right _ hp)⟩⟩
      · split at o1
        · rename_i k l ek el
          obtain ⟨a, vs, rfl, q1, q2⟩ := tupOf_stay hr1 h1 ek
          obtain ⟨b, ws, rfl, q3, q4⟩ := tupOf_stay hr1 h2 el
          exact ⟨a, b, vs, ws, rfl, .inr ⟨q1, q3, o1 F1 r1 H1 _ (.refl _) (.refl _) hr1 fun B' => walk_zT q2 q4⟩⟩
        · exact False.elim o1
    · exact False.elim o1⟩
end
end Nv

namespace Nv
open PySem PySem.Spec PyProof.Rows L2
open Classical in
/-- a for: the turns that are left -/
noncomputable def forM (g : MT) (u : MS) (gd : Gd) : List D → MS
  | [] => fun sl C => if okG gd C then .ok ((.nx, sl), C) else .no
  | d :: ds => fun sl C => if okG gd C then (g d sl C).bind fun q => (u q.1 q.2).bind fun p => match p.1.1 with
      | .nx => forM g u gd ds p.1.2 p.2
      | .ct => forM g u gd ds p.1.2 p.2
      | .bk => .ok ((.nx, p.1.2), p.2)
      | .rt d => .ok ((.rt d, p.1.2), p.2)
    else .no
noncomputable def sFor (mi : MI) (g : MT) (u : MS) : MS := fun sl C => (mi sl C).bind fun p => forM g u p.1.2 p.1.1 sl p.2
/-- a while: at most so many turns -/
def whileM (t : MG Bool) (u : MS) : Nat → MS
  | 0 => fun _ _ => .no
  | n + 1 => fun sl C => (t sl C).bind fun b => if b.1 = true then (u sl b.2).bind fun p => match p.1.1 with
      | .nx => whileM t u n p.1.2 p.2
      | .ct => whileM t u n p.1.2 p.2
      | .bk => .ok ((.nx, p.1.2), p.2)
      | .rt d => .ok ((.rt d, p.1.2), p.2)
    else .ok ((.nx, sl), b.2)
/-- what is raised is not allowed here -/
def R.calm {S : Type} : R S → R S
  | .ok a => .ok a
  | _ => .no
def wipeS (sl : Sl) : List Nat → Sl
  | [] => sl
  | v :: vs => (wipeS sl vs).set v none
open Classical in
/-- a list comprehension: the things that are left -/
noncomputable def lcM (g : MT) (t : MG Bool) (m : ME) (gd : Gd) (sl : Sl) : List D → Store → R (List D × Store)
  | [], C => if okG gd C then .ok ([], C) else .no
  | d :: ds, C => if okG gd C then (g d sl C).bind fun q => (t q.1 q.2).bind fun b => if b.1 = true then (m q.1 b.2).bind fun e => (lcM g t m gd sl ds e.2).bind fun z => .ok (e.1 :: z.1, z.2)
      else lcM g t m gd sl ds b.2
    else .no
noncomputable def mLc (c : Bool) (own : List Nat) (mi : MI) (g : MT) (t : MG Bool) (m : ME) : ME := fun sl C => (mi sl C).bind fun p => if p.1.1.length ≤ sizeLine then
  (R.calm (lcM g t m p.1.2 (wipeS sl own) p.1.1 p.2)).bind fun z => newL c z.1 z.2 else .no
def tTrue : MG Bool := fun _ C => .ok (true, C)
section
variable {K : PySem.W.Frag} {mg : Str → Option Value} {E : XK} {B F F1 : Hp} {r r1 : List Addr} {H : Hp} {C : Store} {De : Ends} {s : L2.St} {sl : Sl}
variable {X : Cx} {st : Stmt} {rest : List Stmt} {e a b c tg it : Expr} {m ma mb : ME} {mt : MG Bool} {u u1 u2 : MS} {pos p1 p2 tpos : Pos} {mas : MG (List D)} {elts : List Expr} {kk : Nat}
theorem ns_for {own : List Nat} {body : List Stmt} {mi : MI} {g : MT} (hp : PassesOwn (model X.prog X.w) X.A X.env X.xe) (hc : X.calm = true) (hi : NI X E tg it mi) (hg : NG X E own tg g) (hb : NSs X E body u)
    (hs : ∀ x, foldedSetIterable it X.env x = pure x := by intro _; rfl) : NS X E (.For tg it body [] pos) (sFor mi g u) := ⟨ps_imp (ps_for hp hc hi.pi hg.pg hb.ps hs) fun De s H q => by
    obtain ⟨B, F, r, sl, C, hr, hs, o⟩ := q
    refine ⟨B, F, r, sl, C, hr, hs, OutS.bind (P := fun F' r' k J => ∀ B', WalkN X.K B' J F' r' k) o fun k C1 F1 r1 H1 J e1 e2 hr1 hJ o1 => ?_⟩
    obtain ⟨ds, gd⟩ := k
    have hJ := hJ B
    simp only at o1
    refine ⟨fun i n s2 H2 => n = ds.length - i ∧ i ≤ ds.length ∧ ∃ F2 r2 sl2 C2, Same F1 F2 ∧ Ex r1 r2 ∧ Rel X.K B F2 r2 H2 C2 ∧ Sls X.K F2 r2 sl2 s2 ∧ OutS X.K X.mg E B F2 r2 (forM g u gd (ds.drop i) sl2 C2) De,
      ⟨ds.length, by simp, Nat.zero_le _, F1, r1, sl, C1, .refl _, .refl _, hr1, hs.mono e1 e2, o1⟩, ?_⟩
    rintro i n s2 H2 ⟨rfl, hi, F2, r2, sl2, C2, e3, e4, hr2, hs2, o2⟩
    by_cases hl : i < ds.length
    · have ed : ds[i]? = some ds[i] := List.getElem?_eq_getElem hl
      rw [List.drop_eq_getElem_cons hl] at o2
      unfold forM at o2
      split at o2
      · rename_i hok
        refine .inr ⟨hJ.goes i F2 r2 H2 C2 hl e3 e4 hr2 hok, fun s3 H3 => ∃ F2 r2 sl2 C2, Same F1 F2 ∧ Ex r1 r2 ∧ Rel X.K B F2 r2 H3 C2 ∧ Sls X.K F2 r2 sl2 s3 ∧ OutS X.K X.mg E B F2 r2 (forM g u gd (ds.drop (i + 1)) sl2 C2) De,
          fun s3 H3 h => ⟨ds.length - (i + 1), by omega, rfl, hl, h⟩, fun x H3 y => ?_⟩
        obtain ⟨F3, e5, hr3, hx⟩ := hJ.yields i _ F2 r2 H2 C2 x H3 ed e3 e4 hr2 hok y
        refine ⟨B, F3, r2, sl2, C2, ds[i], hr3, hs2.mono e5 (.refl _), hx, OutS.bind (P := fun F' r' sl' s' => Sls X.K F' r' sl' s' ∧ wipe s' own = wipe s2 own) (o2.mono e5 (.refl _)) fun sl4 C4 F4 r4 H4 s4 e6 e7 hr4 hs4 o4 => ?_⟩
        refine ⟨B, F4, r4, sl4, C4, hr4, hs4.1, ?_⟩
        simp only at o4
        cases hu : u sl4 C4 with
        | ok p =>
          obtain ⟨⟨f, sl5⟩, C5⟩ := p
          rw [hu, R.bind_ok] at o4
          intro F5 r5 H5 k1 k2 k3
          have t1 : Same F1 F5 := ((e3.trans e5).trans e6).trans k1
          have t2 : Ex r1 r5 := (e4.trans e7).trans k2
          cases f with
          | nx => exact fun s5 hs5 => ⟨F5, r5, sl5, C5, t1, t2, k3, hs5, OutS.mono o4 k1 k2⟩
          | ct => exact fun s5 hs5 => ⟨F5, r5, sl5, C5, t1, t2, k3, hs5, OutS.mono o4 k1 k2⟩
          | bk => exact fun s5 hs5 => o4 F5 r5 H5 k1 k2 k3 s5 hs5
          | rt d => exact fun v hv => o4 F5 r5 H5 k1 k2 k3 v hv
        | ex y Cy => rw [hu] at o4; exact o4
        | no => rw [hu] at o4; exact o4
      · exact False.elim o2
    · have ei : i = ds.length := by omega
      subst ei
      rw [List.drop_length] at o2
      unfold forM at o2
      split at o2
      · rename_i hok
        exact .inl ⟨hJ.stops F2 r2 H2 C2 e3 e4 hr2 hok, OutS.next o2 hr2 hs2⟩
      · exact False.elim o2⟩
theorem ns_while {body : List Stmt} (N : Nat) (hp : PassesOwn (model X.prog X.w) X.A X.env X.xe) (hc : NT X E c mt) (hb : NSs X E body u) : NS X E (.While c body [] pos) (whileM mt u N) := ⟨ps_imp (ps_while hp hc.pt hb.ps) fun De s H q => by
    obtain ⟨B, F, r, sl, C, hr, hs, o⟩ := q
    refine ⟨fun n s2 H2 => ∃ F2 r2 sl2 C2, Rel X.K B F2 r2 H2 C2 ∧ Sls X.K F2 r2 sl2 s2 ∧ OutS X.K X.mg E B F2 r2 (whileM mt u n sl2 C2) De, ⟨N, F, r, sl, C, hr, hs, o⟩, ?_⟩
    rintro n s2 H2 ⟨F2, r2, sl2, C2, hr2, hs2, o2⟩
    cases n with
    | zero => exact False.elim o2
    | succ n =>
      unfold whileM at o2
      refine ⟨B, F2, r2, sl2, C2, hr2, hs2, OutS.bind (P := PB) o2 fun x C1 F1 r1 H1 v e1 e2 hr1 hx o1 => ?_⟩
      subst hx
      cases x with
      | false =>
        rw [if_neg Bool.false_ne_true] at o1 ⊢
        exact OutS.next o1 hr1 (hs2.mono e1 e2)
      | true =>
        rw [if_pos rfl] at o1 ⊢
        refine ⟨fun s3 H3 => ∃ F2 r2 sl2 C2, Rel X.K B F2 r2 H3 C2 ∧ Sls X.K F2 r2 sl2 s3 ∧ OutS X.K X.mg E B F2 r2 (whileM mt u n sl2 C2) De, fun s3 H3 h => ⟨n, Nat.lt_succ_self n, h⟩, B, F1, r1, sl2, C1, hr1, hs2.mono e1 e2, ?_⟩
        simp only at o1
        cases hu : u sl2 C1 with
        | ok p =>
          obtain ⟨⟨f, sl5⟩, C5⟩ := p
          rw [hu, R.bind_ok] at o1
          intro F5 r5 H5 k1 k2 k3
          cases f with
          | nx => exact fun s5 hs5 => ⟨F5, r5, sl5, C5, k3, hs5, OutS.mono o1 k1 k2⟩
          | ct => exact fun s5 hs5 => ⟨F5, r5, sl5, C5, k3, hs5, OutS.mono o1 k1 k2⟩
          | bk => exact fun s5 hs5 => o1 F5 r5 H5 k1 k2 k3 s5 hs5
          | rt d => exact fun v hv => o1 F5 r5 H5 k1 k2 k3 v hv
        | ex y Cy => rw [hu] at o1; exact o1
        | no => rw [hu] at o1; exact o1⟩

/-! list comprehensions -/
abbrev EN : XK := fun _ _ _ => False
theorem Sls.wipe (hs : Sls K F r sl s) : ∀ own : List Nat, Sls K F r (wipeS sl own) (L2.wipe s own)
  | [] => hs
  | v :: vs => by
    have ih := Sls.wipe hs vs
    unfold wipeS L2.wipe
    refine ⟨by simp [ih.1], fun j d e => ?_⟩
    by_cases hj : v = j
    · subst hj
      by_cases hi : v < (wipeS sl vs).length
      · rw [List.getElem?_set_self hi] at e; cases e
      · rw [List.getElem?_eq_none (by simpa using hi)] at e; cases e
    · rw [List.getElem?_set_ne hj] at e ⊢
      exact ih.2 j d e
/-- the tests of a comprehension -/
structure NTs (X : Cx) (ifs : List Expr) (m : MG Bool) : Prop where
  pt : PTs X ifs (LG PB X.K X.mg EN m)
theorem pts_imp {X : Cx} {e : List Expr} {t t' : TT} (h : PTs X e t) (hi : ∀ s H Q, t' s H Q → t s H Q) : PTs X e t' := ⟨fun pins s σ H Q I q => h.run pins s σ H Q I (hi _ _ _ q)⟩
theorem nts_nil : NTs X [] tTrue := ⟨pts_imp pts_nil fun s H Q q => by
    obtain ⟨B, F, r, sl, C, hr, hs, o⟩ := q
    exact o F r H true (.refl _) (.refl _) hr rfl⟩
theorem nts_one (h : NT X EN c mt) : NTs X [c] mt := ⟨pts_one h.pt⟩
theorem calm_ok {S : Type} {o : R S} {x : S} (h : R.calm o = .ok x) : o = .ok x := by
  cases o with
  | ok a => exact h
  | ex y C => cases h
  | no => cases h
theorem bind_okR {S T : Type} {o : R S} {k : S → R T} {x : T} (h : o.bind k = .ok x) : ∃ a, o = .ok a ∧ k a = .ok x := by
  cases o with
  | ok a => exact ⟨a, rfl, h⟩
  | ex y C => cases h
  | no => cases h
theorem out_of {S T : Type} {P : PR S T} {o : R (S × Store)} {a : S} {C1 : Store} {Q : T → Hp → Prop} (h : o = .ok (a, C1)) (hq : ∀ (F' : Hp) (r' : List Addr) (H' : Hp) (b : T), Same F F' → Ex r r' → Rel K B F' r' H' C1 → P F' r' a b → Q b H') : Out P K mg E B F r o Q := by
  subst h
  exact hq
theorem lc_ok {cb : Bool} {own : List Nat} {mi : MI} {g : MT} {t : MG Bool} {m : ME} : ∀ s H Q, LG (Rep K) K mg E (mLc cb own mi g t m) s H Q → tLc (LI K mg E mi) (LT own K mg EN g) (LG PB K mg EN t) (LG (Rep K) K mg EN m) own s H Q := fun s H Q q => by
    obtain ⟨B, F, r, sl, C, hr, hs, o⟩ := q
    refine ⟨B, F, r, sl, C, hr, hs, Out.bind (P := fun F' r' k J => ∀ B', WalkN K B' J F' r' k) o fun k C1 F1 r1 H1 J e1 e2 hr1 hJ o1 => ?_⟩
    obtain ⟨ds, gd⟩ := k
    intro p hp
    simp only at o1
    split at o1
    case isFalse => exact False.elim o1
    rename_i hz
    obtain ⟨⟨out, Cn⟩, hlc, o1⟩ : ∃ z, lcM g t m gd (wipeS sl own) ds C1 = .ok z ∧ Out (Rep K) K mg E B F1 r1 (newL cb z.1 z.2) Q := by
      cases hl : lcM g t m gd (wipeS sl own) ds C1 with
      | ok z => rw [hl] at o1; exact ⟨z, rfl, o1⟩
      | ex y Cy => rw [hl] at o1; exact False.elim o1
      | no => rw [hl] at o1; exact False.elim o1
    have hs1 := hs.mono e1 e2
    refine ⟨fun i n H2 => n = ds.length - i ∧ i ≤ ds.length ∧ ∃ F2 r2 C2 acc vs out2, Same F1 F2 ∧ Ex r1 r2 ∧ Rel K (upd B p (.lst vs)) F2 r2 H2 C2 ∧ Reps K F2 r2 acc vs ∧ acc.length ≤ i ∧ out = acc ++ out2 ∧ lcM g t m gd (wipeS sl own) (ds.drop i) C2 = .ok (out2, Cn),
      ⟨ds.length, by simp, Nat.zero_le _, F1, r1, C1, [], [], out, .refl _, .refl _, hr1.aside hp, .nil, Nat.zero_le _, rfl, hlc⟩, ?_⟩
    rintro i n H2 ⟨rfl, hi, F2, r2, C2, acc, vs, out2, e3, e4, hr2, hacc, hal, ho, h2⟩
    have hJ := hJ (upd B p (.lst vs))
    by_cases hl : i < ds.length
    · have ed : ds[i]? = some ds[i] := List.getElem?_eq_getElem hl
      rw [List.drop_eq_getElem_cons hl] at h2
      unfold lcM at h2
      split at h2
      case isFalse => cases h2
      rename_i hok
      obtain ⟨⟨sl4, C4⟩, hg, h2⟩ := bind_okR h2
      obtain ⟨⟨bt, C5⟩, ht, h2⟩ := bind_okR h2
      refine .inr ⟨hJ.goes i F2 r2 H2 C2 hl e3 e4 hr2 hok, fun H3 => ∃ F2 r2 C2 acc vs out2, Same F1 F2 ∧ Ex r1 r2 ∧ Rel K (upd B p (.lst vs)) F2 r2 H3 C2 ∧ Reps K F2 r2 acc vs ∧ acc.length ≤ i + 1 ∧ out = acc ++ out2 ∧ lcM g t m gd (wipeS sl own) (ds.drop (i + 1)) C2 = .ok (out2, Cn),
        fun H3 h => ⟨ds.length - (i + 1), by omega, rfl, hl, h⟩, fun x H3 y => ?_⟩
      obtain ⟨F3, e5, hr3, hx⟩ := hJ.yields i _ F2 r2 H2 C2 x H3 ed e3 e4 hr2 hok y
      have hs3 : Sls K F3 r2 (wipeS sl own) (wipe s own) := Sls.wipe (hs1.mono (e3.trans e5) e4) own
      refine ⟨upd B p (.lst vs), F3, r2, wipeS sl own, C2, ds[i], hr3, hs3, hx, out_of hg fun F4 r4 H4 s4 e6 e7 hr4 hs4 => ?_⟩
      have ww : ∀ own : List Nat, wipe (wipe s own) own = wipe s own := fun own => by
        have key : ∀ (l : List Nat) (x : Nat) (z : L2.St), z[x]? = some none ∨ z.length ≤ x → (wipe z l)[x]? = some none ∨ (wipe z l).length ≤ x := by
          intro l
          induction l with
          | nil => intro x z h; exact h
          | cons v vs ih =>
            intro x z h
            unfold wipe
            by_cases hv : v = x
            · subst hv
              by_cases hv2 : v < (wipe z vs).length
              · exact .inl (List.getElem?_set_self hv2)
              · exact .inr (by simpa using hv2)
            · rw [List.getElem?_set_ne hv, List.length_set]
              exact ih x z h
        have fix : ∀ (l : List Nat) (z : L2.St), (∀ x ∈ l, z[x]? = some none ∨ z.length ≤ x) → wipe z l = z := by
          intro l
          induction l with
          | nil => intro z _; rfl
          | cons v vs ih =>
            intro z h
            unfold wipe
            rw [ih z fun x hx => h x (List.mem_cons_of_mem _ hx)]
            rcases h v List.mem_cons_self with e | e
            · apply List.ext_getElem?
              intro j
              by_cases hj : v = j
              · subst hj
                rw [List.getElem?_set_self (List.getElem?_eq_some_iff.mp e).1, e]
              · rw [List.getElem?_set_ne hj]
            · rw [List.set_eq_of_length_le e]
        have done : ∀ (l : List Nat) (z : L2.St), ∀ x ∈ l, (wipe z l)[x]? = some none ∨ (wipe z l).length ≤ x := by
          intro l
          induction l with
          | nil => intro z x hx; cases hx
          | cons v vs ih =>
            intro z x hx
            unfold wipe
            by_cases hv : v = x
            · subst hv
              by_cases hv2 : v < (wipe z vs).length
              · exact .inl (List.getElem?_set_self hv2)
              · exact .inr (by simpa using hv2)
            · rw [List.getElem?_set_ne hv, List.length_set]
              exact ih z x ((List.mem_cons.mp hx).resolve_left (Ne.symm hv))
        exact fix own _ (done own s)
      refine ⟨hs4.2.trans (ww own), upd B p (.lst vs), F4, r4, sl4, C4, hr4, hs4.1, out_of ht fun F5 r5 H5 b e8 e9 hr5 hb => ?_⟩
      subst hb
      cases bt with
      | false =>
        rw [if_neg Bool.false_ne_true] at h2 ⊢
        exact ⟨F5, r5, C5, acc, vs, out2, ((e3.trans e5).trans e6).trans e8, (e4.trans e7).trans e9, hr5, hacc.mono ((e5.trans e6).trans e8) (e7.trans e9), by omega, ho, h2⟩
      | true =>
        rw [if_pos rfl] at h2 ⊢
        obtain ⟨⟨ed, C6⟩, hm, h2⟩ := bind_okR h2
        obtain ⟨⟨out3, C7⟩, h3, h2⟩ := bind_okR h2
        cases h2
        refine ⟨upd B p (.lst vs), F5, r5, sl4, C5, hr5, hs4.1.mono e8 e9, out_of hm fun F6 r6 H6 v k1 k2 hr6 hv => ?_⟩
        have hacc6 := hacc.mono (((e5.trans e6).trans e8).trans k1) ((e7.trans e9).trans k2)
        refine ⟨vs, hr6.base p _ upd_same, ?_, F6, r6, C6, acc ++ [ed], vs ++ [v], out3, (((e3.trans e5).trans e6).trans e8).trans k1, ((e4.trans e7).trans e9).trans k2, ?_, hacc6.append (.one hv), by simp; omega, by rw [ho]; simp, h3⟩
        · rw [← hacc.length]
          omega
        · exact hr6.asideSet
    · have ei : i = ds.length := by omega
      subst ei
      rw [List.drop_length] at h2
      unfold lcM at h2
      split at h2
      case isFalse => cases h2
      rename_i hok
      cases h2
      refine .inl ⟨hJ.stops F2 r2 H2 _ e3 e4 hr2 hok, ?_⟩
      rw [List.append_nil] at ho
      subst ho
      have hB : B p = none := Same.free hr1.base hp
      unfold newL at o1
      cases cb with
      | true =>
        rw [if_pos rfl] at o1
        refine o1 F2 (r2 ++ [p]) H2 _ e3 (e4.trans (Ex.app r2 _)) (hr2.asideCell hB ⟨hr2.apart p _ upd_same, vs, hr2.base p _ upd_same, hacc.mono (.refl _) (Ex.app r2 _)⟩) ⟨p, rfl, ?_⟩
        rw [← hr2.len, List.getElem?_append_right (Nat.le_refl _)]
        simp
      | false =>
        rw [if_neg Bool.false_ne_true] at o1
        obtain ⟨k1, k2⟩ := hr2.asideFreeze hB
        exact o1 (upd F2 p (.lst vs)) r2 H2 _ (e3.trans k2) e4 k1 ⟨p, vs, rfl, .inl (.inl upd_same), hacc.mono k2 (.refl _)⟩
theorem ne_lc {cb : Bool} {elt : Expr} {ifs : List Expr} {scope : Scope} (own : List (Str × Nat)) {mi : MI} {g : MT} {t : MG Bool} {m : ME} (hc : X.calm = true) (hN : X.N.Nodup) (hi : NI X E tg it mi) (ok : BlkOk X.N X.env.scope scope own)
    (hg : ∀ (s : Shared) (H : Hp) (C : Addr) (cl : List (Str × Addr)) (fp : List Addr), NG (X.blk s H scope (compEnvC scope cl C X.env) fp) EN (own.map (·.2)) tg g)
    (ht : ∀ (s : Shared) (H : Hp) (C : Addr) (cl : List (Str × Addr)) (fp : List Addr), NTs (X.blk s H scope (compEnvC scope cl C X.env) fp) ifs t)
    (he : ∀ (s : Shared) (H : Hp) (C : Addr) (cl : List (Str × Addr)) (fp : List Addr), NE (X.blk s H scope (compEnvC scope cl C X.env) fp) EN elt m)
    (hs : ∀ x, foldedSetIterable it X.env x = pure x := by intro _; rfl) : NE X E (.ListComp elt [⟨tg, it, ifs, 0⟩] scope pos) (mLc cb (own.map (·.2)) mi g t m) :=
  ⟨pe_imp (pe_lc (own := own) hc hN hi.pi ok (fun s H C cl fp => (hg s H C cl fp).pg) (fun s H C cl fp => (ht s H C cl fp).pt) (fun s H C cl fp => (he s H C cl fp).pe) hs) lc_ok⟩
theorem ns_setLc {cb : Bool} (i : Nat) {y : Str} {py spos : Pos} {elt : Expr} {ifs : List Expr} {scope : Scope} (own : List (Str × Nat)) {mi : MI} {g : MT} {t : MG Bool} {m : ME} (hc : X.calm = true) (hN : X.N.Nodup) (hy : X.N[i]? = some y) (hyl : X.env.scope.names.lookup y = some .local)
    (hsw : swapsWith (.ListComp elt [⟨tg, it, ifs, 0⟩] scope pos) (some (.Name y py)) spos.line X.env = pure true) (hi : NI X E tg it mi) (ok : BlkOk X.N X.env.scope scope own)
    (hg : ∀ (s : Shared) (H : Hp) (C : Addr) (cl : List (Str × Addr)) (fp : List Addr), NG (X.blk s H scope (compEnvC scope cl C X.env) fp) EN (own.map (·.2)) tg g)
    (ht : ∀ (s : Shared) (H : Hp) (C : Addr) (cl : List (Str × Addr)) (fp : List Addr), NTs (X.blk s H scope (compEnvC scope cl C X.env) fp) ifs t)
    (he : ∀ (s : Shared) (H : Hp) (C : Addr) (cl : List (Str × Addr)) (fp : List Addr), NE (X.blk s H scope (compEnvC scope cl C X.env) fp) EN elt m)
    (hs : ∀ x, foldedSetIterable it X.env x = pure x := by intro _; rfl) : NS X E (.Assign [.Name y py] (.ListComp elt [⟨tg, it, ifs, 0⟩] scope pos) spos) (sAsg (mLc cb (own.map (·.2)) mi g t m) (gmN i)) :=
  ⟨ps_imp (ps_setLc (own := own) hc hN hy hyl hsw hi.pi ok (fun s H C cl fp => (hg s H C cl fp).pg) (fun s H C cl fp => (ht s H C cl fp).pt) (fun s H C cl fp => (he s H C cl fp).pe) hs) fun De s H q => by
    obtain ⟨B, F, r, sl, C, hr, hs, o⟩ := q
    refine lc_ok (cb := cb) s H _ ⟨B, F, r, sl, C, hr, hs, OutS.bind (P := Rep X.K) o fun x C1 F1 r1 H1 v e1 e2 hr1 hx o1 => ?_⟩
    exact OutS.next o1 hr1 ((hs.mono e1 e2).set hx i)⟩
end
end Nv

namespace Nv
open PySem PySem.Spec PyProof.Rows L2
mutual
/-- all cells that it names are among the first n -/
def closedD (n : Nat) : D → Bool
  | .non => true
  | .bl _ => true
  | .int _ => true
  | .str _ => true
  | .lst ds => closedDs n ds
  | .tup ds => closedDs n ds
  | .cell i => decide (i < n)
  | .edct => true
  | .fn _ => true
  | .exc _ _ ds => closedDs n ds
def closedDs (n : Nat) : List D → Bool
  | [] => true
  | d :: ds => closedD n d && closedDs n ds
end
def closedC (n : Nat) : Cell → Bool
  | .lst ds => closedDs n ds
  | .dk kvs => closedDs n (kvs.map (·.2))
  | .dt kvs => closedDs n (kvs.map (·.2))
  | .fz ds => closedDs n ds
  | .dn kvs => closedDs n (kvs.map (·.2))
  | .obj _ fs => closedDs n (fs.map (·.2))
  | .lk kvs => closedDs n (kvs.map (·.2))
mutual
theorem keyN_closed : ∀ (d : D) {k : NestedKey}, keyN d = some k → closedD 0 d = true
  | .non, _, _ => rfl
  | .bl _, _, _ => rfl
  | .int _, _, _ => rfl
  | .tup ds, k, e => by
    have e : (keysN ds).map NestedKey.tup = some k := e
    cases h : keysN ds with
    | none => rw [h] at e; cases e
    | some ks => exact keysN_closed ds h
  | .str _, _, e => nomatch e
  | .lst _, _, e => nomatch e
  | .cell _, _, e => nomatch e
  | .edct, _, e => nomatch e
  | .fn _, _, e => nomatch e
  | .exc _ _ _, _, e => nomatch e
theorem keysN_closed : ∀ (ds : List D) {ks : List NestedKey}, keysN ds = some ks → closedDs 0 ds = true
  | [], _, _ => rfl
  | d :: ds, ks, e => by
    have e : (keyN d).bind (fun k => (keysN ds).map (k :: ·)) = some ks := e
    cases h : keyN d with
    | none => rw [h] at e; cases e
    | some k =>
      rw [h, Option.bind_some] at e
      cases g : keysN ds with
      | none => rw [g] at e; cases e
      | some ks' =>
        show (closedD 0 d && closedDs 0 ds) = true
        rw [keyN_closed d h, keysN_closed ds g]
        rfl
end
mutual
theorem closed_up {n m : Nat} (h : n ≤ m) : ∀ d : D, closedD n d = true → closedD m d = true
  | .non, _ => rfl
  | .bl _, _ => rfl
  | .int _, _ => rfl
  | .str _, _ => rfl
  | .lst ds, c => closeds_up h ds c
  | .tup ds, c => closeds_up h ds c
  | .cell i, c => decide_eq_true (Nat.lt_of_lt_of_le (of_decide_eq_true c) h)
  | .edct, _ => rfl
  | .fn _, _ => rfl
  | .exc _ _ ds, c => closeds_up h ds c
theorem closeds_up {n m : Nat} (h : n ≤ m) : ∀ ds : List D, closedDs n ds = true → closedDs m ds = true
  | [], _ => rfl
  | d :: ds, c => by
    have c : (closedD n d && closedDs n ds) = true := c
    rw [Bool.and_eq_true] at c
    show (closedD m d && closedDs m ds) = true
    rw [closed_up h d c.1, closeds_up h ds c.2]
    rfl
end
section
variable {K : PySem.W.Frag} {mg : Str → Option Value} {E : XK} {B F F' : Hp} {r r' : List Addr} {H : Hp} {C : Store}
mutual
theorem Rep.closed : ∀ {d : D} {v : V}, Rep K F r d v → closedD r.length d = true
  | .non, _, _ => rfl
  | .bl _, _, _ => rfl
  | .int _, _, _ => rfl
  | .str _, _, _ => rfl
  | .lst ds, _, h => by
    obtain ⟨a, vs, _, _, q⟩ := h
    exact Reps.closed q
  | .tup ds, _, h => by
    obtain ⟨a, vs, _, _, q⟩ := h
    exact Reps.closed q
  | .cell i, _, h => by
    obtain ⟨a, _, q⟩ := h
    exact decide_eq_true (List.getElem?_eq_some_iff.mp q).1
  | .edct, _, _ => rfl
  | .fn _, _, _ => rfl
  | .exc _ _ ds, _, h => by
    obtain ⟨a, C, us, _, _, _, q⟩ := h
    exact Reps.closed q
theorem Reps.closed : ∀ {ds : List D} {vs : List V}, Reps K F r ds vs → closedDs r.length ds = true
  | [], _, _ => rfl
  | d :: ds, _, h => by
    obtain ⟨v, w, _, h1, h2⟩ := h
    unfold closedDs
    rw [Rep.closed h1, Reps.closed h2]
    rfl
end
mutual
theorem Rep.cut {n : Nat} (hr : ∀ (i : Nat) (a : Addr), i < n → r[i]? = some a → r'[i]? = some a) : ∀ {d : D} {v : V}, closedD n d = true → Rep K F r d v → Rep K F r' d v
  | .non, _, _, h => h
  | .bl _, _, _, h => h
  | .int _, _, _, h => h
  | .str _, _, _, h => h
  | .lst ds, _, c, h => by
    obtain ⟨a, vs, e, s, q⟩ := h
    exact ⟨a, vs, e, s, Reps.cut hr c q⟩
  | .tup ds, _, c, h => by
    obtain ⟨a, vs, e, s, q⟩ := h
    exact ⟨a, vs, e, s, Reps.cut hr c q⟩
  | .cell i, _, c, h => by
    obtain ⟨a, e, q⟩ := h
    exact ⟨a, e, hr i a (of_decide_eq_true c) q⟩
  | .edct, _, _, h => h
  | .fn _, _, _, h => h
  | .exc _ _ ds, _, c, h => by
    obtain ⟨a, C, us, e, h1, h2, q⟩ := h
    exact ⟨a, C, us, e, h1, h2, Reps.cut hr c q⟩
theorem Reps.cut {n : Nat} (hr : ∀ (i : Nat) (a : Addr), i < n → r[i]? = some a → r'[i]? = some a) : ∀ {ds : List D} {vs : List V}, closedDs n ds = true → Reps K F r ds vs → Reps K F r' ds vs
  | [], _, _, h => h
  | d :: ds, _, c, h => by
    obtain ⟨v, w, e, h1, h2⟩ := h
    have c : (closedD n d && closedDs n ds) = true := c
    rw [Bool.and_eq_true] at c
    exact ⟨v, w, e, Rep.cut hr c.1 h1, Reps.cut hr c.2 h2⟩
end
theorem CellOk.cut {n : Nat} (hr : ∀ (i : Nat) (a : Addr), i < n → r[i]? = some a → r'[i]? = some a) {a : Addr} {c : Cell} (hc : closedC n c = true) (h : CellOk K F r H a c) : CellOk K F r' H a c := by
  cases c with
  | lst ds =>
    obtain ⟨h1, vs, h2, h3⟩ := h
    exact ⟨h1, vs, h2, Reps.cut hr hc h3⟩
  | dk kvs =>
    obtain ⟨h1, vs, h2, h3, h4⟩ := h
    exact ⟨h1, vs, h2, h3, Reps.cut hr hc h4⟩
  | dt kvs =>
    obtain ⟨h1, vs, h2, h3, h4⟩ := h
    exact ⟨h1, vs, h2, h3, Reps.cut hr hc h4⟩
  | fz ds =>
    obtain ⟨vs, h2, h3⟩ := h
    exact ⟨vs, h2, Reps.cut hr hc h3⟩
  | dn kvs =>
    obtain ⟨h1, xs, h2, h3, h4, h5⟩ := h
    exact ⟨h1, xs, h2, h3, Reps.cut hr hc h4, fun x hx => let ⟨d, k1, k2, k3⟩ := h5 x hx; ⟨d, k1, k2, Rep.cut hr (closed_up (Nat.zero_le _) d (keyN_closed d k1)) k3⟩⟩
  | obj c fs =>
    obtain ⟨h1, C, dx, gs, h2, h3, h4, h5⟩ := h
    exact ⟨h1, C, dx, gs, h2, h3, h4, Reps.cut hr hc h5⟩
  | lk kvs =>
    obtain ⟨o, vs, h2, h3, h4⟩ := h
    exact ⟨o, vs, h2, h3, Reps.cut hr hc h4⟩
theorem CellOk.closed {a : Addr} {c : Cell} (h : CellOk K F r H a c) : closedC r.length c = true := by
  cases c with
  | lst ds => obtain ⟨h1, vs, h2, h3⟩ := h; exact h3.closed
  | dk kvs => obtain ⟨h1, vs, h2, h3, h4⟩ := h; exact h4.closed
  | dt kvs => obtain ⟨h1, vs, h2, h3, h4⟩ := h; exact h4.closed
  | fz ds => obtain ⟨vs, h2, h3⟩ := h; exact h3.closed
  | dn kvs => obtain ⟨h1, xs, h2, h3, h4, h5⟩ := h; exact h4.closed
  | obj c fs => obtain ⟨h1, C, dx, gs, h2, h3, h4, h5⟩ := h; exact h5.closed
  | lk kvs => obtain ⟨o, vs, h2, h3, h4⟩ := h; exact h4.closed
/-- some cells alone: the first n, and those in ks -/
theorem Rel.pick {n : Nat} {ks : List Nat} (h : Rel K B F r' H C) (hn : n ≤ C.length) (hf : ∀ (i : Nat) (c : Cell), i < n → C[i]? = some c → closedC n c = true) (hk : ∀ k ∈ ks, n ≤ k ∧ ∃ c, C[k]? = some c ∧ closedC n c = true) (hd : ks.Nodup) :
    Rel K B F (r'.take n ++ ks.map fun k => r'.getD k 0) H (C.take n ++ ks.map fun k => C.getD k (.fz [])) := by
  have hln : (r'.take n).length = n := by rw [List.length_take, h.len]; omega
  have hcn : (C.take n).length = n := by rw [List.length_take]; omega
  have low : ∀ (i : Nat) (a : Addr), i < n → r'[i]? = some a → (r'.take n ++ ks.map fun k => r'.getD k 0)[i]? = some a := fun i a hi e => by
    rw [List.getElem?_append_left (by omega), List.getElem?_take_of_lt hi]
    exact e
  have src : ∀ (i : Nat) (a : Addr), (r'.take n ++ ks.map fun k => r'.getD k 0)[i]? = some a → (i < n ∧ r'[i]? = some a) ∨ ∃ k, ks[i - n]? = some k ∧ n ≤ i ∧ r'[k]? = some a := fun i a e => by
    by_cases hi : i < n
    · rw [List.getElem?_append_left (by omega), List.getElem?_take_of_lt hi] at e
      exact .inl ⟨hi, e⟩
    · rw [List.getElem?_append_right (by omega), hln, List.getElem?_map] at e
      obtain ⟨k, e1, e2⟩ := map_some e
      obtain ⟨_, c, hc, _⟩ := hk k (List.mem_of_getElem? e1)
      have hkl : k < r'.length := by rw [h.len]; exact (List.getElem?_eq_some_iff.mp hc).1
      refine .inr ⟨k, e1, by omega, ?_⟩
      rw [← e2, List.getD_eq_getElem?_getD, List.getElem?_eq_getElem hkl]
      rfl
  refine ⟨h.froz, h.base, h.apart, fun i a e => ?_, by simp [hln, hcn], fun i c a e1 e2 => ?_, fun i j a e1 e2 => ?_⟩
  · rcases src i a e with ⟨_, e⟩ | ⟨k, _, _, e⟩
    · exact h.offB i a e
    · exact h.offB k a e
  · rcases src i a e2 with ⟨hi, e⟩ | ⟨k, hks, hni, e⟩
    · rw [List.getElem?_append_left (by omega), List.getElem?_take_of_lt hi] at e1
      exact CellOk.cut low (hf i c hi e1) (h.cells i c a e1 e)
    · rw [List.getElem?_append_right (by omega), hcn, List.getElem?_map, hks] at e1
      obtain ⟨_, c', hc, hcl⟩ := hk k (List.mem_of_getElem? hks)
      have e1 : C.getD k (.fz []) = c := Option.some.inj e1
      rw [List.getD_eq_getElem?_getD, hc] at e1
      have e1 : c' = c := e1
      subst e1
      exact CellOk.cut low hcl (h.cells k c' a hc e)
  · rcases src i a e1 with ⟨hi, e⟩ | ⟨k, hks, hni, e⟩
    · rcases src j a e2 with ⟨hj, q⟩ | ⟨l, hls, hnj, q⟩
      · exact h.inj i j a e q
      · have := h.inj i l a e q
        have := (hk l (List.mem_of_getElem? hls)).1
        omega
    · rcases src j a e2 with ⟨hj, q⟩ | ⟨l, hls, hnj, q⟩
      · have := h.inj k j a e q
        have := (hk k (List.mem_of_getElem? hks)).1
        omega
      · have ekl := h.inj k l a e q
        subst ekl
        obtain ⟨h1, e1⟩ := List.getElem?_eq_some_iff.mp hks
        obtain ⟨h2, e2⟩ := List.getElem?_eq_some_iff.mp hls
        have := (List.getElem_inj hd).mp (e1.trans e2.symm)
        omega
/-! the cells that a call leaves behind -/
open Classical in
noncomputable def fin (C : Store) (d : D) (C' : Store) : RE :=
  if C.length ≤ C'.length ∧ ∀ (i : Nat), i < C.length → C'[i]? = C[i]? ∨ ∃ c, C'[i]? = some c ∧ closedC C.length c = true then
    match d with
    | .cell k => if k < C.length then .ok (.cell k, C'.take C.length) else match C'[k]? with
      | some c => if closedC C.length c = true then .ok (.cell C.length, C'.take C.length ++ [c]) else .no
      | none => .no
    | .tup [.cell a, .cell b] => match C'[a]?, C'[b]? with
      | some c, some c2 => if C.length ≤ a ∧ C.length ≤ b ∧ a ≠ b ∧ closedC C.length c = true ∧ closedC C.length c2 = true then .ok (.tup [.cell C.length, .cell (C.length + 1)], C'.take C.length ++ [c, c2]) else .no
      | _, _ => .no
    | d => if closedD C.length d = true then .ok (d, C'.take C.length) else .no
  else .no
theorem fin_ok {C' : Store} {H' : Hp} {d : D} {v : V} {Q : VK} (hr : Rel K B F r H C) (e1 : Same F F') (e2 : Ex r r') (hr' : Rel K B F' r' H' C') (hd : Rep K F' r' d v) (o : Out (Rep K) K mg E B F r (fin C d C') Q) : Q v H' := by
  unfold fin at o
  split at o
  case isFalse => exact False.elim o
  rename_i hc
  have hn := hc.1
  have hcl : ∀ (i : Nat) (c : Cell), i < C.length → C'[i]? = some c → closedC C.length c = true := fun i c hi e => by
    rcases hc.2 i hi with q | ⟨c', q, z⟩
    · rw [q] at e
      obtain ⟨a, _, k⟩ := hr.addrAt e
      rw [← hr.len]
      exact k.closed
    · rw [q] at e
      cases e
      exact z
  have hpre : ∀ (i : Nat) (a : Addr), i < C.length → r'[i]? = some a → ∀ t, (r'.take C.length ++ t)[i]? = some a := fun i a hi e t => by
    rw [List.getElem?_append_left (by rw [List.length_take, hr'.len]; omega), List.getElem?_take_of_lt hi]
    exact e
  have hrr : ∀ t, Ex r (r'.take C.length ++ t) := fun t i a e => by
    have hi : i < C.length := by rw [← hr.len]; exact (List.getElem?_eq_some_iff.mp e).1
    exact hpre i a hi (e2 i a e) t
  have gen : ∀ (o : Out (Rep K) K mg E B F r (if closedD C.length d = true then .ok (d, C'.take C.length) else .no) Q), Q v H' := fun o => by
    split at o
    · rename_i hcd
      have p := hr'.pick (n := C.length) (ks := []) hn hcl (fun _ z => nomatch z) .nil
      rw [List.map_nil, List.append_nil, List.map_nil, List.append_nil] at p
      refine o F' (r'.take C.length) H' v e1 (fun i a e => ?_) p (Rep.cut (fun i a hi e => ?_) hcd hd)
      · have := hrr [] i a e
        rwa [List.append_nil] at this
      · have := hpre i a hi e []
        rwa [List.append_nil] at this
    · exact False.elim o
  split at o
  · rename_i k
    split at o
    · rename_i hk
      refine gen ?_
      rw [if_pos (show closedD C.length (.cell k) = true from decide_eq_true hk)]
      exact o
    · rename_i hk
      split at o
      · rename_i c ec
        split at o
        · rename_i hcc
          have p := hr'.pick (n := C.length) (ks := [k]) hn hcl (fun j hj => by cases List.mem_singleton.mp hj; exact ⟨by omega, c, ec, hcc⟩) (by simp)
          obtain ⟨a, rfl, ha⟩ := hd
          have e3 : C'.getD k (.fz []) = c := by rw [List.getD_eq_getElem?_getD, ec]; rfl
          have e4 : r'.getD k 0 = a := by rw [List.getD_eq_getElem?_getD, ha]; rfl
          simp only [List.map_cons, List.map_nil, e3, e4] at p
          refine o F' (r'.take C.length ++ [a]) H' (.ref a) e1 (hrr [a]) p ⟨a, rfl, ?_⟩
          rw [List.getElem?_append_right (by rw [List.length_take]; omega), List.length_take, hr'.len, Nat.min_eq_left hn, Nat.sub_self]
          rfl
        · exact False.elim o
      · exact False.elim o
  · rename_i x y
    split at o
    · rename_i c c2 ec ec2
      split at o
      · rename_i hcc
        obtain ⟨h1, h2, h3, h4, h5⟩ := hcc
        have p := hr'.pick (n := C.length) (ks := [x, y]) hn hcl (fun j hj => by
          rcases List.mem_cons.mp hj with rfl | hj
          · exact ⟨h1, c, ec, h4⟩
          · cases List.mem_singleton.mp hj; exact ⟨h2, c2, ec2, h5⟩) (by simp [h3])
        obtain ⟨t, vs, rfl, hT, v1, w1, rfl, ⟨a, rfl, ha⟩, v2, w2, rfl, ⟨b, rfl, hb⟩, h6⟩ := hd
        cases (show w2 = [] from h6)
        have e3 : C'.getD x (.fz []) = c := by rw [List.getD_eq_getElem?_getD, ec]; rfl
        have e4 : r'.getD x 0 = a := by rw [List.getD_eq_getElem?_getD, ha]; rfl
        have e5 : C'.getD y (.fz []) = c2 := by rw [List.getD_eq_getElem?_getD, ec2]; rfl
        have e6 : r'.getD y 0 = b := by rw [List.getD_eq_getElem?_getD, hb]; rfl
        simp only [List.map_cons, List.map_nil, e3, e4, e5, e6] at p
        refine o F' (r'.take C.length ++ [a, b]) H' (.ref t) e1 (hrr [a, b]) p ⟨t, _, rfl, hT, .cons ⟨a, rfl, ?_⟩ (.one ⟨b, rfl, ?_⟩)⟩
        · rw [List.getElem?_append_right (by rw [List.length_take]; omega), List.length_take, hr'.len, Nat.min_eq_left hn, Nat.sub_self]
          rfl
        · rw [List.getElem?_append_right (by rw [List.length_take]; omega), List.length_take, hr'.len, Nat.min_eq_left hn, Nat.add_sub_cancel_left]
          rfl
      · exact False.elim o
    · exact False.elim o
  · exact gen o
end
/-- a def's body from its arguments -/
noncomputable def runD (n : Nat) (u : MS) : MF := fun ds C => (u (ds.map some ++ List.replicate (n - ds.length) none) C).bind fun p => match p.1.1 with
  | .nx => fin C .non p.2
  | .rt d => fin C d p.2
  | _ => .no
theorem Sls.start {K : PySem.W.Frag} {F : Hp} {r : List Addr} {N : List Str} {ds : List D} {vs : List V} (h : Reps K F r ds vs) : Sls K F r (ds.map some ++ List.replicate (N.length - ds.length) none) (L2.start N vs) := by
  unfold L2.start
  rw [← h.length]
  refine ⟨by simp [h.length], fun i d e => ?_⟩
  by_cases hi : i < ds.length
  · rw [List.getElem?_append_left (by simpa using hi), List.getElem?_map] at e
    obtain ⟨d', e1, e2⟩ := map_some e
    cases e2
    obtain ⟨v, h1, h2⟩ := h.get e1
    refine ⟨v, ?_, h2⟩
    rw [List.getElem?_append_left (by rw [List.length_map, ← h.length]; exact hi), List.getElem?_map, h1]
    rfl
  · rw [List.getElem?_append_right (by rw [List.length_map]; omega)] at e
    rw [List.getElem?_replicate] at e
    split at e
    · cases e
    · cases e
section
variable {P : Program} {w : World} {K : PySem.W.Frag} {mg : Str → Option Value} {base : Heap}
theorem okD {x qual : Str} {st : Stmt} {f : Addr} {fd : FuncData} {N ps : List Str} {k : Nat} {u : MS} (F : Fun K x qual st f fd) (S : FnScope N ps (defScope st))
    (hb : ∀ (cdv : Value) (A : Around) (outer : List Env) (s : Shared) (H : Hp) (E : XK), Room k (A.deeper (envOfC qual (defScope st) s.heap.objs.size f cdv)) → A.guards = some [] →
      NSs (cxOf (L2.CX P w) P w K mg base N qual (defScope st) f cdv A outer s H E) E (defBody st) u) : FnG P w K mg base (k + 1) f fd ps (spN K mg ps.length (runD N.length u)) := by
  refine fnG_of F S spN_len fun cdv A outer s H vs Q E hr hg h => ⟨_, (hb cdv A outer s H E hr hg).ps, ?_⟩
  obtain ⟨B, F, r, C, ds, hr, hd, hl, o⟩ := h
  refine ⟨B, F, r, _, C, hr, Sls.start hd, ?_⟩
  unfold runD at o
  cases hu : u (ds.map some ++ List.replicate (N.length - ds.length) none) C with
  | ok p =>
    obtain ⟨⟨fl, sl'⟩, C'⟩ := p
    rw [hu, R.bind_ok] at o
    intro F' r' H' e1 e2 hr'
    cases fl with
    | nx => exact fun s' _ => fin_ok (d := .non) hr e1 e2 hr' rfl o
    | rt d => exact fun v hv => fin_ok hr e1 e2 hr' hv o
    | bk => exact False.elim o
    | ct => exact False.elim o
  | ex y Cy => rw [hu] at o; exact o
  | no => rw [hu] at o; exact o
end
end Nv

namespace Nv
open PySem PySem.Spec PyProof.Rows L2

/-! the law's end -/
theorem Rel.begin (K : PySem.W.Frag) (H : Hp) : Rel K (fun _ => none) H [] H [] where
  froz := .refl H
  base := fun _ _ z => nomatch z
  apart := fun _ _ z => nomatch z
  offB := fun i a z => by simp at z
  len := rfl
  cells := fun i c a z _ => by simp at z
  inj := fun i j a z _ => by simp at z
theorem law_end {P : Program} {w : World} {K : PySem.W.Frag} {mg mb : Str → Option Value} {k : Nat} {fa a : Addr} {fd : FuncData} {x : Str} {mf : MF} {s₁ : Shared} {vs : List Value} {ns : List Int} {C' : Store}
    (KX : K.In s₁.heap) (hns : s₁.heap.Ns mainGlobals mg) (hb : s₁.heap.Ns builtinsNs mb) (hbb : ∀ x : Str, x ≠ "__name__" → mb x = bootBuiltins x) (hlim : s₁.heap.NoLimit) (hg : s₁.gens = #[])
    (ha : s₁.heap.get? a = some { cls := .type "list", data := .seq vs.toArray }) (hi : IntsAre vs ns) (hl : ns.length ≤ sizeLine) (hr : Room k callerA)
    (F : ∀ base : Heap, K.In base → base.Ns mainGlobals mg → FnG P w K mg base k fa fd [x] (spN K mg 1 mf)) (hbind : ∀ (s : Shared) (u : Value), BindsTo s fd ⟨[u], []⟩ [(x, u)])
    (hm : mf [.lst (ns.map D.int)] [] = .ok (.bl true, C')) :
    codeAny (model P w) callerA (.call (.ref fa) ⟨[.ref a], []⟩) (fun r s' => r = .ok (.ret (.bool true)) ∧ OldK s₁.heap s'.heap ∧ s'.os = s₁.os ∧ AllBare s'.gens) s₁ := by
  have rv := vals_ints hi
  have lenV := hi.length
  have go : ∀ H : Hp, Only H → SqL K H a (ns.map V.int) → HOk P w H s₁.heap → (∀ b, H b ≠ none → b = a) → (H a ≠ none → K.lookup a = none) →
      codeAny (model P w) callerA (.call (.ref fa) ⟨[.ref a], []⟩) (fun r s' => r = .ok (.ret (.bool true)) ∧ OldK s₁.heap s'.heap ∧ s'.os = s₁.os ∧ AllBare s'.gens) s₁ := by
    intro H hO hS hok hA hK
    have only : ∀ {b : Addr} {u : HO}, H b = some u → b = a := fun {b u} q => hA b (by rw [q]; simp)
    have nsK : ∀ {b : Addr} {m : Str → Option Value}, s₁.heap.Ns b m → (hidT s₁.heap H).Ns b m := fun {b m} ⟨o, es, ep, e, d, r⟩ => by
      refine ⟨o, es, ep, hidT_get e ?_, d, r⟩
      cases q : H b with
      | none => rfl
      | some u =>
        cases only q
        rw [ha] at e
        cases e
        have d' : Data.seq vs.toArray _ = Data.dict es ep := d
        cases d'
    have hKb : K.In (hidT s₁.heap H) := fun b o e => by
      refine hidT_get (KX b o e) ?_
      cases q : H b with
      | none => rfl
      | some u =>
        cases only q
        rw [hK (by rw [q]; simp)] at e
        cases e
    have hM : Mod K mg (hidT s₁.heap H) := ⟨hKb, nsK hns, ⟨mb, nsK hb, hbb⟩, let ⟨mc, h1, h2⟩ := hlim; ⟨mc, nsK h1, h2⟩⟩
    have nomem : ∀ {b : Addr}, b ∉ frs [] := fun {b} hb => absurd (show b ∈ ([] : List Addr) from hb) (by simp)
    have e0 : Env0 P w K mg (hidT s₁.heap H) callerA [] s₁ H := ⟨rfl, hM, fun b o e => of_hidT e, Nat.le_of_eq (hidT_size _ _), trivial, fun b hb => (nomem hb).elim, hok, .of_eq hg⟩
    have hsp : spN K mg 1 mf [.ref a] H (fun v _ => v = .bl true) (fun _ _ _ => False) := by
      refine ⟨fun _ => none, H, [], [], [.lst (ns.map D.int)], Rel.begin K H, ⟨.ref a, [], rfl, ⟨a, ns.map V.int, rfl, hS, Reps.ofInts ns⟩, rfl⟩, rfl, ?_⟩
      rw [hm]
      exact fun F' r' H' v _ _ _ hv => hv
    refine codeAny_mono ((F _ hKb (nsK hns)).run callerA [] s₁ H ⟨[.ref a], []⟩ [.ref a] [.ref a] _ _ hr rfl e0 (hbind s₁ (.ref a)) (.cons rfl .nil) hsp) fun r s' h => ?_
    cases r with
    | error e =>
      obtain ⟨_, _, _, _, _, _, _, _, _, _, _, _, z⟩ := (show L2.CX P w [] H s₁ (fun _ _ _ => False) e s' from h)
      exact z.elim
    | ok fl =>
      cases fl with
      | next => exact False.elim h
      | brk => exact False.elim h
      | cont => exact False.elim h
      | ret u =>
        obtain ⟨v, H', os, bare, un, hok', r', q⟩ := h
        cases (show v = .bl true from q)
        cases (show u = Value.bool true from r')
        refine ⟨rfl, OldK.of_keep fun b o e => ?_, os, bare⟩
        cases q : H b with
        | none => exact un.keep b o e q nomem (by simp)
        | some u =>
          rcases hO b with z | ⟨ob, xs, z⟩
          · rw [q] at z; cases z
          · obtain ⟨e1, _⟩ := hok b _ z
            obtain ⟨e2, _⟩ := hok' b _ (un.frzs b ob _ z)
            rw [e] at e1
            cases e1
            exact e2
  cases hk : K.lookup a with
  | some o =>
    have e := KX a o hk
    rw [ha] at e
    cases e
    exact go (fun _ => none) (fun _ => .inl rfl) (.inr ⟨_, vs.toArray, _, hk, rfl, rfl, rfl, by rw [List.size_toArray, lenV]; exact hl, by simpa using rv⟩) (fun b u z => nomatch (show (none : Option HO) = some u from z)) (fun b z => absurd rfl z) fun z => absurd rfl z
  | none =>
    refine go (fun b => if b = a then some (.frz { cls := .type "list", data := .seq vs.toArray } (.lst (ns.map V.int))) else none) (fun b => ?_) (.inl (.inr ⟨{ cls := .type "list", data := .seq vs.toArray }, if_pos rfl⟩)) (fun b u z => ?_) (fun b z => ?_) fun _ => hk
    · by_cases hb : b = a
      · exact .inr ⟨_, _, if_pos hb⟩
      · exact .inl (if_neg hb)
    · by_cases hb : b = a
      · cases (if_pos hb).symm.trans z
        subst hb
        exact ⟨ha, by rw [List.length_map]; exact hl, vs, _, rv, ha⟩
      · cases (if_neg hb).symm.trans z
    · by_cases hb : b = a
      · exact hb
      · exact absurd (if_neg hb) z
theorem walkG {l : PySem.W.OpenLaw} {n k : Nat} {q : Program} {loose : List Str} {XP : (Str → Option Value) → Heap → Prop} {YP : World → Heap → Prop} {d : DefRec} {K : Params → PySem.W.Frag} {mf : MF} {x : Str}
    (hn : l.most = some n) (hn2 : n ≤ sizeLine) (hdf : d.params.defaults = []) (hr : Room k callerA) (hY : ∀ (w : World) (h : Heap), YP w h → (K w.params).In h)
    (F : ∀ (w : World) (mg : Str → Option Value) (fa : Addr) (h : Heap), (K w.params).In h → h.Ns mainGlobals mg → mg d.name = some (.ref fa) →
      ∃ fd : FuncData, (∀ (s : Shared) (u : Value), BindsTo s fd ⟨[u], []⟩ [(x, u)]) ∧ ∀ base : Heap, (K w.params).In base → base.Ns mainGlobals mg → FnG l.prog w (K w.params) mg base k fa fd [x] (spN (K w.params) mg 1 mf))
    (hm : ∀ ns : List Int, ns.length ≤ n → ∃ C', mf [.lst (ns.map D.int)] [] = .ok (.bl true, C')) :
    PySem.W.WalkO q loose XP YP l.row.toRowW d [] (fun f vs => PySem.call f vs) := by
  refine Att.attach_call hn hdf fun w s₀ s₁ mg mb fa o pm cd doc a vs ns G Y ho hd hcd hmg hobj hints hlen hg => ?_
  obtain ⟨fd, hb, hF⟩ := F w mg fa _ (hY w _ Y) G.T.g hmg
  obtain ⟨C', hm⟩ := hm ns hlen
  exact law_end (hY w _ Y) G.T.g G.T.b G.T.builtins G.T.nolimit hg hobj hints (Nat.le_trans hlen hn2) hr hF hb hm

/-! freezing -/
def frzL (f : D → Store → Option (D × Store)) : List D → Store → Option (List D × Store)
  | [], C => some ([], C)
  | d :: ds, C => (f d C).bind fun p => (frzL f ds p.2).bind fun q => some (p.1 :: q.1, q.2)
def frz : Nat → D → Store → Option (D × Store)
  | 0, x, C => some (x, C)
  | n + 1, x, C => match x with
    | .cell k => match C[k]? with
      | some (.lst ds) => (frzL (frz n) ds (C.set k (.fz ds))).bind fun q => some (.lst q.1, q.2)
      | some (.fz ds) => (frzL (frz n) ds C).bind fun q => some (.lst q.1, q.2)
      | _ => none
    | .tup ds => (frzL (frz n) ds C).bind fun q => some (.tup q.1, q.2)
    | .lst ds => (frzL (frz n) ds C).bind fun q => some (.lst q.1, q.2)
    | x => some (x, C)
section
variable {K : PySem.W.Frag} {mg : Str → Option Value} {E : XK} {B F F' H : Hp} {r r' : List Addr} {C : Store} {Q : VK} {X : Cx} {e : Expr} {m : ME}
theorem frzL_ok {f : D → Store → Option (D × Store)} (hf : ∀ (F : Hp) (C C' : Store) (x x' : D) (v : V), Rel K B F r H C → Rep K F r x v → f x C = some (x', C') → ∃ F', Same F F' ∧ Rel K B F' r H C' ∧ Rep K F' r x' v) :
    ∀ (ds ds' : List D) (F : Hp) (C C' : Store) (vs : List V), Rel K B F r H C → Reps K F r ds vs → frzL f ds C = some (ds', C') → ∃ F', Same F F' ∧ Rel K B F' r H C' ∧ Reps K F' r ds' vs
  | [], ds', F, C, C', vs, hr, hd, h => by cases h; exact ⟨F, .refl F, hr, hd⟩
  | d :: ds, ds', F, C, C', vs, hr, hd, h => by
    obtain ⟨v, w, rfl, h1, h2⟩ := hd
    unfold frzL at h
    obtain ⟨⟨d1, C1⟩, k1, h⟩ := bind_some h
    obtain ⟨⟨d2, C2⟩, k2, h⟩ := bind_some h
    cases h
    obtain ⟨F1, q1, q2, q3⟩ := hf F C C1 d d1 v hr h1 k1
    obtain ⟨F2, q4, q5, q6⟩ := frzL_ok hf ds d2 F1 C1 C2 w q2 (h2.mono q1 (.refl _)) k2
    exact ⟨F2, q1.trans q4, q5, .cons (q3.mono q4 (.refl _)) q6⟩
theorem frz_ok : ∀ (n : Nat) (F : Hp) (C C' : Store) (x x' : D) (v : V), Rel K B F r H C → Rep K F r x v → frz n x C = some (x', C') → ∃ F', Same F F' ∧ Rel K B F' r H C' ∧ Rep K F' r x' v
  | 0, F, C, C', x, x', v, hr, hx, h => by cases h; exact ⟨F, .refl F, hr, hx⟩
  | n + 1, F, C, C', x, x', v, hr, hx, h => by
    have ih := frz_ok n
    cases x with
    | cell k =>
      have h : (match C[k]? with
      | some (.lst ds) => (frzL (frz n) ds (C.set k (.fz ds))).bind fun q => some (.lst q.1, q.2)
      | some (.fz ds) => (frzL (frz n) ds C).bind fun q => some (.lst q.1, q.2)
      | _ => none) = some (x', C') := h
      obtain ⟨a, rfl, h1⟩ := hx
      split at h
      · rename_i ds hc
        obtain ⟨⟨ds', C1⟩, k1, h⟩ := bind_some h
        cases h
        obtain ⟨h2, vs, h3, h4⟩ := hr.cells k _ a hc h1
        obtain ⟨q1, q2⟩ := hr.kill h1 h2 h3 h4
        obtain ⟨F', q3, q4, q5⟩ := frzL_ok ih ds ds' _ _ _ vs q1 (h4.mono q2 (.refl _)) k1
        exact ⟨F', q2.trans q3, q4, a, vs, rfl, .inl (.inl (q3 _ _ upd_same)), q5⟩
      · rename_i ds hc
        obtain ⟨⟨ds', C1⟩, k1, h⟩ := bind_some h
        cases h
        obtain ⟨vs, h3, h4⟩ := hr.cells k _ a hc h1
        obtain ⟨F', q3, q4, q5⟩ := frzL_ok ih ds ds' _ _ _ vs hr h4 k1
        exact ⟨F', q3, q4, a, vs, rfl, .inl (.inl (q3 _ _ h3)), q5⟩
      · cases h
    | tup ds =>
      obtain ⟨⟨ds', C1⟩, k1, h⟩ := bind_some (show ((frzL (frz n) ds C).bind fun q => some (.tup q.1, q.2)) = some (x', C') from h)
      cases h
      obtain ⟨a, vs, rfl, h1, h2⟩ := hx
      obtain ⟨F', q3, q4, q5⟩ := frzL_ok ih ds ds' _ _ _ vs hr h2 k1
      exact ⟨F', q3, q4, a, vs, rfl, Same.tup q3 h1, q5⟩
    | lst ds =>
      obtain ⟨⟨ds', C1⟩, k1, h⟩ := bind_some (show ((frzL (frz n) ds C).bind fun q => some (.lst q.1, q.2)) = some (x', C') from h)
      cases h
      obtain ⟨a, vs, rfl, h1, h2⟩ := hx
      obtain ⟨F', q3, q4, q5⟩ := frzL_ok ih ds ds' _ _ _ vs hr h2 k1
      exact ⟨F', q3, q4, a, vs, rfl, Same.seq q3 h1, q5⟩
    | non => cases h; exact ⟨F, .refl F, hr, hx⟩
    | bl b => cases h; exact ⟨F, .refl F, hr, hx⟩
    | int b => cases h; exact ⟨F, .refl F, hr, hx⟩
    | str b => cases h; exact ⟨F, .refl F, hr, hx⟩
    | edct => cases h; exact ⟨F, .refl F, hr, hx⟩
    | fn b => cases h; exact ⟨F, .refl F, hr, hx⟩
    | exc c f b => cases h; exact ⟨F, .refl F, hr, hx⟩
/-- frozen, the cells of the value's making let go -/
noncomputable def mFz (n : Nat) (m : ME) : ME := fun sl C => (m sl C).bind fun p => match frz n p.1 p.2 with
  | some q => fin C q.1 q.2
  | none => .no
theorem ne_fz (n : Nat) (he : NE X E e m) : NE X E e (mFz n m) := ⟨pe_imp he.pe fun s H Q q => by
    obtain ⟨B, F, r, sl, C, hr, hs, o⟩ := q
    refine ⟨B, F, r, sl, C, hr, hs, ?_⟩
    unfold mFz at o
    cases hm : m sl C with
    | ok p =>
      obtain ⟨d, C1⟩ := p
      rw [hm, R.bind_ok] at o
      intro F' r' H' v e1 e2 hr' hd
      simp only at o
      split at o
      · rename_i z hz
        obtain ⟨d2, C2⟩ := z
        obtain ⟨F2, q1, q2, q3⟩ := frz_ok n F' C1 C2 d d2 v hr' hd hz
        exact fin_ok hr (e1.trans q1) e2 q2 q3 o
      · exact False.elim o
    | ex y Cy => rw [hm] at o; exact o
    | no => rw [hm] at o; exact o⟩
/-- frozen for good -/
def mFrz (n : Nat) (m : ME) : ME := fun sl C => (m sl C).bind fun p => match frz n p.1 p.2 with
  | some q => .ok q
  | none => .no
theorem ne_frz (n : Nat) (he : NE X E e m) : NE X E e (mFrz n m) := ⟨pe_imp he.pe fun s H Q q => by
    obtain ⟨B, F, r, sl, C, hr, hs, o⟩ := q
    refine ⟨B, F, r, sl, C, hr, hs, ?_⟩
    unfold mFrz at o
    cases hm : m sl C with
    | ok p =>
      obtain ⟨d, C1⟩ := p
      rw [hm, R.bind_ok] at o
      intro F' r' H' v e1 e2 hr' hd
      simp only at o
      split at o
      · rename_i z hz
        obtain ⟨d2, C2⟩ := z
        obtain ⟨F2, q1, q2, q3⟩ := frz_ok n F' C1 C2 d d2 v hr' hd hz
        exact o F2 r' H' v (e1.trans q1) e2 q2 q3
      · exact False.elim o
    | ex y Cy => rw [hm] at o; exact o
    | no => rw [hm] at o; exact o⟩

/-! the text of data -/
def rRepr (K : PySem.W.Frag) : List V → Hp → VK → Prop := fun xs H Q => ∃ x d, xs = [x] ∧ Dp K H x d ∧ d.showable = true ∧ d.depth ≤ 64 ∧ d.shown.length ≤ sizeLine ∧ Q (.str d.shown) H
theorem dp_noDict : ∀ {d : PyData} {x : V}, Dp K H x d → d.hasDict = false := fun {d x} h => by
  have one : ∀ (d : PyData) (x : V), Dp K H x d → d.hasDict = false := by
    intro d
    refine PyData.rec (motive_1 := fun d => ∀ x, Dp K H x d → d.hasDict = false) (motive_2 := fun ds => ∀ xs, DpAll K H xs ds → PyData.hasDictAll ds = false) (motive_3 := fun _ => True) (motive_4 := fun _ => True) ?_ ?_ ?_ ?_ ?_ ?_ ?_ ?_ ?_ ?_ ?_ ?_ d
    · intro x _; rfl
    · intro b x _; rfl
    · intro b x _; rfl
    · intro b x _; rfl
    · intro ds ih x h
      cases h with
      | lst _ h => exact ih _ h
    · intro ds ih x h
      cases h with
      | tup _ h => exact ih _ h
    · intro kvs _ x h
      cases h
    · intro xs _; rfl
    · intro d ds ih1 ih2 xs h
      cases h with
      | cons h1 h2 =>
        unfold PyData.hasDictAll
        rw [ih1 _ h1, ih2 _ h2]
        rfl
    · trivial
    · intros; trivial
    · intros; trivial
  exact one d x h
theorem call_reprD {k : Nat} (hr : Room k X.A) (hgd : X.A.guards = some []) : CallR X (.builtin "repr") (rRepr X.K) := by
  intro pins s σ H xs us Q I rr h
  obtain ⟨x, d, rfl, hd, hs, hdp, hz, q⟩ := h
  obtain ⟨u, rfl, rx⟩ := vals1 rr
  obtain ⟨as, hread⟩ := Dp.reads I d x u hd rx
  have hu := hr.un
  cases hd with
  | non => cases rx; exact PySem.P.repr_of_none ⟨.str _, H, I.tok _, ⟨_, rfl⟩, q⟩
  | bl b => cases rx; exact PySem.P.repr_of_bool ⟨.str _, H, I.tok _, ⟨_, rfl⟩, q⟩
  | int i =>
    obtain ⟨t, rfl⟩ := rx
    exact PySem.P.repr_of_int (of_decide_eq_true hs) ⟨.str _, H, I.tok _, ⟨_, rfl⟩, q⟩
  | str y =>
    obtain ⟨t, rfl⟩ := rx
    exact PySem.P.repr_of_str ⟨.str _, H, I.tok _, ⟨_, rfl⟩, q⟩ hz
  | @lst a ys ds h1 h2 =>
    cases rx
    exact repr_of_reads' hread hs (fun z => absurd z (by rw [dp_noDict (.lst h1 h2)]; exact Bool.false_ne_true)) hgd (by omega) (fun _ _ z => z) (fun h' u tk hk => ⟨.str _, H, I.kept hk, ⟨_, rfl⟩, q⟩) hz
  | @tup a ys ds h1 h2 =>
    cases rx
    exact repr_of_reads' hread hs (fun z => absurd z (by rw [dp_noDict (.tup h1 h2)]; exact Bool.false_ne_true)) hgd (by omega) (fun _ _ z => z) (fun h' u tk hk => ⟨.str _, H, I.kept hk, ⟨_, rfl⟩, q⟩) hz
def gRepr (x : D) (C : Store) : RE := match toP C x with
  | some p => if p.showable = true ∧ p.depth ≤ 64 ∧ p.shown.length ≤ sizeLine then .ok (.str p.shown, C) else .no
  | none => .no
theorem reprN : CallN K mg E (rRepr K) (on1 gRepr) := on1N fun B F r H C x v Q hr hx o => by
  unfold gRepr at o
  split at o
  · rename_i p e
    split at o
    · rename_i h
      exact ⟨v, p, rfl, toP_ok hr hx e, h.1, h.2.1, h.2.2, out_ok (d := .str p.shown) hr rfl o⟩
    · exact False.elim o
  · exact False.elim o
end
end Nv

namespace Nv
open PySem PySem.Spec PyProof.Rows L2
section
variable {X : Cx} {E : XK} {a b c e : Expr} {es : List Expr} {m ma mb mc : ME} {mas : MG (List D)} {pos p1 : Pos}
/-- a op b op' c -/
def mCh (g g' : D → D → Store → RE) (ma mb mc : ME) : ME := fun sl C => (ma sl C).bind fun p => (mb sl p.2).bind fun q => (g p.1 q.1 q.2).bind fun t => match t.1 with
  | .bl true => (mc sl t.2).bind fun z => g' q.1 z.1 z.2
  | .bl false => .ok (.bl false, t.2)
  | _ => .no
theorem chain_ok {r1 r2 : R2} {g g' : D → D → Store → RE} (hg : OpN X.K X.mg E r1 g) (hg' : OpN X.K X.mg E r2 g') :
    ∀ s H Q, LG (Rep X.K) X.K X.mg E (mCh g g' ma mb mc) s H Q → tChain r1 r2 (LG (Rep X.K) X.K X.mg E ma) (LG (Rep X.K) X.K X.mg E mb) (LG (Rep X.K) X.K X.mg E mc) s H Q := fun s H Q q => by
  obtain ⟨B, F, r, sl, C, hr, hs, o⟩ := q
  refine ⟨B, F, r, sl, C, hr, hs, Out.bind (P := Rep X.K) o fun x C1 F1 r1 H1 v e1 e2 hr1 hx o1 => ?_⟩
  refine ⟨B, F1, r1, sl, C1, hr1, hs.mono e1 e2, Out.bind (P := Rep X.K) o1 fun y C2 F2 r2' H2 u e3 e4 hr2 hy o2 => ?_⟩
  refine hg B F2 r2' H2 C2 x y v u _ hr2 (hx.mono e3 e4) hy (Out.bind (P := Rep X.K) o2 fun z C3 F3 r3 H3 w e5 e6 hr3 hz o3 => ?_)
  cases z with
  | bl k =>
    refine ⟨k, hz, ?_⟩
    cases k with
    | false =>
      rw [if_neg Bool.false_ne_true]
      exact out_ok (d := .bl false) hr3 rfl o3
    | true =>
      rw [if_pos rfl]
      refine ⟨B, F3, r3, sl, C3, hr3, ((hs.mono e1 e2).mono e3 e4).mono e5 e6, Out.bind (P := Rep X.K) o3 fun t C4 F4 r4 H4 w4 e7 e8 hr4 ht o4 => ?_⟩
      exact hg' B F4 r4 H4 C4 y t u w4 Q hr4 ((hy.mono e5 e6).mono e7 e8) ht o4
  | _ => exact False.elim o3
theorem ne_ch {op op' : CmpOp} {r1 r2 : R2} {g g' : D → D → Store → RE} (ho : OpR X (compareOp op) r1) (ho' : OpR X (compareOp op') r2) (hg : OpN X.K X.mg E r1 g) (hg' : OpN X.K X.mg E r2 g') (ha : NE X E a ma) (hb : NE X E b mb) (hc : NE X E c mc) (hmk : lastMarks [op, op'] [b, c] = false := by with_unfolding_all rfl) :
    NE X E (.Compare a [op, op'] [b, c] pos) (mCh g g' ma mb mc) := ⟨pe_imp (pe_chain ho ho' ha.pe hb.pe hc.pe hmk) (chain_ok hg hg')⟩
theorem nt_ch {op op' : CmpOp} {r1 r2 : R2} {g g' : D → D → Store → RE} (ho : OpR X (compareOp op) r1) (ho' : OpR X (compareOp op') r2) (hg : OpN X.K X.mg E r1 g) (hg' : OpN X.K X.mg E r2 g') (ha : NE X E a ma) (hb : NE X E b mb) (hc : NE X E c mc)
    (hmk : lastMarks [op, op'] [b, c] = false := by with_unfolding_all rfl) : NT X E (.Compare a [op, op'] [b, c] pos) (mT (mCh g g' ma mb mc)) := ⟨pt_imp (pt_chain ho ho' ha.pe hb.pe hc.pe hmk) (test (chain_ok hg hg'))⟩
/-- a constant of the module -/
def GlobC (mg : Str → Option Value) (K : PySem.W.Frag) (x : Str) (d : D) : Prop := ∃ u v, mg x = some u ∧ RelV v u ∧ ∀ F r, Rep K F r d v
theorem ne_glob {x : Str} {d : D} (h : GlobC X.mg X.K x d) (hg : Gl X x := by rfl) (hd : (x == ("__debug__" : Str)) = false := by decide) : NE X E (.Name x pos) (mC d) := by
  obtain ⟨u, v, h1, h2, h3⟩ := h
  exact ne_c (pe_glob hg h1 h2 hd) h3
/-- an expression as a whole may be told by another -/
theorem ne_eq {m' : ME} (h : NE X E e m) (he : m = m') : NE X E e m' := he ▸ h
end

/-! defs by their names -/
def Cal (P : Program) (w : World) (K : PySem.W.Frag) (mg : Str → Option Value) (base : Heap) (x : Str) (k n : Nat) (mf : MF) : Prop :=
  ∃ f fd ps, FnG P w K mg base k f fd ps (spN K mg n mf) ∧ mg x = some (.ref f) ∧ PySem.W.keepIn K (.ref f) = true ∧ L2.Binds K fd ps []
def DefAt (K : PySem.W.Frag) (mg : Str → Option Value) (x : Str) (st : Stmt) (ps : List Str) : Prop := ∃ f fd, Fun K x x st f fd ∧ mg x = some (.ref f) ∧ L2.Binds K fd ps []
section
variable {P : Program} {w : World} {K : PySem.W.Frag} {mg : Str → Option Value} {base : Heap}
theorem Cal.mono {x : Str} {j k n : Nat} {mf : MF} (h : Cal P w K mg base x j n mf) (hjk : j ≤ k) : Cal P w K mg base x k n mf := by
  obtain ⟨f, fd, ps, h1, h2⟩ := h
  exact ⟨f, fd, ps, h1.mono hjk, h2⟩
theorem Cal.of {x : Str} {st : Stmt} {N ps : List Str} {k : Nat} {u : MS} (h : DefAt K mg x st ps) (S : FnScope N ps (defScope st))
    (hb : ∀ (f : Addr) (cdv : Value) (A : Around) (outer : List Env) (s : Shared) (H : Hp) (E : XK), Room k (A.deeper (envOfC x (defScope st) s.heap.objs.size f cdv)) → A.guards = some [] →
      NSs (cxOf (L2.CX P w) P w K mg base N x (defScope st) f cdv A outer s H E) E (defBody st) u) : Cal P w K mg base x (k + 1) ps.length (runD N.length u) := by
  obtain ⟨f, fd, h1, h2, h3⟩ := h
  exact ⟨f, fd, ps, okD h1 S fun cdv A outer s H E hr hg => hb f cdv A outer s H E hr hg, h2, h1.kp, h3⟩
end
section
variable {X : Cx} {E : XK} {e : Expr} {es : List Expr} {mas : MG (List D)} {pos p1 : Pos}
theorem ne_cal {x : Str} {k n : Nat} {mf : MF} (h : Cal X.prog X.w X.K X.mg X.base x k n mf) (hr : Room k X.A) (hgd : X.A.guards = some []) (hx : Passes (L2.CX X.prog X.w) X E) (ha : NA X E (e :: es) mas) (hg : Gl X x := by rfl)
    (hdb : (x == ("__debug__" : Str)) = false := by decide) (he : starEach (e :: es) X.env = (false, eval e X.env) :: starEach es X.env := by rfl) (hpl : (backTo pos (starEach es X.env)).any (·.1) = false := by rfl) : NE X E (.Call (.Name x p1) (e :: es) [] pos) (mF n mf mas) := by
  obtain ⟨f, fd, ps, h1, h2, h3, h4⟩ := h
  exact ne_call h1 hr hgd h2 h3 h4 hx ha hg hdb he hpl
theorem ne_cal0 {x : Str} {k n : Nat} {mf : MF} (h : Cal X.prog X.w X.K X.mg X.base x k n mf) (hr : Room k X.A) (hgd : X.A.guards = some []) (hx : Passes (L2.CX X.prog X.w) X E) (hg : Gl X x := by rfl) (hdb : (x == ("__debug__" : Str)) = false := by decide) :
    NE X E (.Call (.Name x p1) [] [] pos) (mF n mf aNil) := by
  obtain ⟨f, fd, ps, h1, h2, h3, h4⟩ := h
  exact ne_call0 h1 hr hgd h2 h3 h4 hx hg hdb
end
theorem Cal.zero {P : Program} {w : World} {K : PySem.W.Frag} {mg : Str → Option Value} {base : Heap} {x : Str} {st : Stmt} {ps : List Str} {k : Nat} (h : DefAt K mg x st ps) : Cal P w K mg base x k ps.length (fun _ _ => .no) := by
  obtain ⟨f, fd, h1, h2, h3⟩ := h
  exact ⟨f, fd, ps, ⟨spN_len, fun A outer s H args us vs Q E _ _ _ _ _ h => by
    obtain ⟨_, _, _, _, _, _, _, _, o⟩ := h
    exact False.elim o⟩, h2, h1.kp, h3⟩
theorem pass_cx {P : Program} {w : World} {K : PySem.W.Frag} {mg : Str → Option Value} {base : Heap} {N : List Str} {qual : Str} {scope : Scope} {f : Addr} {cd : Value} {A : Around} {outer : List Env} {s : Shared} {H : Hp} {E : XK} :
    Passes (L2.CX P w) (cxOf (L2.CX P w) P w K mg base N qual scope f cd A outer s H E) E := passes_call (takes_of rfl rfl rfl rfl) fun _ _ _ _ h => h
theorem own_cx {P : Program} {w : World} {K : PySem.W.Frag} {mg : Str → Option Value} {base : Heap} {N : List Str} {qual : Str} {scope : Scope} {f : Addr} {cd : Value} {A : Around} {outer : List Env} {s : Shared} {H : Hp} {E : XK} :
    PassesOwn (model P w) (cxOf (L2.CX P w) P w K mg base N qual scope f cd A outer s H E).A (cxOf (L2.CX P w) P w K mg base N qual scope f cd A outer s H E).env (cxOf (L2.CX P w) P w K mg base N qual scope f cd A outer s H E).xe := passes_of (X := cxOf (L2.CX P w) P w K mg base N qual scope f cd A outer s H E) rfl
end Nv

namespace Nv
open PySem PySem.Spec PyProof.Rows L2
/-! the cells that a block made go, and some names with them -/
def slOk (n : Nat) (sl : Sl) : Bool := sl.all fun o => match o with
  | some d => closedD n d
  | none => true
open Classical in
noncomputable def sGc (ks : List Nat) (u : MS) : MS := fun sl C => (u sl C).bind fun p => match p.1.1 with
  | .nx => if C.length ≤ p.2.length ∧ (∀ (i : Nat), i < C.length → p.2[i]? = C[i]? ∨ ∃ c, p.2[i]? = some c ∧ closedC C.length c = true) ∧ slOk C.length (wipeS p.1.2 ks) = true then .ok ((.nx, wipeS p.1.2 ks), p.2.take C.length) else .no
  | .ct => if C.length ≤ p.2.length ∧ (∀ (i : Nat), i < C.length → p.2[i]? = C[i]? ∨ ∃ c, p.2[i]? = some c ∧ closedC C.length c = true) ∧ slOk C.length (wipeS p.1.2 ks) = true then .ok ((.ct, wipeS p.1.2 ks), p.2.take C.length) else .no
  | _ => .ok p
section
variable {K : PySem.W.Frag} {mg : Str → Option Value} {E : XK} {B F F' : Hp} {r r' : List Addr} {H H' : Hp} {C C1 : Store} {De : Ends} {s : L2.St} {sl sl1 : Sl}
theorem wipeS_sub : ∀ (ks : List Nat) (sl : Sl) (i : Nat) (d : D), (wipeS sl ks)[i]? = some (some d) → sl[i]? = some (some d) := by
  intro ks
  induction ks with
  | nil => intro sl i d h; exact h
  | cons k ks ih =>
    intro sl i d h
    unfold wipeS at h
    by_cases hk : k = i
    · subst hk
      rw [List.getElem?_set] at h
      split at h
      · split at h <;> cases h
      · exact ih _ _ _ h
    · rw [List.getElem?_set_ne hk] at h
      exact ih _ _ _ h
theorem wipeS_len : ∀ (ks : List Nat) (sl : Sl), (wipeS sl ks).length = sl.length := by
  intro ks
  induction ks with
  | nil => intro sl; rfl
  | cons k ks ih => intro sl; unfold wipeS; rw [List.length_set, ih]
theorem slOk_get {n : Nat} {sl : Sl} {i : Nat} {d : D} (h : slOk n sl = true) (e : sl[i]? = some (some d)) : closedD n d = true := by
  unfold slOk at h
  rw [List.all_eq_true] at h
  exact h _ (List.mem_of_getElem? e)
theorem gc_core {ks : List Nat} (hr : Rel K B F r H C) (hn : C.length ≤ C1.length) (hc : ∀ (i : Nat), i < C.length → C1[i]? = C[i]? ∨ ∃ c, C1[i]? = some c ∧ closedC C.length c = true) (hsl : slOk C.length (wipeS sl1 ks) = true)
    (e1 : Same F F') (e2 : Ex r r') (hr' : Rel K B F' r' H' C1) : ∃ r2, Ex r r2 ∧ Rel K B F' r2 H' (C1.take C.length) ∧ ∀ s, Sls K F' r' sl1 s → Sls K F' r2 (wipeS sl1 ks) s := by
  have hcl : ∀ (i : Nat) (c : Cell), i < C.length → C1[i]? = some c → closedC C.length c = true := fun i c hi e => by
    rcases hc i hi with q | ⟨c', q, z⟩
    · rw [q] at e
      obtain ⟨a, _, k⟩ := hr.addrAt e
      rw [← hr.len]
      exact k.closed
    · rw [q] at e
      cases e
      exact z
  have p := hr'.pick (n := C.length) (ks := []) hn hcl (fun _ z => nomatch z) .nil
  rw [List.map_nil, List.append_nil, List.map_nil, List.append_nil] at p
  have hcut : ∀ (i : Nat) (a : Addr), i < C.length → r'[i]? = some a → (r'.take C.length)[i]? = some a := fun i a hi e => by
    rw [List.getElem?_take_of_lt hi]
    exact e
  refine ⟨r'.take C.length, fun i a e => ?_, p, fun s hs => ?_⟩
  · have hi : i < C.length := by rw [← hr.len]; exact (List.getElem?_eq_some_iff.mp e).1
    exact hcut i a hi (e2 i a e)
  · refine ⟨by rw [wipeS_len]; exact hs.1, fun i d e => ?_⟩
    obtain ⟨v, h1, h2⟩ := hs.2 i d (wipeS_sub _ _ _ _ e)
    exact ⟨v, h1, Rep.cut hcut (slOk_get hsl e) h2⟩
variable {X : Cx} {st : List Stmt} {u : MS}
theorem nss_gc (ks : List Nat) (h : NSs X E st u) : NSs X E st (sGc ks u) := ⟨pss_imp h.ps fun De s H q => by
    obtain ⟨B, F, r, sl, C, hr, hs, o⟩ := q
    refine ⟨B, F, r, sl, C, hr, hs, ?_⟩
    unfold sGc at o
    cases hu : u sl C with
    | ok p =>
      obtain ⟨⟨f, sl1⟩, C1⟩ := p
      rw [hu, R.bind_ok] at o
      cases f with
      | nx =>
        simp only at o
        split at o
        · rename_i hc
          obtain ⟨h1, h2, h3⟩ := hc
          intro F' r' H' k1 k2 k3 s' hs'
          obtain ⟨r2, g1, g2, g3⟩ := gc_core hr h1 h2 h3 k1 k2 k3
          exact o F' r2 H' k1 g1 g2 s' (g3 s' hs')
        · exact False.elim o
      | ct =>
        simp only at o
        split at o
        · rename_i hc
          obtain ⟨h1, h2, h3⟩ := hc
          intro F' r' H' k1 k2 k3 s' hs'
          obtain ⟨r2, g1, g2, g3⟩ := gc_core hr h1 h2 h3 k1 k2 k3
          exact o F' r2 H' k1 g1 g2 s' (g3 s' hs')
        · exact False.elim o
      | rt d => exact o
      | bk => exact o
    | ex x Cx => rw [hu] at o; exact o
    | no => rw [hu] at o; exact o⟩
end
/-! a def that leaves its cells where they are -/
def runK (n : Nat) (u : MS) : MF := fun ds C => (u (ds.map some ++ List.replicate (n - ds.length) none) C).bind fun p => match p.1.1 with
  | .nx => .ok (.non, p.2)
  | .rt d => .ok (d, p.2)
  | _ => .no
section
variable {P : Program} {w : World} {K : PySem.W.Frag} {mg : Str → Option Value} {base : Heap}
theorem okDK {x qual : Str} {st : Stmt} {f : Addr} {fd : FuncData} {N ps : List Str} {k : Nat} {u : MS} (F : Fun K x qual st f fd) (S : FnScope N ps (defScope st))
    (hb : ∀ (cdv : Value) (A : Around) (outer : List Env) (s : Shared) (H : Hp) (E : XK), Room k (A.deeper (envOfC qual (defScope st) s.heap.objs.size f cdv)) → A.guards = some [] →
      NSs (cxOf (L2.CX P w) P w K mg base N qual (defScope st) f cdv A outer s H E) E (defBody st) u) : FnG P w K mg base (k + 1) f fd ps (spN K mg ps.length (runK N.length u)) := by
  refine fnG_of F S spN_len fun cdv A outer s H vs Q E hr hg h => ⟨_, (hb cdv A outer s H E hr hg).ps, ?_⟩
  obtain ⟨B, F, r, C, ds, hr, hd, hl, o⟩ := h
  refine ⟨B, F, r, _, C, hr, Sls.start hd, ?_⟩
  unfold runK at o
  cases hu : u (ds.map some ++ List.replicate (N.length - ds.length) none) C with
  | ok p =>
    obtain ⟨⟨fl, sl'⟩, C'⟩ := p
    rw [hu, R.bind_ok] at o
    intro F' r' H' e1 e2 hr'
    cases fl with
    | nx => exact fun s' _ => o F' r' H' .non e1 e2 hr' rfl
    | rt d => exact fun v hv => o F' r' H' v e1 e2 hr' hv
    | bk => exact False.elim o
    | ct => exact False.elim o
  | ex y Cy => rw [hu] at o; exact o
  | no => rw [hu] at o; exact o
theorem Cal.ofK {x : Str} {st : Stmt} {N ps : List Str} {k : Nat} {u : MS} (h : DefAt K mg x st ps) (S : FnScope N ps (defScope st))
    (hb : ∀ (f : Addr) (cdv : Value) (A : Around) (outer : List Env) (s : Shared) (H : Hp) (E : XK), Room k (A.deeper (envOfC x (defScope st) s.heap.objs.size f cdv)) → A.guards = some [] →
      NSs (cxOf (L2.CX P w) P w K mg base N x (defScope st) f cdv A outer s H E) E (defBody st) u) : Cal P w K mg base x (k + 1) ps.length (runK N.length u) := by
  obtain ⟨f, fd, h1, h2, h3⟩ := h
  exact ⟨f, fd, ps, okDK h1 S fun cdv A outer s H E hr hg => hb f cdv A outer s H E hr hg, h2, h1.kp, h3⟩
end
end Nv

namespace Nv
open PySem PySem.Spec PyProof.Rows L2
section
variable {K : PySem.W.Frag} {mg : Str → Option Value} {E : XK} {B F H : Hp} {r : List Addr} {C : Store} {Q : VK} {X : Cx} {a b e : Expr} {es : List Expr} {m ma mb mo : ME} {mas : MG (List D)} {pos p1 p2 p3 : Pos}
/-! (a, b, ..) = a list -/
def gLstT (K : PySem.W.Frag) (n : Nat) (t : TGs) : TG := fun v σ H Q => ∃ a xs, v = .ref a ∧ SqL K H a xs ∧ xs.length = n ∧ t xs σ H Q
theorem pg_lst {es : List Expr} {k n : Nat} {t : TGs} (hc : X.calm = true) (h : PGs X es t) (hn : (assignEach es X.env).length = n := by rfl) (hst : (assignEach es X.env).findIdx? (·.1) = none := by rfl) : PG X (.Tuple es k pos) (gLstT X.K n t) :=
  ⟨fun pins s σ H v u Q I r hw => by
    obtain ⟨a, xs, rfl, hq, hl, hw⟩ := hw
    cases r
    obtain ⟨its, rv, p, hz⟩ := I.list hq
    have hlen := rv.length
    rw [assign_Tuple]
    refine wpAny_bind (wpAny_standAt ?_)
    unfold unpack
    rw [hst, show (assignEach es X.env).length = its.toArray.size from by rw [hn, List.size_toArray]; omega]
    refine wpAny_bind (wpAny_holding (PySem.W.kun_itemsOf (I.ok.hd hc) p.isList fun h' hx => ?_))
    have I1 : Inv X pins σ H { s with heap := h' } := I.kept (t' := s.toks) fun b o q => hx b o (Nat.ne_of_lt (Heap.lt_size q)) q
    exact h.run pins _ σ H xs its Q I1 rv hw⟩
def gmLst (n : Nat) (gs : List D → Sl → Store → R (Sl × Store)) : MT := fun d sl C => match lstOf C d with
  | some ds => if ds.length = n then gs ds sl C else .no
  | none => .no
theorem ng_lst {own : List Nat} {tgs : List Expr} {k n : Nat} {gs : List D → Sl → Store → R (Sl × Store)} (hc : X.calm = true) (h : NGs X E own tgs gs) (hn : (assignEach tgs X.env).length = n := by rfl)
    (hst : (assignEach tgs X.env).findIdx? (·.1) = none := by rfl) : NG X E own (.Tuple tgs k pos) (gmLst n gs) := ⟨pg_imp (pg_lst hc h.pg hn hst) fun v s H Q q => by
    obtain ⟨B, F, r, sl, C, d, hr, hs, hd, o⟩ := q
    unfold gmLst at o
    split at o
    · rename_i ds e
      split at o
      · rename_i hl
        obtain ⟨a, vs, rfl, h2, h3⟩ := lstOf_ok hr hd e
        exact ⟨a, vs, rfl, h2, by rw [← h3.length]; exact hl, B, F, r, sl, C, ds, hr, hs, h3, o⟩
      · exact False.elim o
    · exact False.elim o⟩
/-! xs[::-1] -/
def gRevL (c : Bool) (x : D) (C : Store) : RE := match lstOf C x with
  | some ds => newL c ds.reverse C
  | none => .no
theorem ne_revL {c : Bool} {k : Nat} {q1 q2 q3 : Pos} (he : NE X E e m) : NE X E (.Subscript e (.Slice none none (some (.UnaryOp .USub (.Constant (.int 1) k q1) q2)) q3) pos) (m1 (gRevL c) m) := ⟨pe_imp (pe_revL he.pe) fun s H Q q => by
    obtain ⟨B, F, r, sl, C, hr, hs, o⟩ := q
    refine ⟨B, F, r, sl, C, hr, hs, Out.bind (P := Rep X.K) o fun x C1 F1 r1 H1 v e1 e2 hr1 hx o1 => ?_⟩
    simp only [gRevL] at o1
    split at o1
    · rename_i ds ek
      obtain ⟨a, vs, rfl, h1, h2⟩ := lstOf_ok hr1 hx ek
      exact ⟨a, vs, rfl, h1, fun l hl => newL_ok hr1 (Reps.reverse h2) o1 hl⟩
    · exact False.elim o1⟩
/-! l.count(x) of whole numbers -/
def rCountI (K : PySem.W.Frag) : V → List V → Hp → VK → Prop := fun x xs H Q => ∃ (a : Addr) (ns : List Int) (i : Int), x = .ref a ∧ xs = [.int i] ∧ SqL K H a (ns.map V.int) ∧ Q (.int ((ns.countP fun y => y == i : Nat) : Int)) H
theorem plain_ints : ∀ l : List Int, PyData.plainAll (l.map PyData.int) = true
  | [] => rfl
  | x :: l => by
    show (true && PyData.plainAll (l.map PyData.int)) = true
    rw [plain_ints l]
    rfl
theorem depth_ints0 : ∀ l : List Int, PyData.depthAll (l.map PyData.int) = 0
  | [] => rfl
  | x :: l => by
    show max 0 (PyData.depthAll (l.map PyData.int)) = 0
    rw [depth_ints0 l]
    rfl
theorem dpAll_ints {H : Hp} : ∀ l : List Int, DpAll K H (l.map V.int) (l.map PyData.int)
  | [] => .nil
  | x :: l => .cons (.int x) (dpAll_ints l)
theorem mt_countI (hu0 : X.A.units + 64 < cLine) : MtR X "list.count" (rCountI X.K) := by
  have hu : X.A.units + 1 < cLine := by omega
  intro pins s σ H x xs v us Q I rx rxs h
  obtain ⟨a, ns, i, rfl, rfl, hs, q⟩ := h
  cases rx
  cases rxs with
  | cons ry rt =>
    rename_i uy ut
    cases rt
    obtain ⟨t, rfl⟩ := ry
    obtain ⟨its, rv, p, hz⟩ := I.list hs
    obtain ⟨as, h4⟩ := Dp.readsAll I (ns.map PyData.int) (ns.map V.int) its (dpAll_ints ns) rv
    refine PySem.SeqAt.count_list_data (as := as) (bs := []) (d := .int i) p.isList (vs := its.toArray) (show ReadsAll s.heap its.toArray.toList _ as from h4) (.int i t) (plain_ints ns) rfl ?_ ?_
    · rw [depth_ints0]
      exact hu
    · refine ⟨.int _, H, I.tok _, ⟨_, rfl⟩, ?_⟩
      rw [List.countP_map]
      exact q
def gCount (x : D) (ds : List D) (C : Store) : RE := match (lstOf C x).bind intsOf, ds with
  | some ns, [.int i] => .ok (.int ((ns.countP fun y => y == i : Nat) : Int), C)
  | _, _ => .no
theorem countN : MtN K mg E (rCountI K) gCount := by
  intro B F r H C x v ds vs Q hr hx hd o
  unfold gCount at o
  split at o
  · rename_i ns i e
    obtain ⟨a, rfl, h⟩ := ints_ok hr hx e
    obtain ⟨w, ws, rfl, h1, h2⟩ := hd
    cases (show ws = [] from h2)
    exact ⟨a, ns, i, rfl, by rw [show w = V.int i from h1], h, out_ok (d := .int _) hr rfl o⟩
  · exact False.elim o
/-! (a, b, ..) = a tuple or a list -/
theorem pg_or {tg : Expr} {t t' : TG} (h : PG X tg t) (h' : PG X tg t') : PG X tg (fun v σ H Q => t v σ H Q ∨ t' v σ H Q) := ⟨fun pins s σ H v u Q I r hw => hw.elim (h.run pins s σ H v u Q I r) (h'.run pins s σ H v u Q I r)⟩
def gmSq (n : Nat) (gs : List D → Sl → Store → R (Sl × Store)) : MT := fun d sl C => match tupOf d with
  | some ds => if ds.length = n then gs ds sl C else .no
  | none => match lstOf C d with
    | some ds => if ds.length = n then gs ds sl C else .no
    | none => .no
theorem ng_sq {own : List Nat} {tgs : List Expr} {k n : Nat} {gs : List D → Sl → Store → R (Sl × Store)} (hc : X.calm = true) (h : NGs X E own tgs gs) (hn : (assignEach tgs X.env).length = n := by rfl)
    (hst : (assignEach tgs X.env).findIdx? (·.1) = none := by rfl) : NG X E own (.Tuple tgs k pos) (gmSq n gs) := ⟨pg_imp (pg_or (pg_tup hc h.pg hn hst) (pg_lst hc h.pg hn hst)) fun v s H Q q => by
    obtain ⟨B, F, r, sl, C, d, hr, hs, hd, o⟩ := q
    unfold gmSq at o
    split at o
    · rename_i ds e
      split at o
      · rename_i hl
        obtain ⟨a, vs, rfl, h2, h3⟩ := tupOf_ok hr hd e
        exact .inl ⟨a, vs, rfl, h2, by rw [← h3.length]; exact hl, B, F, r, sl, C, ds, hr, hs, h3, o⟩
      · exact False.elim o
    · split at o
      · rename_i ds e
        split at o
        · rename_i hl
          obtain ⟨a, vs, rfl, h2, h3⟩ := lstOf_ok hr hd e
          exact .inr ⟨a, vs, rfl, h2, by rw [← h3.length]; exact hl, B, F, r, sl, C, ds, hr, hs, h3, o⟩
        · exact False.elim o
      · exact False.elim o⟩
/-! a constant of the module that is a tuple -/
theorem gc_tup {x : Str} {a : Addr} {od : Option Addr} {its : Array Value} {n : Nat} {osl : Array (Option Value)} {ds : List D} {vs : List V} (hm : mg x = some (.ref a)) (l : K.lookup a = some ⟨.type "tuple", od, .seq its n, osl⟩)
    (hz : its.size ≤ sizeLine) (hv : Vals vs its.toList) (hr : ∀ (F : Hp) (r : List Addr), Reps K F r ds vs) : GlobC mg K x (.tup ds) :=
  ⟨.ref a, .ref a, hm, rfl, fun F r => ⟨a, vs, rfl, .inr ⟨_, its, n, l, rfl, rfl, hz, hv⟩, hr F r⟩⟩
end
end Nv

namespace Nv
open PySem PySem.Spec PyProof.Rows L2
section
variable {K : PySem.W.Frag} {mg : Str → Option Value} {E : XK} {B F H : Hp} {r : List Addr} {C : Store} {Q : VK} {X : Cx} {a b e o value : Expr} {es : List Expr} {m ma mb mo mv : ME} {mas : MG (List D)} {pos p1 p2 p3 : Pos}
/-! dicts whose keys are tuples of whole numbers and texts, asked by a tuple that is written there -/
def keyOf : D → Option Key
  | .int i => some (.inl i)
  | .str x => some (.inr x)
  | _ => none
def keysOf : List D → Option (List Key)
  | [] => some []
  | d :: ds => (keyOf d).bind fun k => (keysOf ds).map (k :: ·)
theorem keyOf_ok {d : D} {v : V} {k : Key} (h : Rep K F r d v) (e : keyOf d = some k) : v = kV k := by
  cases d with
  | int i => cases e; exact h
  | str x => cases e; exact h
  | _ => cases e
theorem keysOf_ok : ∀ {ds : List D} {vs : List V} {ks : List Key}, Reps K F r ds vs → keysOf ds = some ks → vs = ks.map kV
  | [], _, _, h, e => by
    cases e
    exact h
  | d :: ds, _, _, h, e => by
    obtain ⟨v, w, rfl, h1, h2⟩ := h
    unfold keysOf at e
    cases ek : keyOf d with
    | none => rw [ek] at e; cases e
    | some k =>
      rw [ek, Option.bind_some] at e
      cases er : keysOf ds with
      | none => rw [er] at e; cases e
      | some ks =>
        rw [er] at e
        cases e
        rw [keyOf_ok h1 ek, keysOf_ok h2 er]
        rfl
section
variable {κ : Type} [DecidableEq κ]
def valD (kvs : List (κ × D)) (k : κ) : Option D := (kvs.find? fun kv => decide (kv.1 = k)).map (·.2)
def putD (kvs : List (κ × D)) (k : κ) (v : D) : List (κ × D) :=
  if (kvs.any fun kv => decide (kv.1 = k)) = true then kvs.map (fun kv => if kv.1 = k then (kv.1, v) else kv) else kvs ++ [(k, v)]
theorem val_ok {k : κ} : ∀ {kvs : List (κ × D)} {ws : List (κ × V)}, kvs.map (·.1) = ws.map (·.1) → Reps K F r (kvs.map (·.2)) (ws.map (·.2)) → ∀ {d : D}, valD kvs k = some d → ∃ v, valV ws k = some v ∧ Rep K F r d v
  | [], _, _, _, d, e => by cases e
  | kv :: kvs, [], h, _, _, _ => by cases h
  | kv :: kvs, w :: ws, h, hr, d, e => by
    obtain ⟨v, vs, e1, h1, h2⟩ := hr
    rw [List.map_cons, List.cons.injEq] at e1
    rw [List.map_cons, List.map_cons, List.cons.injEq] at h
    unfold valD valV at *
    rw [List.find?_cons] at e ⊢
    by_cases hk : kv.1 = k
    · rw [decide_eq_true hk] at e
      rw [decide_eq_true (h.1.symm.trans hk)]
      cases e
      exact ⟨w.2, rfl, by rw [e1.1]; exact h1⟩
    · rw [decide_eq_false hk] at e
      rw [decide_eq_false (fun q => hk (h.1.trans q))]
      exact val_ok h.2 (by rw [e1.2]; exact h2) e
theorem putD_keys {k : κ} {d : D} {v : V} {kvs : List (κ × D)} {ws : List (κ × V)} (h : kvs.map (·.1) = ws.map (·.1)) : (putD kvs k d).map (·.1) = (putK ws k v).map (·.1) := by
  have ha : (kvs.any fun kv => decide (kv.1 = k)) = (ws.any fun kv => decide (kv.1 = k)) := by
    rw [show (kvs.any fun kv => decide (kv.1 = k)) = (kvs.map (·.1)).any fun q => decide (q = k) from by rw [List.any_map]; rfl,
      show (ws.any fun kv => decide (kv.1 = k)) = (ws.map (·.1)).any fun q => decide (q = k) from by rw [List.any_map]; rfl, h]
  unfold putD putK
  rw [ha]
  split
  · rw [List.map_map, List.map_map]
    have e1 : ((·.1) ∘ fun kv : κ × D => if kv.1 = k then (kv.1, d) else kv) = (·.1) := funext fun kv => by
      show (if kv.1 = k then (kv.1, d) else kv).1 = kv.1
      split <;> rfl
    have e2 : ((·.1) ∘ fun kv : κ × V => if kv.1 = k then (kv.1, v) else kv) = (·.1) := funext fun kv => by
      show (if kv.1 = k then (kv.1, v) else kv).1 = kv.1
      split <;> rfl
    rw [e1, e2, h]
  · rw [List.map_append, List.map_append, h]
    rfl
theorem put_map {k : κ} {d : D} {v : V} (hd : Rep K F r d v) : ∀ {kvs : List (κ × D)} {ws : List (κ × V)}, kvs.map (·.1) = ws.map (·.1) → Reps K F r (kvs.map (·.2)) (ws.map (·.2)) →
    Reps K F r ((kvs.map fun kv => if kv.1 = k then (kv.1, d) else kv).map (·.2)) ((ws.map fun kv => if kv.1 = k then (kv.1, v) else kv).map (·.2))
  | [], [], _, _ => rfl
  | [], _ :: _, h, _ => by cases h
  | kv :: kvs, [], h, _ => by cases h
  | kv :: kvs, w :: ws, h, hr => by
    obtain ⟨x, xs, e1, h1, h2⟩ := hr
    rw [List.map_cons, List.cons.injEq] at e1
    rw [List.map_cons, List.map_cons, List.cons.injEq] at h
    refine ⟨(if w.1 = k then (w.1, v) else w).2, _, rfl, ?_, put_map hd h.2 (by rw [e1.2]; exact h2)⟩
    show Rep K F r (if kv.1 = k then (kv.1, d) else kv).2 (if w.1 = k then (w.1, v) else w).2
    by_cases hk : kv.1 = k
    · rw [if_pos hk, if_pos (h.1.symm.trans hk)]
      exact hd
    · rw [if_neg hk, if_neg (fun q => hk (h.1.trans q))]
      show Rep K F r kv.2 w.2
      rw [e1.1]
      exact h1
theorem putD_reps {k : κ} {d : D} {v : V} {kvs : List (κ × D)} {ws : List (κ × V)} (h : kvs.map (·.1) = ws.map (·.1)) (hr : Reps K F r (kvs.map (·.2)) (ws.map (·.2))) (hd : Rep K F r d v) :
    Reps K F r ((putD kvs k d).map (·.2)) ((putK ws k v).map (·.2)) := by
  have ha : (kvs.any fun kv => decide (kv.1 = k)) = (ws.any fun kv => decide (kv.1 = k)) := by
    rw [show (kvs.any fun kv => decide (kv.1 = k)) = (kvs.map (·.1)).any fun q => decide (q = k) from by rw [List.any_map]; rfl,
      show (ws.any fun kv => decide (kv.1 = k)) = (ws.map (·.1)).any fun q => decide (q = k) from by rw [List.any_map]; rfl, h]
  unfold putD putK
  rw [ha]
  split
  · exact put_map hd h hr
  · rw [List.map_append, List.map_append]
    exact hr.append ⟨v, [], rfl, hd, rfl⟩
end
/-- {} that will have tuples for keys -/
def mDNewT : ME := fun _ C => .ok (.cell C.length, C ++ [.dt []])
theorem ne_dnewT : NE X E (.Dict [] [] pos) mDNewT := ⟨pe_imp pe_dnewT fun s H Q q => by
    obtain ⟨B, F, r, sl, C, hr, hs, o⟩ := q
    intro p hp
    refine o F (r ++ [p]) _ _ (.refl _) (Ex.app r _) (hr.alloc hp ⟨hr.freeF hp, [], upd_same, rfl, rfl⟩) ⟨p, rfl, ?_⟩
    rw [← hr.len, List.getElem?_append_right (Nat.le_refl _)]
    simp⟩
def dtAt (C : Store) : D → Option (Nat × List (List Key × D))
  | .cell i => match C[i]? with
    | some (.dt kvs) => some (i, kvs)
    | _ => none
  | _ => none
theorem dtAt_ok {x : D} {v : V} {i : Nat} {kvs : List (List Key × D)} (hr : Rel K B F r H C) (hx : Rep K F r x v) (e : dtAt C x = some (i, kvs)) :
    ∃ a ws, v = .ref a ∧ r[i]? = some a ∧ F a = none ∧ H a = some (.dT ws) ∧ kvs.map (·.1) = ws.map (·.1) ∧ Reps K F r (kvs.map (·.2)) (ws.map (·.2)) := by
  unfold dtAt at e
  split at e
  · rename_i j
    split at e
    · rename_i ks ec
      cases e
      obtain ⟨a, rfl, ha⟩ := hx
      have hc := hr.cells _ _ a ec ha
      obtain ⟨h1, ws, h2, h3, h4⟩ := hc
      exact ⟨a, ws, rfl, ha, h1, h2, h3, h4⟩
    · cases e
  · cases e
/-- d[x, y] -/
def mDGetT (mo : ME) (mas : MG (List D)) : ME := fun sl C => (mo sl C).bind fun p => (mas sl p.2).bind fun q => match dtAt q.2 p.1, keysOf q.1 with
  | some (_, kvs), some ks => match valD kvs ks with
    | some d => if q.1.length ≤ sizeLine then .ok (d, q.2) else .no
    | none => .no
  | _, _ => .no
theorem ne_dgetT {x1 : Nat} (hu : X.A.units + 64 < cLine) (ho : NE X E o mo) (ha : NA X E es mas) (hs : NoSl (.Tuple es x1 p1) := by intro _ _; rfl) : NE X E (.Subscript o (.Tuple es x1 p1) pos) (mDGetT mo mas) :=
  ⟨pe_imp (pe_dget (show X.A.units + 1 < cLine by omega) ho.pe (pe_tup ha.pa) hs) fun s H Q q => by
    obtain ⟨B, F, r, sl, C, hr, hs, o⟩ := q
    refine ⟨B, F, r, sl, C, hr, hs, Out.bind (P := Rep X.K) o fun x C1 F1 r1 H1 v e1 e2 hr1 hx o1 => ?_⟩
    refine ⟨B, F1, r1, sl, C1, hr1, hs.mono e1 e2, Out.bind (P := Reps X.K) o1 fun y C2 F2 r2 H2 u e3 e4 hr2 hy o2 => ?_⟩
    have hx2 := hx.mono e3 e4
    simp only at o2
    split at o2
    · rename_i i kvs ks ed ek
      split at o2
      · rename_i d ev
        split at o2
        · rename_i hl
          obtain ⟨a, ws, rfl, h1, h2, h3, h4, h5⟩ := dtAt_ok hr2 hx2 ed
          obtain ⟨w, g1, g2⟩ := val_ok h4 h5 ev
          refine ⟨by rw [← hy.length]; exact hl, fun p hp => ⟨a, w, rfl, ?_, out_ok (hr2.junk hp) g2 o2⟩⟩
          have hap : a ≠ p := ne_of_none h3 hp
          rw [← g1]
          exact DGet.t (by rw [upd_ne hap]; exact h3) (by rw [upd_same, keysOf_ok hy ek])
        · exact False.elim o2
      · exact False.elim o2
    · exact False.elim o2⟩
/-- d[x, y] = v -/
def sDPutT (mv mo : ME) (mas : MG (List D)) : MS := fun sl C => (mv sl C).bind fun t => (mo sl t.2).bind fun p => (mas sl p.2).bind fun q => match dtAt q.2 p.1, keysOf q.1 with
  | some (i, kvs), some ks => if q.1.length ≤ sizeLine ∧ kvs.length < sizeLine then .ok ((.nx, sl), q.2.set i (.dt (putD kvs ks t.1))) else .no
  | _, _ => .no
theorem ns_dputT {x1 : Nat} (hu : X.A.units + 64 < cLine) (hv : NE X E value mv) (ho : NE X E o mo) (ha : NA X E es mas) (hs : swapsWith value (some (.Subscript o (.Tuple es x1 p1) p2)) pos.line X.env = pure false := by rfl) :
    NS X E (.Assign [.Subscript o (.Tuple es x1 p1) p2] value pos) (sDPutT mv mo mas) :=
  ⟨ps_imp (ps_dput (show X.A.units + 1 < cLine by omega) ho.pe (pe_tup ha.pa) hv.pe hs) fun De s H q => by
    obtain ⟨B, F, r, sl, C, hr, hs, o⟩ := q
    refine ⟨B, F, r, sl, C, hr, hs, OutS.bind (P := Rep X.K) o fun d C0 F0 r0 H0 z k1 k2 hr0 hd o0 => ?_⟩
    refine ⟨B, F0, r0, sl, C0, hr0, hs.mono k1 k2, OutS.bind (P := Rep X.K) o0 fun x C1 F1 r1 H1 v e1 e2 hr1 hx o1 => ?_⟩
    refine ⟨B, F1, r1, sl, C1, hr1, (hs.mono k1 k2).mono e1 e2, OutS.bind (P := Reps X.K) o1 fun y C2 F2 r2 H2 u e3 e4 hr2 hy o2 => ?_⟩
    have hx2 := hx.mono e3 e4
    have hd2 := (hd.mono e1 e2).mono e3 e4
    simp only at o2
    split at o2
    · rename_i i kvs ks ed ek
      split at o2
      · rename_i hl
        obtain ⟨a, ws, rfl, h1, h2, h3, h4, h5⟩ := dtAt_ok hr2 hx2 ed
        refine ⟨by rw [← hy.length]; exact hl.1, fun p hp => ⟨a, _, rfl, DPut.t (kvs := ws) (k := ks) ?_ ?_ ?_, ?_⟩⟩
        · rw [upd_ne (ne_of_none h3 hp)]; exact h3
        · rw [upd_same, keysOf_ok hy ek]
        · have := congrArg List.length h4
          rw [List.length_map, List.length_map] at this
          omega
        · refine OutS.next o2 ((hr2.junk hp).write h1 h2 ⟨h2, _, upd_same, putD_keys h4, putD_reps h4 h5 hd2⟩) (((hs.mono k1 k2).mono e1 e2).mono e3 e4)
      · exact False.elim o2
    · exact False.elim o2⟩
/-- len(d) -/
def gLenT (x : D) (C : Store) : RE := match dtAt C x with
  | some (_, kvs) => .ok (.int kvs.length, C)
  | none => .no
theorem lenTN : CallN K mg E rLenT (on1 gLenT) := on1N fun B F r H C x v Q hr hx o => by
  unfold gLenT at o
  split at o
  · rename_i i kvs e
    obtain ⟨a, ws, rfl, h1, h2, h3, h4, h5⟩ := dtAt_ok hr hx e
    refine ⟨a, ws, rfl, h3, ?_⟩
    have := congrArg List.length h4
    rw [List.length_map, List.length_map] at this
    rw [← this]
    exact out_ok (d := .int kvs.length) hr rfl o
  · exact False.elim o
end
end Nv

namespace Nv
open PySem PySem.Spec PyProof.Rows L2
/-! reasoning on mirrors: one step each -/
theorem bind_ok' {S T : Type} (a : S) (f : S → R T) : (R.ok a).bind f = f a := rfl
theorem seq_nx {u1 u2 : MS} {sl sl1 : Sl} {C C1 : Store} (h : u1 sl C = .ok ((.nx, sl1), C1)) : sSeq u1 u2 sl C = u2 sl1 C1 := by unfold sSeq; rw [h]; rfl
theorem seq_rt {u1 u2 : MS} {sl sl1 : Sl} {C C1 : Store} {d : D} (h : u1 sl C = .ok ((.rt d, sl1), C1)) : sSeq u1 u2 sl C = .ok ((.rt d, sl1), C1) := by unfold sSeq; rw [h]; rfl
theorem if_t {t : MG Bool} {u1 u2 : MS} {sl : Sl} {C C1 : Store} (h : t sl C = .ok (true, C1)) : sIf t u1 u2 sl C = u1 sl C1 := by unfold sIf; rw [h]; rfl
theorem if_f {t : MG Bool} {u1 u2 : MS} {sl : Sl} {C C1 : Store} (h : t sl C = .ok (false, C1)) : sIf t u1 u2 sl C = u2 sl C1 := by unfold sIf; rw [h]; rfl
theorem lstAt_lst {C : Store} {k : Nat} {ds : List D} (h : C[k]? = some (.lst ds)) : lstAt C k = some ds := by unfold lstAt; rw [h]
theorem mutAt_lst {C : Store} {k : Nat} {ds : List D} (h : C[k]? = some (.lst ds)) : mutAt C k = some ds := by unfold mutAt; rw [h]
theorem get_set_self {C : Store} {k : Nat} {c d : Cell} (h : C[k]? = some c) : (C.set k d)[k]? = some d := List.getElem?_set_self (List.getElem?_eq_some_iff.mp h).1
/-- all cells but k stay -/
def Upd (k : Nat) (C C' : Store) : Prop := C'.length = C.length ∧ ∀ i, i ≠ k → C'[i]? = C[i]?
theorem Upd.refl (k : Nat) (C : Store) : Upd k C C := ⟨rfl, fun _ _ => rfl⟩
theorem Upd.trans {k : Nat} {C C1 C2 : Store} (a : Upd k C C1) (b : Upd k C1 C2) : Upd k C C2 := ⟨b.1.trans a.1, fun i hi => (b.2 i hi).trans (a.2 i hi)⟩
theorem Upd.set (k : Nat) (C : Store) (c : Cell) : Upd k C (C.set k c) := ⟨by simp, fun i hi => List.getElem?_set_ne (Ne.symm hi)⟩
/-! fin -/
theorem closedD_mono {n m : Nat} (h : n ≤ m) (d : D) : closedD n d = true → closedD m d = true := closed_up h d
theorem closedDs_mono {n m : Nat} (h : n ≤ m) (ds : List D) : closedDs n ds = true → closedDs m ds = true := closeds_up h ds
@[simp] theorem closedDs_ints (n : Nat) : ∀ l : List Int, closedDs n (l.map D.int) = true
  | [] => rfl
  | x :: l => by simp [closedDs, closedD, closedDs_ints n l]
@[simp] theorem closedDs_strs (n : Nat) : ∀ l : List Str, closedDs n (l.map D.str) = true
  | [] => rfl
  | x :: l => by simp [closedDs, closedD, closedDs_strs n l]
@[simp] theorem closedDs_bls (n : Nat) : ∀ l : List Bool, closedDs n (l.map D.bl) = true
  | [] => rfl
  | x :: l => by simp [closedDs, closedD, closedDs_bls n l]
theorem fin_cond {C C' : Store} {k : Nat} {c : Cell} (u : Upd k C C') (hk : C'[k]? = some c ∧ closedC C.length c = true ∨ C.length ≤ k) : C.length ≤ C'.length ∧ ∀ (i : Nat), i < C.length → C'[i]? = C[i]? ∨ ∃ c, C'[i]? = some c ∧ closedC C.length c = true :=
  ⟨by rw [u.1]; exact Nat.le_refl _, fun i hi => by
    by_cases h : i = k
    · subst h
      rcases hk with hk | hk
      · exact .inr ⟨c, hk⟩
      · omega
    · exact .inl (u.2 i h)⟩
def flatR : D → Bool
  | .cell _ => false
  | .tup _ => false
  | _ => true
/-- a value that is no cell -/
theorem fin_val {C C' : Store} {d : D} (hc : C.length ≤ C'.length ∧ ∀ (i : Nat), i < C.length → C'[i]? = C[i]? ∨ ∃ c, C'[i]? = some c ∧ closedC C.length c = true) (hf : flatR d = true) (hd : closedD C.length d = true) :
    fin C d C' = .ok (d, C'.take C.length) := by
  unfold fin
  rw [if_pos hc]
  cases d with
  | cell k => cases hf
  | tup ds => cases hf
  | _ => simp only [hd, if_true]
theorem same_cond (C X : Store) : C.length ≤ (C ++ X).length ∧ ∀ (i : Nat), i < C.length → (C ++ X)[i]? = C[i]? ∨ ∃ c, (C ++ X)[i]? = some c ∧ closedC C.length c = true :=
  ⟨by simp, fun i hi => .inl (List.getElem?_append_left hi)⟩
theorem fin_pure {C : Store} (X : Store) {d : D} (hf : flatR d = true) (hd : closedD 0 d = true) : fin C d (C ++ X) = .ok (d, C) := by
  rw [fin_val (same_cond C X) hf (closedD_mono (Nat.zero_le _) d hd), List.take_left']
  rfl
theorem fin_pure0 {C : Store} {d : D} (hf : flatR d = true) (hd : closedD 0 d = true) : fin C d C = .ok (d, C) := by
  have := fin_pure (C := C) [] hf hd
  rwa [List.append_nil] at this
/-- the cell that comes at C's end -/
theorem fin_cell {C : Store} {X Y : Store} {c : Cell} (hc : closedC 0 c = true) : fin C (.cell (C.length + X.length)) (C ++ X ++ c :: Y) = .ok (.cell C.length, C ++ [c]) := by
  have hcl : closedC C.length c = true := by
    cases c with
    | lst ds => exact closedDs_mono (Nat.zero_le _) ds hc
    | dk ds => exact closedDs_mono (Nat.zero_le _) _ hc
    | dt ds => exact closedDs_mono (Nat.zero_le _) _ hc
    | fz ds => exact closedDs_mono (Nat.zero_le _) ds hc
    | dn ds => exact closedDs_mono (Nat.zero_le _) _ hc
    | obj c ds => exact closedDs_mono (Nat.zero_le _) _ hc
    | lk ds => exact closedDs_mono (Nat.zero_le _) _ hc
  have e : C ++ X ++ c :: Y = C ++ (X ++ c :: Y) := by simp
  unfold fin
  rw [e, if_pos (same_cond C _)]
  have e2 : (C ++ (X ++ c :: Y))[C.length + X.length]? = some c := by
    rw [List.getElem?_append_right (by omega), List.getElem?_append_right (by omega)]
    simp
  simp only [e2, hcl, if_true]
  rw [if_neg (by omega), List.take_left']
  rfl
theorem fin_cell0 {C : Store} {c : Cell} (hc : closedC 0 c = true) : fin C (.cell C.length) (C ++ [c]) = .ok (.cell C.length, C ++ [c]) := by
  have := fin_cell (C := C) (X := []) (Y := []) hc
  simpa using this
/-! frozen results -/
theorem frzL_id {f : D → Store → Option (D × Store)} (C : Store) : ∀ ds : List D, (∀ d ∈ ds, f d C = some (d, C)) → frzL f ds C = some (ds, C)
  | [], _ => rfl
  | d :: ds, h => by
    unfold frzL
    rw [h d List.mem_cons_self, Option.bind_some, frzL_id C ds fun x hx => h x (List.mem_cons_of_mem _ hx)]
    rfl
theorem closed_mem {n : Nat} : ∀ {ds : List D} {d : D}, closedDs n ds = true → d ∈ ds → closedD n d = true
  | x :: ds, d, h, hm => by
    unfold closedDs at h
    rw [Bool.and_eq_true] at h
    rcases List.mem_cons.mp hm with rfl | hm
    · exact h.1
    · exact closed_mem h.2 hm
theorem frz_id : ∀ (n : Nat) (C : Store) (d : D), closedD 0 d = true → frz n d C = some (d, C)
  | 0, _, _, _ => rfl
  | n + 1, C, d, h => by
    cases d with
    | cell k => simp [closedD] at h
    | tup ds =>
      show (frzL (frz n) ds C).bind _ = _
      rw [frzL_id C ds fun x hx => frz_id n C x (closed_mem h hx)]
      rfl
    | lst ds =>
      show (frzL (frz n) ds C).bind _ = _
      rw [frzL_id C ds fun x hx => frz_id n C x (closed_mem h hx)]
      rfl
    | _ => rfl
theorem fz_cell {n : Nat} {m : ME} {sl : Sl} {C : Store} {ds : List D} (h : m sl C = .ok (.cell C.length, C ++ [.lst ds])) (hd : closedDs 0 ds = true) : mFz (n + 1) m sl C = .ok (.lst ds, C) := by
  unfold mFz
  rw [h, bind_ok']
  have e1 : (C ++ [Cell.lst ds])[C.length]? = some (.lst ds) := by simp
  have e2 : (C ++ [Cell.lst ds]).set C.length (.fz ds) = C ++ [.fz ds] := by simp
  have e3 : frz (n + 1) (.cell C.length) (C ++ [.lst ds]) = some (.lst ds, C ++ [.fz ds]) := by
    unfold frz
    simp only [e1, e2]
    rw [frzL_id _ ds fun x hx => frz_id n _ x (closed_mem hd hx)]
    rfl
  simp only [e3]
  exact fin_pure _ rfl hd
theorem fz_val {n : Nat} {m : ME} {sl : Sl} {C : Store} {d : D} (h : m sl C = .ok (d, C)) (hf : flatR d = true) (hd : closedD 0 d = true) : mFz n m sl C = .ok (d, C) := by
  unfold mFz
  rw [h, bind_ok']
  simp only [frz_id n C d hd]
  exact fin_pure0 hf hd
end Nv

namespace Nv
open PySem PySem.Spec PyProof.Rows L2
/-! what holds of a mirror's end -/
def W {S : Type} (o : R (S × Store)) (Q : S → Store → Prop) : Prop := ∃ a C, o = .ok (a, C) ∧ Q a C
def WS (o : RS) (Q : Fl → Sl → Store → Prop) : Prop := ∃ f sl C, o = .ok ((f, sl), C) ∧ Q f sl C
section
variable {S S2 : Type} {Q : S → Store → Prop} {QD : D → Store → Prop} {QB : Bool → Store → Prop} {QL : List D → Store → Prop} {QS : Fl → Sl → Store → Prop} {sl : Sl} {C C1 C2 : Store} {m ma mb mc : ME} {t ta tb : MG Bool} {mas : MG (List D)} {u u1 u2 : MS}
theorem W.ok {a : S} (h : Q a C) : W (.ok (a, C)) Q := ⟨a, C, rfl, h⟩
theorem W.of {o : R (S × Store)} {a : S} (e : o = .ok (a, C)) (h : Q a C) : W o Q := ⟨a, C, e, h⟩
theorem W.imp {o : R (S × Store)} {Q' : S → Store → Prop} (h : W o Q) (hq : ∀ a C, Q a C → Q' a C) : W o Q' := by
  obtain ⟨a, C, e, q⟩ := h
  exact ⟨a, C, e, hq a C q⟩
theorem W.bind {o : R (S2 × Store)} {k : S2 × Store → R (S × Store)} (h : W o fun a C => W (k (a, C)) Q) : W (o.bind k) Q := by
  obtain ⟨a, C, e, b, C', e', q⟩ := h
  exact ⟨b, C', by rw [e]; exact e', q⟩
theorem W.bindS {o : R (S2 × Store)} {k : S2 × Store → RS} (h : W o fun a C => WS (k (a, C)) QS) : WS (o.bind k) QS := by
  obtain ⟨a, C, e, f, sl, C', e', q⟩ := h
  exact ⟨f, sl, C', by rw [e]; exact e', q⟩
theorem WS.bindS {o : RS} {k : (Fl × Sl) × Store → RS} (h : WS o fun f sl C => WS (k ((f, sl), C)) QS) : WS (o.bind k) QS := by
  obtain ⟨f, sl, C, e, g, sl', C', e', q⟩ := h
  exact ⟨g, sl', C', by rw [e]; exact e', q⟩
theorem WS.bind {o : RS} {k : (Fl × Sl) × Store → R (S × Store)} (h : WS o fun f sl C => W (k ((f, sl), C)) Q) : W (o.bind k) Q := by
  obtain ⟨f, sl, C, e, b, C', e', q⟩ := h
  exact ⟨b, C', by rw [e]; exact e', q⟩
theorem WS.ok {f : Fl} (h : QS f sl C) : WS (.ok ((f, sl), C)) QS := ⟨f, sl, C, rfl, h⟩
theorem WS.imp {o : RS} {Q' : Fl → Sl → Store → Prop} (h : WS o QS) (hq : ∀ f sl C, QS f sl C → Q' f sl C) : WS o Q' := by
  obtain ⟨f, sl, C, e, q⟩ := h
  exact ⟨f, sl, C, e, hq f sl C q⟩
/-- an equation from it -/
theorem W.eq {o : R (S × Store)} {a : S} (h : W o fun b C' => b = a ∧ C' = C) : o = .ok (a, C) := by
  obtain ⟨b, C', e, rfl, rfl⟩ := h
  exact e
/-! expressions -/
theorem w_var {i : Nat} {d : D} (e : sl[i]? = some (some d)) (h : QD d C) : W (mVar i sl C) QD := ⟨d, C, by unfold mVar; rw [e], h⟩
theorem w_c {d : D} (h : QD d C) : W (mC d sl C) QD := ⟨d, C, rfl, h⟩
theorem w_2 {g : D → D → Store → RE} (h : W (ma sl C) fun x C1 => W (mb sl C1) fun y C2 => W (g x y C2) QD) : W (m2 g ma mb sl C) QD := W.bind (h.imp fun _ _ h => W.bind h)
theorem w_1 {g : D → Store → RE} (h : W (ma sl C) fun x C1 => W (g x C1) QD) : W (m1 g ma sl C) QD := W.bind h
theorem w_T (h : W (m sl C) fun x C1 => ∃ b, x = .bl b ∧ QB b C1) : W (mT m sl C) QB := W.bind (h.imp fun x C h => by
  obtain ⟨b, rfl, q⟩ := h
  exact W.ok q)
theorem w_tAnd (h : W (ta sl C) fun b C1 => if b = true then W (tb sl C1) QB else QB false C1) : W (tAndM ta tb sl C) QB := W.bind (h.imp fun b C h => by
  cases b with
  | true => exact h
  | false => exact W.ok h)
theorem w_tOr (h : W (ta sl C) fun b C1 => if b = true then QB true C1 else W (tb sl C1) QB) : W (tOrM ta tb sl C) QB := W.bind (h.imp fun b C h => by
  cases b with
  | false => exact h
  | true => exact W.ok h)
theorem w_tNot (h : W (ta sl C) fun b C1 => QB (!b) C1) : W (tNotM ta sl C) QB := W.bind (h.imp fun b C h => W.ok h)
theorem w_and (h : W (ma sl C) fun x C1 => ∃ b, x = .bl b ∧ if b = true then W (mb sl C1) QD else QD (.bl false) C1) : W (mAnd ma mb sl C) QD := W.bind (h.imp fun x C h => by
  obtain ⟨b, rfl, h⟩ := h
  cases b with
  | true => exact h
  | false => exact W.ok h)
theorem w_or (h : W (ma sl C) fun x C1 => ∃ b, x = .bl b ∧ if b = true then QD (.bl true) C1 else W (mb sl C1) QD) : W (mOr ma mb sl C) QD := W.bind (h.imp fun x C h => by
  obtain ⟨b, rfl, h⟩ := h
  cases b with
  | false => exact h
  | true => exact W.ok h)
theorem w_not (h : W (ma sl C) fun x C1 => ∃ b, x = .bl b ∧ QD (.bl (!b)) C1) : W (mNot ma sl C) QD := W.bind (h.imp fun x C h => by
  obtain ⟨b, rfl, h⟩ := h
  exact W.ok h)
theorem w_if (h : W (t sl C) fun b C1 => if b = true then W (ma sl C1) QD else W (mb sl C1) QD) : W (mIf t ma mb sl C) QD := W.bind (h.imp fun b C h => by
  cases b with
  | true => exact h
  | false => exact h)
theorem w_ch {g g' : D → D → Store → RE} (h : W (ma sl C) fun x C1 => W (mb sl C1) fun y C2 => W (g x y C2) fun z C3 => ∃ b, z = .bl b ∧ if b = true then W (mc sl C3) fun w C4 => W (g' y w C4) QD else QD (.bl false) C3) : W (mCh g g' ma mb mc sl C) QD :=
  W.bind (h.imp fun _ _ h => W.bind (h.imp fun _ _ h => W.bind (h.imp fun z C3 h => by
    obtain ⟨b, rfl, h⟩ := h
    cases b with
    | true => exact W.bind h
    | false => exact W.ok h)))
theorem w_aNil (h : QL [] C) : W (aNil sl C) QL := W.ok h
theorem w_aCons (h : W (ma sl C) fun x C1 => W (mas sl C1) fun xs C2 => QL (x :: xs) C2) : W (aCons ma mas sl C) QL := W.bind (h.imp fun _ _ h => W.bind (h.imp fun _ _ h => W.ok h))
theorem w_newF {ds : List D} (h : QD (.lst ds) C) : W (newL false ds C) QD := W.ok h
theorem w_newC {ds : List D} (h : QD (.cell C.length) (C ++ [.lst ds])) : W (newL true ds C) QD := W.ok h
theorem w_lst {c : Bool} (h : W (mas sl C) fun xs C1 => xs.length ≤ sizeLine ∧ W (newL c xs C1) QD) : W (mLst c mas sl C) QD := W.bind (h.imp fun xs C1 h => by
  simp only [if_pos h.1]
  exact h.2)
theorem w_tup (h : W (mas sl C) fun xs C1 => xs.length ≤ sizeLine ∧ QD (.tup xs) C1) : W (mTup mas sl C) QD := W.bind (h.imp fun xs C1 h => by
  simp only [if_pos h.1]
  exact W.ok h.2)
theorem w_cb {g : List D → Store → RE} (h : W (mas sl C) fun xs C1 => W (g xs C1) QD) : W (mCB g mas sl C) QD := W.bind h
theorem w_F {n : Nat} {mf : MF} (h : W (mas sl C) fun xs C1 => xs.length = n ∧ W (mf xs C1) QD) : W (mF n mf mas sl C) QD := W.bind (h.imp fun xs C1 h => by
  simp only [if_pos h.1]
  exact h.2)
theorem w_rep {c : Bool} (h : W (mas sl C) fun xs C1 => xs.length ≤ sizeLine ∧ W (mb sl C1) fun y C2 => ∃ k, y = .int k ∧ lowI k = true ∧ xs.length * k.toNat ≤ sizeLine ∧ W (newL c (List.replicate k.toNat xs).flatten C2) QD) : W (mRep c mas mb sl C) QD :=
  W.bind (h.imp fun xs C1 h => by
    simp only [if_pos h.1]
    refine W.bind (h.2.imp fun y C2 h => ?_)
    obtain ⟨k, rfl, h1, h2, h3⟩ := h
    simp only [intOf, if_pos (And.intro h1 h2)]
    exact h3)
theorem w_sl {c : Bool} {ml mh : MG (Option Int)} (h : W (ma sl C) fun x C1 => W (ml sl C1) fun l C2 => W (mh sl C2) fun u C3 => W (gSl c x l u C3) QD) : W (mSl c ma ml mh sl C) QD := W.bind (h.imp fun _ _ h => W.bind (h.imp fun _ _ h => W.bind h))
theorem w_oNone {QO : Option Int → Store → Prop} (h : QO none C) : W (oNone sl C) QO := W.ok h
theorem w_oSome {QO : Option Int → Store → Prop} (h : W (m sl C) fun x C1 => ∃ i, x = .int i ∧ QO (some i) C1) : W (oSome m sl C) QO := W.bind (h.imp fun x C1 h => by
  obtain ⟨i, rfl, h⟩ := h
  exact W.ok h)
theorem w_mt {chk : Store → D → Bool} {g : D → List D → Store → RE} (h : W (ma sl C) fun x C1 => chk C1 x = true ∧ W (mas sl C1) fun xs C2 => W (g x xs C2) QD) : W (mMt chk g ma mas sl C) QD := W.bind (h.imp fun x C1 h => by
  simp only [if_pos h.1]
  exact W.bind h.2)
theorem w_mt0 {chk : Store → D → Bool} {g : D → List D → Store → RE} (h : W (ma sl C) fun x C1 => chk C1 x = true ∧ W (g x [] C1) QD) : W (mMt0 chk g ma sl C) QD := W.bind (h.imp fun x C1 h => by
  simp only [if_pos h.1]
  exact h.2)
/-! statements -/
theorem w_nil (h : QS .nx sl C) : WS (sNil sl C) QS := WS.ok h
def thenS (u2 : MS) (QS : Fl → Sl → Store → Prop) : Fl → Sl → Store → Prop := fun f sl C => match f with
  | .nx => WS (u2 sl C) QS
  | f => QS f sl C
theorem w_seq (h : WS (u1 sl C) (thenS u2 QS)) : WS (sSeq u1 u2 sl C) QS := WS.bindS (h.imp fun f sl C h => by
  cases f with
  | nx => exact h
  | rt d => exact WS.ok h
  | bk => exact WS.ok h
  | ct => exact WS.ok h)
theorem w_then (h : WS (u2 sl C) QS) : thenS u2 QS .nx sl C := h
theorem w_thenR {d : D} (h : QS (.rt d) sl C) : thenS u2 QS (.rt d) sl C := h
theorem w_thenB (h : QS .bk sl C) : thenS u2 QS .bk sl C := h
theorem w_thenC (h : QS .ct sl C) : thenS u2 QS .ct sl C := h
theorem w_bk (h : QS .bk sl C) : WS (sBk sl C) QS := WS.ok h
theorem w_ct (h : QS .ct sl C) : WS (sCt sl C) QS := WS.ok h
theorem w_drop (h : W (m sl C) fun _ C1 => QS .nx sl C1) : WS (sDrop m sl C) QS := W.bindS (h.imp fun _ _ h => WS.ok h)
theorem w_ret (h : W (m sl C) fun x C1 => QS (.rt x) sl C1) : WS (sRet m sl C) QS := W.bindS (h.imp fun _ _ h => WS.ok h)
theorem w_retN (h : QS (.rt .non) sl C) : WS (sRetN sl C) QS := WS.ok h
theorem w_sif (h : W (t sl C) fun b C1 => if b = true then WS (u1 sl C1) QS else WS (u2 sl C1) QS) : WS (sIf t u1 u2 sl C) QS := W.bindS (h.imp fun b C h => by
  cases b with
  | true => exact h
  | false => exact h)
theorem w_asg {g : MT} (h : W (m sl C) fun x C1 => W (g x sl C1) fun sl2 C2 => QS .nx sl2 C2) : WS (sAsg m g sl C) QS := W.bindS (h.imp fun _ _ h => W.bindS (h.imp fun _ _ h => WS.ok h))
theorem w_gmN {i : Nat} {d : D} {Q : Sl → Store → Prop} (h : Q (sl.set i (some d)) C) : W (gmN i d sl C) Q := W.ok h
theorem w_gmNil {Q : Sl → Store → Prop} (h : Q sl C) : W (gmNil [] sl C) Q := W.ok h
theorem w_gmCons {g : MT} {gs : List D → Sl → Store → R (Sl × Store)} {d : D} {ds : List D} {Q : Sl → Store → Prop} (h : W (g d sl C) fun sl1 C1 => W (gs ds sl1 C1) Q) : W (gmCons g gs (d :: ds) sl C) Q := W.bind h
theorem w_gmTup {n : Nat} {gs : List D → Sl → Store → R (Sl × Store)} {ds : List D} {Q : Sl → Store → Prop} (hl : ds.length = n) (h : W (gs ds sl C) Q) : W (gmTup n gs (.tup ds) sl C) Q := by
  unfold gmTup tupOf
  simp only [if_pos hl]
  exact h
theorem w_par {i j : Nat} (h : W (mas sl C) fun xs C1 => ∃ x y, xs = [x, y] ∧ QS .nx ((sl.set i (some x)).set j (some y)) C1) : WS (sPar i j mas sl C) QS := W.bindS (h.imp fun xs C1 h => by
  obtain ⟨x, y, rfl, h⟩ := h
  exact WS.ok h)
theorem w_aug {i : Nat} {g : D → D → Store → RE} {x : D} (e : sl[i]? = some (some x)) (h : W (m sl C) fun y C1 => W (g x y C1) fun z C2 => QS .nx (sl.set i (some z)) C2) : WS (sAug i g m sl C) QS := by
  unfold sAug
  rw [e]
  exact W.bindS (h.imp fun _ _ h => W.bindS (h.imp fun _ _ h => WS.ok h))
theorem w_gmSub {mo mi : ME} {d : D} {Q : Sl → Store → Prop} (h : W (mo sl C) fun o C1 => W (mi sl C1) fun i C2 => W (gSet o i d C2) fun _ C3 => Q sl C3) : W (gmSub mo mi d sl C) Q := W.bind (h.imp fun _ _ h => W.bind (h.imp fun _ _ h => W.bind (h.imp fun _ _ h => W.ok h)))
/-! operations -/
theorem w_addI {c : Bool} {i j : Int} (h : QD (.int (i + j)) C) : W (gAdd c (.int i) (.int j) C) QD := W.ok h
theorem w_addS {c : Bool} {a b : Str} (hl : a.length + b.length ≤ sizeLine) (h : QD (.str (a ++ b)) C) : W (gAdd c (.str a) (.str b) C) QD := by
  refine W.of (a := .str (a ++ b)) (C := C) ?_ h
  show (if a.length + b.length ≤ sizeLine then R.ok (D.str (a ++ b), C) else .no) = _
  rw [if_pos hl]
theorem w_addL {c : Bool} {a b : List D} (hl : a.length + b.length ≤ sizeLine) (h : W (newL c (a ++ b) C) QD) : W (gAdd c (.lst a) (.lst b) C) QD := by
  show W (if a.length + b.length ≤ sizeLine then newL c (a ++ b) C else .no) QD
  rw [if_pos hl]
  exact h
theorem w_subI {i j : Int} (h : QD (.int (i - j)) C) : W (gSub (.int i) (.int j) C) QD := W.ok h
theorem w_negI {i : Int} (h : QD (.int (-i)) C) : W (gNeg (.int i) C) QD := W.ok h
theorem w_mulI {i j : Int} (hs : smallI i = true ∨ smallI j = true ∨ (bigI i = true ∧ bigI j = true)) (h : QD (.int (i * j)) C) : W (gMul (.int i) (.int j) C) QD := by
  refine W.of (a := .int (i * j)) (C := C) ?_ h
  show (if (smallI i || smallI j || (bigI i && bigI j)) = true then R.ok (D.int (i * j), C) else .no) = _
  rw [if_pos]
  rcases hs with h | h | ⟨h1, h2⟩
  · rw [h]; simp
  · rw [h]; simp
  · rw [h1, h2]; simp
theorem w_divI {i j : Int} (h0 : 0 < j) (h1 : j ≤ 10 ^ 60) (h : QD (.int (i / j)) C) : W (gDiv (.int i) (.int j) C) QD := by
  refine W.of (a := .int (i / j)) (C := C) ?_ h
  show (if 0 < j ∧ j ≤ 10 ^ 60 then R.ok (D.int (i / j), C) else .no) = _
  rw [if_pos ⟨h0, h1⟩]
theorem w_modI {i j : Int} (h0 : 0 < j) (h : QD (.int (i % j)) C) : W (gMod (.int i) (.int j) C) QD := by
  refine W.of (a := .int (i % j)) (C := C) ?_ h
  show (if 0 < j then R.ok (D.int (i % j), C) else .no) = _
  rw [if_pos h0]
theorem w_powI {i j : Int} (h0 : 0 ≤ j) (h1 : j ≤ 1000) (h2 : -powLine < i) (h3 : i < powLine) (h : QD (.int (i ^ j.toNat)) C) : W (gPow (.int i) (.int j) C) QD := by
  refine W.of (a := .int (i ^ j.toNat)) (C := C) ?_ h
  show (if 0 ≤ j ∧ j ≤ 1000 ∧ -powLine < i ∧ i < powLine then R.ok (D.int (i ^ j.toNat), C) else .no) = _
  rw [if_pos ⟨h0, h1, h2, h3⟩]
theorem w_ltI {i j : Int} (h : QD (.bl (decide (i < j))) C) : W (gLt (.int i) (.int j) C) QD := W.ok h
theorem w_leI {i j : Int} (h : QD (.bl (decide (i ≤ j))) C) : W (gLe (.int i) (.int j) C) QD := W.ok h
theorem w_gtI {i j : Int} (h : QD (.bl (decide (j < i))) C) : W (gGt (.int i) (.int j) C) QD := W.ok h
theorem w_geI {i j : Int} (h : QD (.bl (decide (j ≤ i))) C) : W (gGe (.int i) (.int j) C) QD := W.ok h
theorem w_eqI {i j : Int} (h : QD (.bl (decide (i = j))) C) : W (gEq (.int i) (.int j) C) QD := by
  refine W.of (a := .bl (decide (i = j))) (C := C) ?_ h
  show (if (SeqAt.shaped (.int i) && SeqAt.shaped (.int j)) = true then R.ok (D.bl (PyData.eqv (.int i) (.int j)), C) else .no) = _
  have e : (SeqAt.shaped (.int i) && SeqAt.shaped (.int j)) = true := rfl
  simp only [e, if_true]
  show R.ok (D.bl (i == j), C) = _
  rw [show (i == j) = decide (i = j) from by rw [Bool.eq_iff_iff]; simp]
theorem w_neI {i j : Int} (h : QD (.bl (!decide (i = j))) C) : W (gNe (.int i) (.int j) C) QD := by
  refine W.of (a := .bl (!decide (i = j))) (C := C) ?_ h
  show (if (SeqAt.shaped (.int i) && SeqAt.shaped (.int j)) = true then R.ok (D.bl (!PyData.eqv (.int i) (.int j)), C) else .no) = _
  have e : (SeqAt.shaped (.int i) && SeqAt.shaped (.int j)) = true := rfl
  simp only [e, if_true]
  show R.ok (D.bl (!(i == j)), C) = _
  rw [show (i == j) = decide (i = j) from by rw [Bool.eq_iff_iff]; simp]
theorem w_eqS {i j : Str} (h : QD (.bl (decide (i = j))) C) : W (gEq (.str i) (.str j) C) QD := W.ok h
theorem w_neS {i j : Str} (h : QD (.bl (!decide (i = j))) C) : W (gNe (.str i) (.str j) C) QD := W.ok h
/-- of values -/
theorem w_eqP {x y : D} {p q : PyData} (hx : toP C x = some p) (hy : toP C y = some q) (hp : SeqAt.shaped p = true) (hq : SeqAt.shaped q = true) (hn : ∀ a, x ≠ .str a) (h : QD (.bl (PyData.eqv p q)) C) : W (gEq x y C) QD := by
  refine W.of (a := .bl (PyData.eqv p q)) (C := C) ?_ h
  unfold gEq
  split
  · exact absurd rfl (hn _)
  · unfold gEq0
    simp only [hx, hy, hp, hq]
    rfl
theorem w_neP {x y : D} {p q : PyData} (hx : toP C x = some p) (hy : toP C y = some q) (hp : SeqAt.shaped p = true) (hq : SeqAt.shaped q = true) (hn : ∀ a, x ≠ .str a) (h : QD (.bl (!PyData.eqv p q)) C) : W (gNe x y C) QD := by
  refine W.of (a := .bl (!PyData.eqv p q)) (C := C) ?_ h
  unfold gNe
  split
  · exact absurd rfl (hn _)
  · unfold gNe0
    simp only [hx, hy, hp, hq]
    rfl
theorem w_eqB {a b : Bool} (h : QD (.bl (decide (a = b))) C) : W (gEq (.bl a) (.bl b) C) QD := by
  refine w_eqP rfl rfl rfl rfl (fun a e => by cases e) ?_
  have : PyData.eqv (.bool a) (.bool b) = decide (a = b) := by cases a <;> cases b <;> decide
  rwa [this]
theorem w_neB {a b : Bool} (h : QD (.bl (!decide (a = b))) C) : W (gNe (.bl a) (.bl b) C) QD := by
  refine w_neP rfl rfl rfl rfl (fun a e => by cases e) ?_
  have : PyData.eqv (.bool a) (.bool b) = decide (a = b) := by cases a <;> cases b <;> decide
  rwa [this]
theorem w_ixL {ds : List D} {i : Int} {d : D} (e : atI ds i = some d) (h : QD d C) : W (gIx (.lst ds) (.int i) C) QD := by
  refine W.of (a := d) (C := C) ?_ h
  show (match (some ds).bind (fun ds => atI ds i) with
      | some d => R.ok (d, C)
      | none => .no) = _
  rw [Option.bind_some, e]
theorem w_ixT {ds : List D} {i : Int} {d : D} (e : atI ds i = some d) (h : QD d C) : W (gIx (.tup ds) (.int i) C) QD := by
  refine W.of (a := d) (C := C) ?_ h
  show (match (some ds).bind (fun ds => atI ds i) with
      | some d => R.ok (d, C)
      | none => .no) = _
  rw [Option.bind_some, e]
theorem w_ixC {k : Nat} {ds : List D} {i : Int} {d : D} (hk : C[k]? = some (.lst ds)) (e : atI ds i = some d) (h : QD d C) : W (gIx (.cell k) (.int i) C) QD := by
  refine W.of (a := d) (C := C) ?_ h
  show (match (lstAt C k).bind (fun ds => atI ds i) with
      | some d => R.ok (d, C)
      | none => .no) = _
  rw [lstAt_lst hk, Option.bind_some, e]
theorem w_set {k n : Nat} {ds : List D} {i : Int} {d : D} {Q : Unit → Store → Prop} (hk : C[k]? = some (.lst ds)) (e : ixN ds.length i = some n) (h : Q () (C.set k (.lst (ds.set n d)))) : W (gSet (.cell k) (.int i) d C) Q := by
  refine W.of (a := ()) (C := C.set k (.lst (ds.set n d))) ?_ h
  show (match (mutAt C k).map (fun ds => (k, ds)), some i with
    | some (k, xs), some j => match ixN xs.length j with
      | some n => R.ok ((), C.set k (.lst (xs.set n d)))
      | none => .no
    | _, _ => .no) = _
  rw [mutAt_lst hk]
  simp only [Option.map_some, e]
theorem w_append {k : Nat} {ds : List D} {d : D} (hk : C[k]? = some (.lst ds)) (hl : ds.length < sizeLine) (h : QD .non (C.set k (.lst (ds ++ [d])))) : W (gAppend (.cell k) [d] C) QD := by
  refine W.of (a := .non) (C := C.set k (.lst (ds ++ [d]))) ?_ h
  show (match (mutAt C k).map (fun ds => (k, ds)), [d] with
    | some (i, xs), [y] => if xs.length < sizeLine then R.ok (D.non, C.set i (.lst (xs ++ [y]))) else .no
    | _, _ => .no) = _
  rw [mutAt_lst hk]
  simp only [Option.map_some, if_pos hl]
theorem w_chkC {k : Nat} {ds : List D} (hk : C[k]? = some (.lst ds)) : isL C (.cell k) = true := by
  unfold isL
  show (lstAt C k).isSome = true
  rw [lstAt_lst hk]
  rfl
theorem w_lenL {ds : List D} (h : QD (.int ds.length) C) : W (on1 gLen [.lst ds] C) QD := W.ok h
theorem w_lenT {ds : List D} (h : QD (.int ds.length) C) : W (on1 gLen [.tup ds] C) QD := W.ok h
theorem w_lenC {k : Nat} {ds : List D} (hk : C[k]? = some (.lst ds)) (h : QD (.int ds.length) C) : W (on1 gLen [.cell k] C) QD := by
  refine W.of (a := .int ds.length) (C := C) ?_ h
  show (match lstAt C k with
    | some ds => R.ok (D.int ds.length, C)
    | none => .no) = _
  rw [lstAt_lst hk]
theorem w_max2 {i j : Int} (h : QD (.int (max i j)) C) : W (on2 gMax2 [.int i, .int j] C) QD := W.ok h
theorem w_min2 {i j : Int} (h : QD (.int (min i j)) C) : W (on2 gMin2 [.int i, .int j] C) QD := W.ok h
theorem w_intI {i : Int} (h : QD (.int i) C) : W (on1 gInt [.int i] C) QD := W.ok h
theorem w_intB {b : Bool} (h : QD (.int (if b then 1 else 0)) C) : W (on1 gInt [.bl b] C) QD := W.ok h
theorem w_rg {c : Bool} {i j : Int} (hl : (lowI i && lowI j) = true) (h : W (newL c (rangeD i j) C) QD) : W (gRg c (.int i) (.int j) C) QD := by
  show W (if (lowI i && lowI j) = true then newL c (rangeD i j) C else .no) QD
  rw [if_pos hl]
  exact h
/-! a def -/
theorem w_run {n : Nat} {ds : List D} (h : WS (u (ds.map some ++ List.replicate (n - ds.length) none) C) fun f _ C' => match f with
    | .nx => W (fin C .non C') QD
    | .rt d => W (fin C d C') QD
    | _ => False) : W (runD n u ds C) QD := WS.bind (h.imp fun f sl C' h => by
  cases f with
  | nx => exact h
  | rt d => exact h
  | bk => exact h.elim
  | ct => exact h.elim)
theorem w_fz_flat {n : Nat} {d : D} (h : W (m sl C) fun x C1 => x = d ∧ C1 = C) (hf : flatR d = true) (hd : closedD 0 d = true) (q : QD d C) : W (mFz n m sl C) QD := W.of (fz_val (W.eq h) hf hd) q
end
end Nv

namespace Nv
open PySem PySem.Spec PyProof.Rows L2
/-! more steps -/
section
variable {S S2 : Type} {Q : S → Store → Prop} {QD : D → Store → Prop} {QB : Bool → Store → Prop} {QL : List D → Store → Prop} {QS : Fl → Sl → Store → Prop} {sl : Sl} {C C1 C2 : Store} {m ma mb mc : ME} {t ta tb : MG Bool} {mas : MG (List D)} {u u1 u2 : MS}
theorem ite_t {A B : Prop} {b : Bool} (e : b = true) (h : A) : if b = true then A else B := by rw [if_pos e]; exact h
theorem ite_f {A B : Prop} {b : Bool} (e : b = false) (h : B) : if b = true then A else B := by rw [if_neg (by rw [e]; decide)]; exact h
theorem bl_b {b : Bool} {P : Bool → Prop} (h : P b) : ∃ b', D.bl b = .bl b' ∧ P b' := ⟨b, rfl, h⟩
theorem int_i {i : Int} {P : Int → Prop} (h : P i) : ∃ i', D.int i = .int i' ∧ P i' := ⟨i, rfl, h⟩
theorem par_2 {x y : D} {P : D → D → Prop} (h : P x y) : ∃ x' y', [x, y] = [x', y'] ∧ P x' y' := ⟨x, y, rfl, h⟩
/-- the store beside fresh cells -/
theorem fin_flat {C1 X : Store} {d : D} (hl : C1.length = C.length) (hc : ∀ c ∈ C1, closedC C.length c = true) (hf : flatR d = true) (hd : closedD 0 d = true) (h : QD d C1) : W (fin C d (C1 ++ X)) QD := by
  have hcc : C.length ≤ (C1 ++ X).length ∧ ∀ (i : Nat), i < C.length → (C1 ++ X)[i]? = C[i]? ∨ ∃ c, (C1 ++ X)[i]? = some c ∧ closedC C.length c = true := ⟨by simp; omega, fun i hi => by
    have h1 : i < C1.length := by omega
    exact .inr ⟨C1[i], by rw [List.getElem?_append_left h1, List.getElem?_eq_getElem h1], hc _ (List.getElem_mem h1)⟩⟩
  refine W.of (fin_val hcc hf (closedD_mono (Nat.zero_le _) d hd)) ?_
  rw [← hl, List.take_left]
  exact h
theorem fin_flat0 {C1 : Store} {d : D} (hl : C1.length = C.length) (hc : ∀ c ∈ C1, closedC C.length c = true) (hf : flatR d = true) (hd : closedD 0 d = true) (h : QD d C1) : W (fin C d C1) QD := by
  have := fin_flat (X := []) (QD := QD) hl hc hf hd h
  rwa [List.append_nil] at this
theorem fin_set1 {k : Nat} {c : Cell} {d : D} (hc : closedC C.length c = true) (hf : flatR d = true) (hd : closedD 0 d = true) (h : QD d (C.set k c)) : W (fin C d (C.set k c)) QD := by
  by_cases hk : k < C.length
  · refine W.of (fin_val (fin_cond (k := k) (Upd.set k C c) (.inl ⟨List.getElem?_set_self hk, hc⟩)) hf (closedD_mono (Nat.zero_le _) d hd)) ?_
    rw [show C.length = (C.set k c).length by simp, List.take_length]
    exact h
  · refine W.of (fin_val (fin_cond (k := k) (c := c) (Upd.set k C c) (.inr (Nat.le_of_not_lt hk))) hf (closedD_mono (Nat.zero_le _) d hd)) ?_
    rw [show C.length = (C.set k c).length by simp, List.take_length]
    exact h
theorem fin_same {d : D} (hf : flatR d = true) (hd : closedD 0 d = true) (h : QD d C) : W (fin C d C) QD := W.of (fin_pure0 hf hd) h
end
end Nv

namespace Nv
open PySem PySem.Spec PyProof.Rows L2
section
variable {QD : D → Store → Prop} {QS : Fl → Sl → Store → Prop} {QK : Wk → Store → Prop} {sl : Sl} {C : Store} {m : ME} {t : MG Bool} {mas : MG (List D)} {u : MS} {g : MT} {gd : Gd} {ds : List D} {c : Bool} {own : List Nat} {mi : MI}
def forQ (P : Sl → Store → Prop) (QS : Fl → Sl → Store → Prop) : Fl → Sl → Store → Prop := fun f sl C => match f with
  | .nx => P sl C
  | .ct => P sl C
  | .bk => QS .nx sl C
  | .rt d => QS (.rt d) sl C
theorem w_forM (Inv : Nat → Sl → Store → Prop) (hg : ∀ i sl C, Inv i sl C → okG gd C)
    (step : ∀ i d sl C, ds[i]? = some d → Inv i sl C → W (g d sl C) fun sl1 C1 => WS (u sl1 C1) (forQ (Inv (i + 1)) QS))
    (hend : ∀ sl C, Inv ds.length sl C → QS .nx sl C) (h0 : Inv 0 sl C) : WS (forM g u gd ds sl C) QS := by
  suffices h : ∀ (n : Nat) (es : List D) sl C, es = ds.drop n → n ≤ ds.length → Inv n sl C → WS (forM g u gd es sl C) QS from h 0 ds sl C rfl (Nat.zero_le _) h0
  intro n es
  induction es generalizing n with
  | nil =>
    intro sl C e hn hi
    have : n = ds.length := by
      have := congrArg List.length e
      simp at this
      omega
    subst this
    unfold forM
    rw [if_pos (hg _ _ _ hi)]
    exact WS.ok (hend _ _ hi)
  | cons d es ih =>
    intro sl C e hn hi
    have hd : ds[n]? = some d := by
      have := congrArg (fun l => l[0]?) e
      simp at this
      exact this.symm
    have hn2 : n < ds.length := (List.getElem?_eq_some_iff.mp hd).1
    have he : es = ds.drop (n + 1) := by
      have := congrArg List.tail e
      simpa using this
    unfold forM
    rw [if_pos (hg _ _ _ hi)]
    refine W.bindS ((step n d sl C hd hi).imp fun sl1 C1 h => WS.bindS (h.imp fun f sl2 C2 h => ?_))
    cases f with
    | nx => exact ih (n + 1) sl2 C2 he hn2 h
    | ct => exact ih (n + 1) sl2 C2 he hn2 h
    | bk => exact WS.ok h
    | rt d => exact WS.ok h
theorem w_sFor (h : W (mi sl C) fun k C1 => WS (forM g u k.2 k.1 sl C1) QS) : WS (sFor mi g u sl C) QS := W.bindS (h.imp fun _ _ h => h)
theorem w_iLst (h : W (m sl C) fun x C1 => ∃ k, lstG C1 x = some k ∧ QK k C1) : W (iLst m sl C) QK := W.bind (h.imp fun x C1 h => by
  obtain ⟨k, e, h⟩ := h
  simp only [e]
  exact W.ok h)
theorem w_iRg1 (h : W (mas sl C) fun xs C1 => ∃ j, xs = [.int j] ∧ lowI j = true ∧ QK (rgD 0 j, []) C1) : W (iRg1 mas sl C) QK := W.bind (h.imp fun x C1 h => by
  obtain ⟨j, rfl, e, h⟩ := h
  simp only [e, if_true]
  exact W.ok h)
theorem w_iEn (h : W (mas sl C) fun xs C1 => ∃ x, xs = [x] ∧ ∃ k, lstG C1 x = some k ∧ QK (enumD 0 k.1, k.2) C1) : W (iEn mas sl C) QK := W.bind (h.imp fun x C1 h => by
  obtain ⟨x, rfl, k, e, h⟩ := h
  simp only [e]
  exact W.ok h)
theorem w_iZp (h : W (mas sl C) fun xs C1 => ∃ x y, xs = [x, y] ∧ ∃ k, lstG C1 x = some k ∧ ∃ l, lstG C1 y = some l ∧ QK (pairs k.1 l.1, k.2 ++ l.2) C1) : W (iZp mas sl C) QK := W.bind (h.imp fun x C1 h => by
  obtain ⟨x, y, rfl, k, e, l, e2, h⟩ := h
  simp only [e, e2]
  exact W.ok h)
theorem w_iTp (h : W (m sl C) fun x C1 => ∃ ds, x = .tup ds ∧ QK (ds, []) C1) : W (iTp m sl C) QK := W.bind (h.imp fun x C1 h => by
  obtain ⟨ds, rfl, h⟩ := h
  exact W.ok h)
theorem tup_t {ds : List D} {P : List D → Prop} (h : P ds) : ∃ ds', D.tup ds = .tup ds' ∧ P ds' := ⟨ds, rfl, h⟩
theorem lstG_l {ds : List D} {P : Wk → Prop} (h : P (ds, [])) : ∃ k, lstG C (.lst ds) = some k ∧ P k := ⟨_, rfl, h⟩
theorem lstG_c {k : Nat} {ds : List D} {P : Wk → Prop} (hk : C[k]? = some (.lst ds)) (h : P (ds, [(k, ds)])) : ∃ k', lstG C (.cell k) = some k' ∧ P k' := ⟨(ds, [(k, ds)]), by unfold lstG; simp only [hk], h⟩
theorem one_1 {x : D} {P : D → Prop} (h : P x) : ∃ x', [x] = [x'] ∧ P x' := ⟨x, rfl, h⟩
theorem one_i {i : Int} {P : Int → Prop} (h : P i) : ∃ i', [D.int i] = [.int i'] ∧ P i' := ⟨i, rfl, h⟩
theorem le0 : ([] : List D).length ≤ sizeLine := by simp [sizeLine]
theorem le1 {a0 : D} : [a0].length ≤ sizeLine := by simp [sizeLine]
theorem le2 {a0 a1 : D} : [a0, a1].length ≤ sizeLine := by simp [sizeLine]
theorem le3 {a0 a1 a2 : D} : [a0, a1, a2].length ≤ sizeLine := by simp [sizeLine]
theorem le4 {a0 a1 a2 a3 : D} : [a0, a1, a2, a3].length ≤ sizeLine := by simp [sizeLine]
theorem le5 {a0 a1 a2 a3 a4 : D} : [a0, a1, a2, a3, a4].length ≤ sizeLine := by simp [sizeLine]
theorem le6 {a0 a1 a2 a3 a4 a5 : D} : [a0, a1, a2, a3, a4, a5].length ≤ sizeLine := by simp [sizeLine]
theorem le7 {a0 a1 a2 a3 a4 a5 a6 : D} : [a0, a1, a2, a3, a4, a5, a6].length ≤ sizeLine := by simp [sizeLine]
theorem le8 {a0 a1 a2 a3 a4 a5 a6 a7 : D} : [a0, a1, a2, a3, a4, a5, a6, a7].length ≤ sizeLine := by simp [sizeLine]
theorem len_and {l : List D} {n : Nat} {P : Prop} (h : l.length = n) (p : P) : l.length = n ∧ P := ⟨h, p⟩
theorem le_and {l : List D} {n : Nat} {P : Prop} (h : l.length ≤ n) (p : P) : l.length ≤ n ∧ P := ⟨h, p⟩
theorem low_and {i : Int} {P : Prop} (h : lowI i = true) (p : P) : lowI i = true ∧ P := ⟨h, p⟩
theorem isL_and {x : D} {P : Prop} (h : isL C x = true) (p : P) : isL C x = true ∧ P := ⟨h, p⟩
theorem isS_and {x : D} {P : Prop} (h : isS C x = true) (p : P) : isS C x = true ∧ P := ⟨h, p⟩
theorem W.calm {S : Type} {Q : S → Store → Prop} {o : R (S × Store)} (h : W o Q) : W (R.calm o) Q := by
  obtain ⟨a, C, rfl, q⟩ := h
  exact ⟨a, C, rfl, q⟩
theorem w_lcM {Q : List D → Store → Prop} (Inv : Nat → List D → Store → Prop) (hg : ∀ i acc C, Inv i acc C → okG gd C)
    (step : ∀ i d acc C, ds[i]? = some d → Inv i acc C → W (g d sl C) fun sl1 C1 => W (t sl1 C1) fun b C2 => if b = true then W (m sl1 C2) fun e C3 => Inv (i + 1) (acc ++ [e]) C3 else Inv (i + 1) acc C2)
    (hend : ∀ zs C, Inv ds.length zs C → Q zs C) (h0 : Inv 0 [] C) : W (lcM g t m gd sl ds C) Q := by
  suffices h : ∀ (n : Nat) (es acc : List D) C, es = ds.drop n → n ≤ ds.length → Inv n acc C → W (lcM g t m gd sl es C) fun zs C' => Q (acc ++ zs) C' by
    have := h 0 ds [] C rfl (Nat.zero_le _) h0
    simpa using this
  intro n es
  induction es generalizing n with
  | nil =>
    intro acc C e hn hi
    have : n = ds.length := by
      have := congrArg List.length e
      simp at this
      omega
    subst this
    unfold lcM
    rw [if_pos (hg _ _ _ hi)]
    refine W.ok ?_
    rw [List.append_nil]
    exact hend _ _ hi
  | cons d es ih =>
    intro acc C e hn hi
    have hd : ds[n]? = some d := by
      have := congrArg (fun l => l[0]?) e
      simp at this
      exact this.symm
    have hn2 : n < ds.length := (List.getElem?_eq_some_iff.mp hd).1
    have he : es = ds.drop (n + 1) := by
      have := congrArg List.tail e
      simpa using this
    unfold lcM
    rw [if_pos (hg _ _ _ hi)]
    refine W.bind ((step n d acc C hd hi).imp fun sl1 C1 h => W.bind (h.imp fun b C2 h => ?_))
    cases b with
    | false => exact ih (n + 1) acc C2 he hn2 h
    | true =>
      refine W.bind (W.imp h fun e C3 h => W.bind ((ih (n + 1) (acc ++ [e]) C3 he hn2 h).imp fun zs C4 h => W.ok ?_))
      simpa using h
theorem w_mLc (h : W (mi sl C) fun k C1 => k.1.length ≤ sizeLine ∧ W (lcM g t m k.2 (wipeS sl own) k.1 C1) fun zs C2 => W (newL c zs C2) QD) : W (mLc c own mi g t m sl C) QD := W.bind (h.imp fun k C1 h => by
  simp only [if_pos h.1]
  exact W.bind (W.calm h.2))
theorem w_tTrue {QB : Bool → Store → Prop} (h : QB true C) : W (tTrue sl C) QB := W.ok h
/-- a comprehension that maps, with no store in play -/
theorem w_lcMap {Q : List D → Store → Prop} {f : Nat → D → D} (step : ∀ i d, ds[i]? = some d → W (g d sl C) fun sl1 C1 => W (m sl1 C1) fun e C3 => e = f i d ∧ C3 = C) (q : Q (ds.mapIdx f) C) : W (lcM g tTrue m [] sl ds C) Q := by
  refine w_lcM (fun i acc C' => C' = C ∧ acc = (ds.take i).mapIdx f) (fun _ _ _ _ => okG_nil _) (fun i d acc C' hd h => ?_) (fun zs C' h => ?_) ⟨rfl, rfl⟩
  · obtain ⟨rfl, rfl⟩ := h
    refine (step i d hd).imp fun sl1 C1 h => w_tTrue ?_
    rw [if_pos rfl]
    refine h.imp fun e C3 h => ?_
    obtain ⟨rfl, rfl⟩ := h
    refine ⟨rfl, ?_⟩
    have hl := (List.getElem?_eq_some_iff.mp hd).1
    rw [List.take_succ, hd]
    simp [List.mapIdx_append, Nat.min_eq_left (Nat.le_of_lt hl)]
  · obtain ⟨rfl, rfl⟩ := h
    rwa [List.take_length]
/-- ... that sifts -/
theorem w_lcSift {Q : List D → Store → Prop} {p : D → Bool} {f : D → D} (step : ∀ (i : Nat) (d : D), ds[i]? = some d → W (g d sl C) fun sl1 C1 => W (t sl1 C1) fun b C2 => b = p d ∧ C2 = C ∧ (p d = true → W (m sl1 C) fun e C3 => e = f d ∧ C3 = C)) (q : Q ((ds.filter p).map f) C) : W (lcM g t m [] sl ds C) Q := by
  refine w_lcM (fun i acc C' => C' = C ∧ acc = ((ds.take i).filter p).map f) (fun _ _ _ _ => okG_nil _) (fun i d acc C' hd h => ?_) (fun zs C' h => ?_) ⟨rfl, rfl⟩
  · obtain ⟨rfl, rfl⟩ := h
    refine (step i d hd).imp fun sl1 C1 h => h.imp fun b C2 h => ?_
    obtain ⟨rfl, rfl, h⟩ := h
    rw [List.take_succ, hd, List.filter_append, List.map_append]
    by_cases hp : p d = true
    · rw [if_pos hp]
      refine (h hp).imp fun e C3 h => ?_
      obtain ⟨rfl, rfl⟩ := h
      exact ⟨rfl, by simp [hp]⟩
    · rw [if_neg hp]
      exact ⟨rfl, by simp [hp]⟩
  · obtain ⟨rfl, rfl⟩ := h
    rwa [List.take_length]
theorem rgD_get {n i : Nat} {d : D} (h : (rgD 0 n)[i]? = some d) : i < n ∧ d = .int i := by
  unfold rgD at h
  rw [List.getElem?_map, Option.map_eq_some_iff] at h
  obtain ⟨a, h1, rfl⟩ := h
  rw [List.getElem?_eq_some_iff] at h1
  obtain ⟨h2, h3⟩ := h1
  rw [List.getElem_range] at h3
  rw [List.length_range] at h2
  subst h3
  exact ⟨by omega, by simp⟩
theorem rgD_len (n : Nat) : (rgD 0 n).length = n := by simp [rgD]
theorem rgD_map (n : Nat) : rgD 0 n = (List.range n).map fun i : Nat => D.int i := by simp [rgD]
theorem rangeD_0 (n : Nat) : rangeD 0 n = ((List.range n).map fun i : Nat => (i : Int)).map D.int := by simp [rangeD]
theorem low_nat {n : Nat} (h : n ≤ 2 ^ 20) : lowI (n : Int) = true := by
  unfold lowI
  rw [Bool.and_eq_true]
  exact ⟨decide_eq_true (by omega), decide_eq_true (by omega)⟩
theorem ixN_int {i : Int} {m : Nat} (h0 : 0 ≤ i) (h : i < m) : ixN m i = some i.toNat := by
  unfold ixN
  rw [if_pos h0, if_pos h]
theorem ixN_nat {n m : Nat} (h : n < m) : ixN m (n : Int) = some n := by
  rw [ixN_int (by omega) (by omega)]
  simp
theorem atI_nat {ds : List D} {n : Nat} {d : D} (h : ds[n]? = some d) : atI ds (n : Int) = some d := by
  have hl := (List.getElem?_eq_some_iff.mp h).1
  unfold atI
  rw [ixN_nat hl, Option.bind_some, h]
theorem atI_int {l : List Int} {i : Int} {x : Int} (h0 : 0 ≤ i) (h : l[i.toNat]? = some x) : atI (l.map D.int) i = some (.int x) := by
  have hl := (List.getElem?_eq_some_iff.mp h).1
  unfold atI
  rw [ixN_int h0 (by simp; omega), Option.bind_some, List.getElem?_map, h]
  rfl
theorem cl_nil {n : Nat} : ∀ c ∈ ([] : Store), closedC n c = true := fun c h => nomatch h
theorem cl_cons {n : Nat} {c : Cell} {C : Store} (h : closedC n c = true) (t : ∀ c ∈ C, closedC n c = true) : ∀ d ∈ c :: C, closedC n d = true := fun d hd => by
  rcases List.mem_cons.mp hd with rfl | hd
  · exact h
  · exact t d hd
theorem app_cond {C1 X : Store} (hl : C1.length = C.length) (hc : ∀ c ∈ C1, closedC C.length c = true) : C.length ≤ (C1 ++ X).length ∧ ∀ (i : Nat), i < C.length → (C1 ++ X)[i]? = C[i]? ∨ ∃ c, (C1 ++ X)[i]? = some c ∧ closedC C.length c = true := ⟨by simp; omega, fun i hi => by
    have h1 : i < C1.length := by omega
    exact .inr ⟨C1[i], by rw [List.getElem?_append_left h1, List.getElem?_eq_getElem h1], hc _ (List.getElem_mem h1)⟩⟩
theorem app_take {C1 X : Store} (hl : C1.length = C.length) : (C1 ++ X).take C.length = C1 := by rw [← hl, List.take_left]
theorem fin_tup2 {C1 : Store} {a b : Cell} (hl : C1.length = C.length) (hc : ∀ c ∈ C1, closedC C.length c = true) (ha : closedC C.length a = true) (hb : closedC C.length b = true) (h : QD (.tup [.cell C.length, .cell (C.length + 1)]) (C1 ++ [a, b])) :
    W (fin C (.tup [.cell C.length, .cell (C.length + 1)]) (C1 ++ [a, b])) QD := by
  refine W.of (a := .tup [.cell C.length, .cell (C.length + 1)]) (C := C1 ++ [a, b]) ?_ h
  unfold fin
  rw [if_pos (app_cond hl hc)]
  have e1 : (C1 ++ [a, b])[C.length]? = some a := by rw [← hl]; simp
  have e2 : (C1 ++ [a, b])[C.length + 1]? = some b := by rw [← hl, List.getElem?_append_right (by omega)]; simp
  simp only [e1, e2]
  rw [if_pos ⟨Nat.le_refl _, by omega, by omega, ha, hb⟩, app_take hl]
/-- one fresh cell comes out -/
theorem fin_cell1 {C1 : Store} {a : Cell} (hl : C1.length = C.length) (hc : ∀ c ∈ C1, closedC C.length c = true) (ha : closedC C.length a = true) (h : QD (.cell C.length) (C1 ++ [a])) :
    W (fin C (.cell C.length) (C1 ++ [a])) QD := by
  refine W.of (a := .cell C.length) (C := C1 ++ [a]) ?_ h
  unfold fin
  rw [if_pos (app_cond hl hc)]
  have e1 : (C1 ++ [a])[C.length]? = some a := by rw [← hl]; simp
  simp only [e1]
  rw [if_neg (by omega), if_pos ha, app_take hl]
theorem fin_fz {C1 X : Store} {d : D} (hl : C1.length = C.length) (hc : ∀ c ∈ C1, closedC C.length c = true) (hf : ∀ a b, d ≠ .tup [.cell a, .cell b]) (hd : closedD 0 d = true) (h : QD d C1) : W (fin C d (C1 ++ X)) QD := by
  refine W.of (a := d) (C := C1) ?_ h
  unfold fin
  rw [if_pos (app_cond hl hc)]
  split
  · simp [closedD] at hd
  · rename_i a b
    exact absurd rfl (hf a b)
  · rw [if_pos (closedD_mono (Nat.zero_le _) d hd), app_take hl]
theorem w_fz2 {n : Nat} (h : W (m sl C) fun d C1 => ∃ (xs ys : List D) (C' : Store), d = .tup [.cell C.length, .cell (C.length + 1)] ∧ C1 = C' ++ [.lst xs, .lst ys] ∧ C'.length = C.length ∧ (∀ c ∈ C', closedC C.length c = true) ∧ closedDs 0 xs = true ∧ closedDs 0 ys = true ∧ QD (.tup [.lst xs, .lst ys]) C') : W (mFz (n + 2) m sl C) QD := by
  refine W.bind (h.imp fun d C1 h => ?_)
  obtain ⟨xs, ys, C', rfl, rfl, hl, hc, h1, h2, q⟩ := h
  have e1 : (C' ++ [Cell.lst xs, Cell.lst ys])[C.length]? = some (.lst xs) := by rw [← hl]; simp
  have e2 : (C' ++ [Cell.lst xs, Cell.lst ys]).set C.length (.fz xs) = C' ++ [.fz xs, .lst ys] := by rw [← hl]; simp
  have e3 : (C' ++ [Cell.fz xs, Cell.lst ys])[C.length + 1]? = some (.lst ys) := by rw [← hl, List.getElem?_append_right (by omega)]; simp
  have e4 : (C' ++ [Cell.fz xs, Cell.lst ys]).set (C.length + 1) (.fz ys) = C' ++ [.fz xs, .fz ys] := by rw [← hl, List.set_append_right _ _ (by omega)]; simp
  have f1 : frz (n + 1) (.cell C.length) (C' ++ [Cell.lst xs, Cell.lst ys]) = some (.lst xs, C' ++ [.fz xs, .lst ys]) := by
    unfold frz
    simp only [e1, e2]
    rw [frzL_id _ xs fun x hx => frz_id n _ x (closed_mem h1 hx)]
    rfl
  have f2 : frz (n + 1) (.cell (C.length + 1)) (C' ++ [Cell.fz xs, Cell.lst ys]) = some (.lst ys, C' ++ [.fz xs, .fz ys]) := by
    unfold frz
    simp only [e3, e4]
    rw [frzL_id _ ys fun x hx => frz_id n _ x (closed_mem h2 hx)]
    rfl
  have f3 : frz (n + 2) (.tup [.cell C.length, .cell (C.length + 1)]) (C' ++ [Cell.lst xs, Cell.lst ys]) = some (.tup [.lst xs, .lst ys], C' ++ [.fz xs, .fz ys]) := by
    show (frzL (frz (n + 1)) _ _).bind _ = _
    unfold frzL
    rw [f1, Option.bind_some]
    unfold frzL
    rw [f2, Option.bind_some]
    rfl
  simp only [f3]
  refine fin_fz hl hc (fun a b e => by cases e) ?_ q
  show (closedDs 0 xs && (closedDs 0 ys && true)) = true
  rw [h1, h2]
  rfl
theorem w_fz1 {n : Nat} (h : W (m sl C) fun d C1 => ∃ (xs : List D) (C' : Store), d = .cell C.length ∧ C1 = C' ++ [.lst xs] ∧ C'.length = C.length ∧ (∀ c ∈ C', closedC C.length c = true) ∧ closedDs 0 xs = true ∧ QD (.lst xs) C') : W (mFz (n + 1) m sl C) QD := by
  refine W.bind (h.imp fun d C1 h => ?_)
  obtain ⟨xs, C', rfl, rfl, hl, hc, h1, q⟩ := h
  have e1 : (C' ++ [Cell.lst xs])[C.length]? = some (.lst xs) := by rw [← hl]; simp
  have e2 : (C' ++ [Cell.lst xs]).set C.length (.fz xs) = C' ++ [.fz xs] := by rw [← hl]; simp
  have f1 : frz (n + 1) (.cell C.length) (C' ++ [Cell.lst xs]) = some (.lst xs, C' ++ [.fz xs]) := by
    unfold frz
    simp only [e1, e2]
    rw [frzL_id _ xs fun x hx => frz_id n _ x (closed_mem h1 hx)]
    rfl
  simp only [f1]
  exact fin_fz hl hc (fun a b e => by cases e) h1 q
/-- both ways of a choice at once -/
theorem w_ifC {x y : D} {b : Bool} {sl1 sl2 : Sl} {Q : D → Store → Prop} (h : ∀ z, (b = true ∧ z = x ∨ b = false ∧ z = y) → Q z C) : if b = true then W (mC x sl1 C) Q else W (mC y sl2 C) Q := by
  cases b with
  | true => exact w_c (h x (.inl ⟨rfl, rfl⟩))
  | false => exact w_c (h y (.inr ⟨rfl, rfl⟩))
theorem w_cut {S : Type} {Q Q' : S → Store → Prop} {o : R (S × Store)} (h : W o Q') (k : ∀ a C, Q' a C → Q a C) : W o Q := h.imp k
theorem w_ite {A B : Prop} {b : Bool} (h1 : b = true → A) (h2 : b = false → B) : if b = true then A else B := by
  cases b with
  | true => exact h1 rfl
  | false => exact h2 rfl
theorem setI_map (l : List Int) (n : Nat) (x : Int) : (l.map D.int).set n (.int x) = (l.set n x).map D.int := by simp
/-! kinds, sums, equal values -/
theorem w_isiT {T t : String} {x : D} (ht : tyC C x = some t) (hb : isB t T = true) (q : QD (.bl true) C) : W (gIsi T x C) QD := by
  refine W.of (a := .bl true) (C := C) ?_ q
  unfold gIsi
  rw [ht]
  simp only [hb]
theorem w_isiF {T t : String} {x : D} (ht : tyC C x = some t) (hb : isB t T = false) (q : QD (.bl false) C) : W (gIsi T x C) QD := by
  refine W.of (a := .bl false) (C := C) ?_ q
  unfold gIsi
  rw [ht]
  simp only [hb]
theorem w_isiLT {T : List String} {t : String} {x : D} (ht : tyC C x = some t) (hb : T.any (isB t) = true) (q : QD (.bl true) C) : W (gIsiL T x C) QD := by
  refine W.of (a := .bl true) (C := C) ?_ q
  unfold gIsiL
  rw [ht]
  simp only [hb]
theorem w_isiLF {T : List String} {t : String} {x : D} (ht : tyC C x = some t) (hb : T.any (isB t) = false) (q : QD (.bl false) C) : W (gIsiL T x C) QD := by
  refine W.of (a := .bl false) (C := C) ?_ q
  unfold gIsiL
  rw [ht]
  simp only [hb]
theorem w_isNT {x : D} (hb : x = .non) (q : QD (.bl true) C) : W (gIs x .non C) QD := by
  subst hb
  exact W.ok q
theorem w_all {bs : List Bool} (q : QD (.bl (bs.all id)) C) : W (on1 gAll [.lst (bs.map D.bl)] C) QD := by
  refine W.of (a := .bl (bs.all id)) (C := C) ?_ q
  show (match (some (bs.map D.bl)).bind blsOf with
    | some bs => R.ok (D.bl (bs.all id), C)
    | none => .no) = _
  rw [Option.bind_some, blsOf_map]
theorem w_any {bs : List Bool} (q : QD (.bl (bs.any id)) C) : W (on1 gAny [.lst (bs.map D.bl)] C) QD := by
  refine W.of (a := .bl (bs.any id)) (C := C) ?_ q
  show (match (some (bs.map D.bl)).bind blsOf with
    | some bs => R.ok (D.bl (bs.any id), C)
    | none => .no) = _
  rw [Option.bind_some, blsOf_map]
theorem w_sum {ns : List Int} (q : QD (.int ns.sum) C) : W (on1 gSum [.lst (ns.map D.int)] C) QD := by
  refine W.of (a := .int ns.sum) (C := C) ?_ q
  show (match (some (ns.map D.int)).bind intsOf with
    | some bs => R.ok (D.int bs.sum, C)
    | none => .no) = _
  rw [Option.bind_some, intsOf_map]
theorem toPs_int (C : Store) : ∀ l : List Int, toPs C (l.map D.int) = some (l.map PyData.int)
  | [] => rfl
  | x :: l => by
    show (match toP C (.int x), toPs C (l.map D.int) with
      | some p, some ps => some (p :: ps)
      | _, _ => none) = _
    rw [toPs_int C l]
    rfl
theorem toPs_str (C : Store) : ∀ l : List Str, toPs C (l.map D.str) = some (l.map PyData.str)
  | [] => rfl
  | x :: l => by
    show (match toP C (.str x), toPs C (l.map D.str) with
      | some p, some ps => some (p :: ps)
      | _, _ => none) = _
    rw [toPs_str C l]
    rfl
theorem toPs0_int : ∀ l : List Int, toPs0 (l.map D.int) = some (l.map PyData.int)
  | [] => rfl
  | x :: l => by
    show (match toP0 (.int x), toPs0 (l.map D.int) with
      | some p, some ps => some (p :: ps)
      | _, _ => none) = _
    rw [toPs0_int l]
    rfl
theorem toPs0_str : ∀ l : List Str, toPs0 (l.map D.str) = some (l.map PyData.str)
  | [] => rfl
  | x :: l => by
    show (match toP0 (.str x), toPs0 (l.map D.str) with
      | some p, some ps => some (p :: ps)
      | _, _ => none) = _
    rw [toPs0_str l]
    rfl
theorem toP_ints (C : Store) (l : List Int) : toP C (.lst (l.map D.int)) = some (.list (l.map PyData.int)) := by
  show (toPs C (l.map D.int)).map PyData.list = _
  rw [toPs_int]
  rfl
theorem toP_strs (C : Store) (l : List Str) : toP C (.lst (l.map D.str)) = some (.list (l.map PyData.str)) := by
  show (toPs C (l.map D.str)).map PyData.list = _
  rw [toPs_str]
  rfl
theorem depth_ints : ∀ l : List Int, PyData.depthAll (l.map PyData.int) = 0
  | [] => rfl
  | x :: l => by
    show max 0 (PyData.depthAll (l.map PyData.int)) = 0
    rw [depth_ints l]
    rfl
theorem depth_strs : ∀ l : List Str, PyData.depthAll (l.map PyData.str) = 0
  | [] => rfl
  | x :: l => by
    show max 0 (PyData.depthAll (l.map PyData.str)) = 0
    rw [depth_strs l]
    rfl
theorem lay_ints : ∀ l : List Int, PyData.canLayAll0 (l.map PyData.int) = true
  | [] => rfl
  | x :: l => by
    show (true && PyData.canLayAll0 (l.map PyData.int)) = true
    rw [lay_ints l]
    rfl
theorem lay_strs : ∀ l : List Str, (∀ x ∈ l, PyData.strOk x = true) → PyData.canLayAll0 (l.map PyData.str) = true
  | [], _ => rfl
  | x :: l, h => by
    show (PyData.strOk x && PyData.canLayAll0 (l.map PyData.str)) = true
    rw [lay_strs l fun y hy => h y (List.mem_cons_of_mem _ hy), h x List.mem_cons_self]
    rfl
theorem shaped_ints (l : List Int) : SeqAt.shaped (.list (l.map PyData.int)) = true := by
  show (PyData.canLayAll0 (l.map PyData.int) && decide (PyData.depthAll (l.map PyData.int) + 1 ≤ 64)) = true
  rw [lay_ints, depth_ints]
  rfl
theorem shaped_strs {l : List Str} (h : ∀ x ∈ l, PyData.strOk x = true) : SeqAt.shaped (.list (l.map PyData.str)) = true := by
  show (PyData.canLayAll0 (l.map PyData.str) && decide (PyData.depthAll (l.map PyData.str) + 1 ≤ 64)) = true
  rw [lay_strs l h, depth_strs]
  rfl
theorem eqvAll_ints : ∀ l m : List Int, PyData.eqvAll (l.map PyData.int) (m.map PyData.int) = decide (l = m)
  | [], [] => rfl
  | [], _ :: _ => rfl
  | _ :: _, [] => rfl
  | x :: l, y :: m => by
    show ((x == y) && PyData.eqvAll (l.map PyData.int) (m.map PyData.int)) = _
    rw [eqvAll_ints l m, Bool.eq_iff_iff]
    simp
theorem eqvAll_strs : ∀ l m : List Str, PyData.eqvAll (l.map PyData.str) (m.map PyData.str) = decide (l = m)
  | [], [] => rfl
  | [], _ :: _ => rfl
  | _ :: _, [] => rfl
  | x :: l, y :: m => by
    show ((x == y) && PyData.eqvAll (l.map PyData.str) (m.map PyData.str)) = _
    rw [eqvAll_strs l m, Bool.eq_iff_iff]
    simp
theorem w_eqLI {l m : List Int} (q : QD (.bl (decide (l = m))) C) : W (gEq (.lst (l.map D.int)) (.lst (m.map D.int)) C) QD := by
  refine w_eqP (toP_ints _ _) (toP_ints _ _) (shaped_ints _) (shaped_ints _) (fun a e => by cases e) ?_
  show QD (.bl (PyData.eqvAll _ _)) C
  rwa [eqvAll_ints]
theorem w_neLI {l m : List Int} (q : QD (.bl (!decide (l = m))) C) : W (gNe (.lst (l.map D.int)) (.lst (m.map D.int)) C) QD := by
  refine w_neP (toP_ints _ _) (toP_ints _ _) (shaped_ints _) (shaped_ints _) (fun a e => by cases e) ?_
  show QD (.bl (!PyData.eqvAll _ _)) C
  rwa [eqvAll_ints]
theorem w_eqLS {l m : List Str} (hl : ∀ x ∈ l, PyData.strOk x = true) (hm : ∀ x ∈ m, PyData.strOk x = true) (q : QD (.bl (decide (l = m))) C) : W (gEq (.lst (l.map D.str)) (.lst (m.map D.str)) C) QD := by
  refine w_eqP (toP_strs _ _) (toP_strs _ _) (shaped_strs hl) (shaped_strs hm) (fun a e => by cases e) ?_
  show QD (.bl (PyData.eqvAll _ _)) C
  rwa [eqvAll_strs]
theorem w_inS {neg : Bool} {x : Str} {l : List Str} (q : QD (.bl (if neg then !(l.any fun y => y == x) else l.any fun y => y == x)) C) : W (gIn neg (.str x) (.lst (l.map D.str)) C) QD := by
  refine W.of (a := .bl _) (C := C) ?_ q
  have h1 : (l.map D.str).all flatD = true := by simp [flatD]
  have h2 : inF (.str x) (l.map D.str) = l.any fun y => y == x := by
    unfold inF
    rw [List.any_map]
    rfl
  show (if (flatD (.str x) && (l.map D.str).all flatD) = true then R.ok (D.bl (if neg then !inF (.str x) (l.map D.str) else inF (.str x) (l.map D.str)), C) else .no) = _
  rw [h1, h2]
  rfl
theorem w_inI {neg : Bool} {x : Int} {l : List Int} (q : QD (.bl (if neg then !(l.any fun y => y == x) else l.any fun y => y == x)) C) : W (gIn neg (.int x) (.lst (l.map D.int)) C) QD := by
  refine W.of (a := .bl _) (C := C) ?_ q
  have h1 : (l.map D.int).all flatD = true := by simp [flatD]
  have h2 : inF (.int x) (l.map D.int) = l.any fun y => y == x := by
    unfold inF
    rw [List.any_map]
    rfl
  show (if (flatD (.int x) && (l.map D.int).all flatD) = true then R.ok (D.bl (if neg then !inF (.int x) (l.map D.int) else inF (.int x) (l.map D.int)), C) else .no) = _
  rw [h1, h2]
  rfl
theorem w_reverse {k : Nat} {ds : List D} (hk : C[k]? = some (.lst ds)) (h : QD .non (C.set k (.lst ds.reverse))) : W (gReverse (.cell k) [] C) QD := by
  refine W.of (a := .non) (C := C.set k (.lst ds.reverse)) ?_ h
  show (match (mutAt C k).map (fun ds => (k, ds)), ([] : List D) with
    | some (i, xs), [] => R.ok (D.non, C.set i (.lst xs.reverse))
    | _, _ => .no) = _
  rw [mutAt_lst hk]
  rfl
theorem w_repr {x : D} {p : PyData} (e : toP C x = some p) (h1 : p.showable = true) (h2 : p.depth ≤ 64) (h3 : p.shown.length ≤ sizeLine) (q : QD (.str p.shown) C) : W (on1 gRepr [x] C) QD := by
  refine W.of (a := .str p.shown) (C := C) ?_ q
  show gRepr x C = _
  unfold gRepr
  simp only [e]
  rw [if_pos ⟨h1, h2, h3⟩]
/-! comprehensions over literals and ranges -/
theorem w_lcNil {Q : List D → Store → Prop} (h : Q [] C) : W (lcM g t m [] sl [] C) Q := by
  unfold lcM
  rw [if_pos (okG_nil _)]
  exact W.ok h
theorem w_lcCons {Q : List D → Store → Prop} {d : D} (h : W (g d sl C) fun sl1 C1 => W (t sl1 C1) fun b C2 => if b = true then W (m sl1 C2) fun e C3 => W (lcM g t m [] sl ds C3) fun zs C4 => Q (e :: zs) C4 else W (lcM g t m [] sl ds C2) Q) : W (lcM g t m [] sl (d :: ds) C) Q := by
  unfold lcM
  rw [if_pos (okG_nil _)]
  refine W.bind (h.imp fun sl1 C1 h => W.bind (h.imp fun b C2 h => ?_))
  cases b with
  | false => exact h
  | true => exact W.bind (W.imp h fun e C3 h => W.bind (h.imp fun zs C4 h => W.ok h))
theorem mapIdx_const {A B : Type} (b : B) (l : List A) : (l.mapIdx fun _ _ => b) = List.replicate l.length b := by
  apply List.ext_getElem
  · simp
  · intro i h1 h2
    simp
theorem w_lcTrue {Q : List D → Store → Prop} (step : ∀ (i : Nat) (d : D), ds[i]? = some d → W (g d sl C) fun sl1 C1 => W (m sl1 C1) fun e C3 => e = .bl true ∧ C3 = C) (q : Q ((List.replicate ds.length true).map D.bl) C) : W (lcM g tTrue m [] sl ds C) Q := by
  refine w_lcMap (f := fun _ _ => .bl true) step ?_
  rw [mapIdx_const]
  rwa [List.map_replicate] at q
theorem w_lcRg {Q : List D → Store → Prop} {n : Nat} {f : Nat → D} (step : ∀ i : Nat, i < n → W (g (.int i) sl C) fun sl1 C1 => W (m sl1 C1) fun e C3 => e = f i ∧ C3 = C) (q : Q ((List.range n).map f) C) : W (lcM g tTrue m [] sl (rgD 0 n) C) Q := by
  refine w_lcMap (f := fun i _ => f i) (fun i d hd => ?_) ?_
  · obtain ⟨h, rfl⟩ := rgD_get hd
    exact step i h
  · have e : ((rgD 0 n).mapIdx fun i _ => f i) = (List.range n).map f := by
      apply List.ext_getElem
      · simp [rgD_len]
      · intro i h1 h2
        simp
    rwa [e]
theorem all_true (n : Nat) : (List.replicate n true).all id = true := by simp
theorem w_lcIx {Q : List D → Store → Prop} {p : Nat → Bool} {f : Nat → D} (step : ∀ (i : Nat) (d : D), ds[i]? = some d → W (g d sl C) fun sl1 C1 => W (t sl1 C1) fun b C2 => b = p i ∧ C2 = C ∧ (p i = true → W (m sl1 C) fun e C3 => e = f i ∧ C3 = C)) (q : Q (((List.range ds.length).filter p).map f) C) : W (lcM g t m [] sl ds C) Q := by
  refine w_lcM (fun i acc C' => C' = C ∧ acc = ((List.range i).filter p).map f) (fun _ _ _ _ => okG_nil _) (fun i d acc C' hd h => ?_) (fun zs C' h => ?_) ⟨rfl, rfl⟩
  · obtain ⟨rfl, rfl⟩ := h
    refine (step i d hd).imp fun sl1 C1 h => h.imp fun b C2 h => ?_
    obtain ⟨rfl, rfl, h⟩ := h
    rw [List.range_succ, List.filter_append, List.map_append]
    by_cases hp : p i = true
    · rw [if_pos hp]
      refine (h hp).imp fun e C3 h => ?_
      obtain ⟨rfl, rfl⟩ := h
      exact ⟨rfl, by simp [hp]⟩
    · rw [if_neg hp]
      exact ⟨rfl, by simp [hp]⟩
  · obtain ⟨rfl, rfl⟩ := h
    exact q
theorem w_lcMapIx {Q : List D → Store → Prop} {f : Nat → D} (step : ∀ (i : Nat) (d : D), ds[i]? = some d → W (g d sl C) fun sl1 C1 => W (m sl1 C1) fun e C3 => e = f i ∧ C3 = C) (q : Q ((List.range ds.length).map f) C) : W (lcM g tTrue m [] sl ds C) Q := by
  refine w_lcMap (f := fun i _ => f i) step ?_
  have e : (ds.mapIdx fun i _ => f i) = (List.range ds.length).map f := by
    apply List.ext_getElem
    · simp
    · intro i h1 h2
      simp
  rwa [e]
theorem w_lcTrueG {Q : List D → Store → Prop} (hg : okG gd C) (step : ∀ (i : Nat) (d : D), ds[i]? = some d → W (g d sl C) fun sl1 C1 => W (m sl1 C1) fun e C3 => e = .bl true ∧ C3 = C) (q : Q ((List.replicate ds.length true).map D.bl) C) : W (lcM g tTrue m gd sl ds C) Q := by
  refine w_lcM (fun i acc C' => C' = C ∧ acc = (List.replicate i true).map D.bl) (fun _ _ _ h => h.1 ▸ hg) (fun i d acc C' hd h => ?_) (fun zs C' h => ?_) ⟨rfl, rfl⟩
  · obtain ⟨rfl, rfl⟩ := h
    refine (step i d hd).imp fun sl1 C1 h => w_tTrue ?_
    rw [if_pos rfl]
    refine h.imp fun e C3 h => ?_
    obtain ⟨rfl, rfl⟩ := h
    refine ⟨rfl, ?_⟩
    rw [List.replicate_succ', List.map_append]
    rfl
  · obtain ⟨rfl, rfl⟩ := h
    exact q
theorem pairsGet {xs ys : List D} {i : Nat} {d : D} (h : (pairs xs ys)[i]? = some d) : ∃ a b, d = .tup [a, b] ∧ xs[i]? = some a ∧ ys[i]? = some b := by
  unfold pairs at h
  rw [List.getElem?_zipWith] at h
  cases hx : xs[i]? with
  | none => rw [hx] at h; simp at h
  | some a =>
    cases hy : ys[i]? with
    | none => rw [hx, hy] at h; simp at h
    | some b =>
      rw [hx, hy] at h
      exact ⟨a, b, (Option.some.inj h).symm, rfl, rfl⟩
theorem pairsLen (xs ys : List D) : (pairs xs ys).length = min xs.length ys.length := by simp [pairs]
theorem enumGet {xs : List D} {i : Nat} {d : D} (h : (enumD 0 xs)[i]? = some d) : ∃ a, d = .tup [.int i, a] ∧ xs[i]? = some a := by
  rw [enumD_get] at h
  rw [Option.map_eq_some_iff] at h
  obtain ⟨a, h, rfl⟩ := h
  exact ⟨a, by simp, h⟩
/-- a list that stands in a cell or is frozen -/
inductive IsLst (C : Store) : D → List D → Prop where
  | f (ds : List D) : IsLst C (.lst ds) ds
  | c (k : Nat) (ds : List D) (h : C[k]? = some (.lst ds)) : IsLst C (.cell k) ds
theorem IsLst.ty {x : D} {ds : List D} (h : IsLst C x ds) : tyC C x = some "list" := by
  cases h with
  | f => rfl
  | c k ds h => unfold tyC; simp only [h]
theorem IsLst.len {x : D} {ds : List D} (h : IsLst C x ds) (q : QD (.int ds.length) C) : W (on1 gLen [x] C) QD := by
  cases h with
  | f => exact w_lenL q
  | c k ds h => exact w_lenC h q
theorem IsLst.it {x : D} {ds : List D} (h : IsLst C x ds) : ∃ g, lstG C x = some (ds, g) ∧ okG g C := by
  cases h with
  | f => exact ⟨[], rfl, okG_nil _⟩
  | c k ds h => exact ⟨[(k, ds)], by unfold lstG; simp only [h], fun p hp => by cases List.mem_singleton.mp hp; exact h⟩
theorem okG.app {g1 g2 : Gd} (h1 : okG g1 C) (h2 : okG g2 C) : okG (g1 ++ g2) C := fun p hp => (List.mem_append.mp hp).elim (h1 p) (h2 p)
theorem tyC_list_s {x : D} {P : Bool → Prop} (h : tyC C x = some "list") : tyC C x = some "list" := h
/-! repr of small things -/
def smI (i : Int) : Prop := -999999999999 ≤ i ∧ i ≤ 999999999999
theorem short_int {i : Int} (h : smI i) : PyData.intsShort 13 (.int i) = true := by
  simp only [PyData.intsShort, decide_eq_true_eq]
  have h1 := h.1
  have h2 := h.2
  exact PyData.shown_int_le2 (by omega) (by omega)
theorem log_int {i : Int} (h : smI i) : i.natAbs.log2 < 40 := by
  by_cases h0 : i.natAbs = 0
  · rw [h0]; decide
  · rw [Nat.log2_lt h0]
    have := h.1
    have := h.2
    omega
theorem short_ints : ∀ {l : List Int}, (∀ x ∈ l, smI x) → PyData.intsShortAll 13 (l.map PyData.int) = true
  | [], _ => rfl
  | x :: l, h => by
    show (PyData.intsShort 13 (.int x) && PyData.intsShortAll 13 (l.map PyData.int)) = true
    rw [short_int (h x List.mem_cons_self), short_ints fun y hy => h y (List.mem_cons_of_mem _ hy)]
    rfl
theorem show_ints : ∀ {l : List Int}, (∀ x ∈ l, smI x) → PyData.showableAll (l.map PyData.int) = true
  | [], _ => rfl
  | x :: l, h => by
    show (decide (x.natAbs.log2 < 1920) && PyData.showableAll (l.map PyData.int)) = true
    rw [show_ints fun y hy => h y (List.mem_cons_of_mem _ hy), decide_eq_true (Nat.lt_trans (log_int (h x List.mem_cons_self)) (by decide))]
    rfl
theorem weight_ints : ∀ {l : List Int}, (∀ x ∈ l, smI x) → PyData.weightAll (l.map PyData.int) ≤ 42 * l.length
  | [], _ => Nat.le_refl _
  | x :: l, h => by
    show (if x == 0 then 0 else x.natAbs.log2 + 1) + 1 + PyData.weightAll (l.map PyData.int) ≤ 42 * (l.length + 1)
    have h1 := weight_ints fun y hy => h y (List.mem_cons_of_mem x hy)
    have h2 := log_int (h x List.mem_cons_self)
    split <;> omega
theorem w_reprT {x : D} {p : PyData} (e : toP C x = some p) (h1 : p.showable = true) (h2 : p.canLay0 = true) (h3 : p.depth ≤ 64) (h4 : p.weight ≤ 2 ^ 20) (h5 : p.intsShort 13 = true) (q : QD (.str p.shown) C) : W (on1 gRepr [x] C) QD := by
  refine w_repr e h1 h3 ?_ q
  have := shown_le13 (d := p) (by unfold PyData.layable0; rw [h2, decide_eq_true h3, decide_eq_true h4]; rfl) h5
  exact Nat.le_trans this (by decide)
theorem toP_two (xs ys : List Int) : toP C (.tup [.lst (xs.map D.int), .lst (ys.map D.int)]) = some (.tuple [.list (xs.map PyData.int), .list (ys.map PyData.int)]) := by
  show (match toP C (.lst (xs.map D.int)), (match toP C (.lst (ys.map D.int)), (some [] : Option (List PyData)) with
    | some p, some ps => some (p :: ps)
    | _, _ => none) with
    | some p, some ps => some (p :: ps)
    | _, _ => none).map PyData.tuple = _
  rw [toP_ints, toP_ints]
  rfl
theorem w_repr2 {xs ys : List Int} (hx : ∀ x ∈ xs, smI x) (hy : ∀ x ∈ ys, smI x) (lx : xs.length ≤ 10000) (ly : ys.length ≤ 10000) (q : QD (.str (PyData.tuple [.list (xs.map PyData.int), .list (ys.map PyData.int)]).shown) C) :
    W (on1 gRepr [.tup [.lst (xs.map D.int), .lst (ys.map D.int)]] C) QD := by
  refine w_reprT (toP_two xs ys) ?_ ?_ ?_ ?_ ?_ q
  · show (PyData.showableAll _ && (PyData.showableAll _ && true)) = true
    rw [show_ints hx, show_ints hy]
    rfl
  · show (PyData.canLayAll0 _ && (PyData.canLayAll0 _ && true)) = true
    rw [lay_ints, lay_ints]
    rfl
  · show max (PyData.depthAll _ + 1) (max (PyData.depthAll _ + 1) 0) + 1 ≤ 64
    rw [depth_ints, depth_ints]
    decide
  · show PyData.weightAll _ + 1 + (PyData.weightAll _ + 1 + 0) ≤ 2 ^ 20
    have := weight_ints hx
    have := weight_ints hy
    omega
  · show (PyData.intsShortAll 13 _ && (PyData.intsShortAll 13 _ && true)) = true
    rw [short_ints hx, short_ints hy]
    rfl
theorem w_isC {x y : D} {b : Bool} (e : gIs x y C = .ok (.bl b, C)) (q : QD (.bl b) C) : W (gIs x y C) QD := W.of e q
theorem w_isNotC {x y : D} {b : Bool} (e : gIsNot x y C = .ok (.bl b, C)) (q : QD (.bl b) C) : W (gIsNot x y C) QD := W.of e q
/-! stores of closed cells -/
def ClS (C : Store) : Prop := ∀ c ∈ C, closedC 0 c = true
theorem closedC_mono {n m : Nat} (h : n ≤ m) (c : Cell) (hc : closedC n c = true) : closedC m c = true := by
  cases c with
  | lst ds => exact closedDs_mono h ds hc
  | dk ds => exact closedDs_mono h _ hc
  | dt ds => exact closedDs_mono h _ hc
  | fz ds => exact closedDs_mono h ds hc
  | dn ds => exact closedDs_mono h _ hc
  | obj c ds => exact closedDs_mono h _ hc
  | lk ds => exact closedDs_mono h _ hc
theorem ClS.at {C : Store} (h : ClS C) (n : Nat) : ∀ c ∈ C, closedC n c = true := fun c hc => closedC_mono (Nat.zero_le _) c (h c hc)
theorem ClS.nil : ClS [] := fun c h => nomatch h
theorem ClS.cons {C : Store} {c : Cell} (h : closedC 0 c = true) (t : ClS C) : ClS (c :: C) := cl_cons h t
theorem ClS.app {C X : Store} (h : ClS C) (t : ClS X) : ClS (C ++ X) := fun c hc => (List.mem_append.mp hc).elim (h c) (t c)
theorem ClS.set {C : Store} {k : Nat} {c : Cell} (h : ClS C) (hc : closedC 0 c = true) : ClS (C.set k c) := fun d hd => by
  rcases List.mem_or_eq_of_mem_set hd with hd | rfl
  · exact h d hd
  · exact hc
theorem ClS.one {c : Cell} (h : closedC 0 c = true) : ClS [c] := cl_cons h cl_nil
theorem fin_cl {C' : Store} {d : D} (hl : C.length ≤ C'.length) (hc : ClS C') (hf : flatR d = true) (hd : closedD 0 d = true) (h : QD d (C'.take C.length)) : W (fin C d C') QD := by
  refine W.of (fin_val ⟨hl, fun i hi => ?_⟩ hf (closedD_mono (Nat.zero_le _) d hd)) h
  have h1 : i < C'.length := by omega
  exact .inr ⟨C'[i], List.getElem?_eq_getElem h1, hc.at _ _ (List.getElem_mem h1)⟩
/-- a flat value, and the cells that were made meanwhile go -/
theorem w_fzF {n : Nat} (h : W (m sl C) fun d C1 => C.length ≤ C1.length ∧ ClS C1 ∧ flatR d = true ∧ closedD 0 d = true ∧ QD d (C1.take C.length)) : W (mFz n m sl C) QD := by
  refine W.bind (h.imp fun d C1 h => ?_)
  obtain ⟨hl, hc, hf, hd, q⟩ := h
  simp only [frz_id n C1 d hd]
  exact fin_cl hl hc hf hd q
theorem get_app1 {C X : Store} {c : Cell} : (C ++ c :: X)[C.length]? = some c := by simp
theorem cut_ints (l : List Int) (a b : Option Int) : ∃ l' : List Int, cutD (l.map D.int) a b = l'.map D.int ∧ l'.length ≤ l.length ∧ ∀ x ∈ l', x ∈ l := by
  unfold cutD
  refine ⟨(l.drop (HT.sIx (l.map D.int).length 0 a)).take (HT.sIx (l.map D.int).length (l.map D.int).length b - HT.sIx (l.map D.int).length 0 a), by rw [← List.map_drop, ← List.map_take], by simp; omega, fun x hx => List.mem_of_mem_drop (List.mem_of_mem_take hx)⟩
theorem w_slL {ds : List D} {c : Bool} {a b : Option Int} (q : W (newL c (cutD ds a b) C) QD) : W (gSl c (.lst ds) a b C) QD := q
/-! targets, reversed slices, counts, whiles -/
theorem w_gmSqT {n : Nat} {gs : List D → Sl → Store → R (Sl × Store)} {Q : Sl → Store → Prop} (hl : ds.length = n) (h : W (gs ds sl C) Q) : W (gmSq n gs (.tup ds) sl C) Q := by
  unfold gmSq tupOf
  simp only [if_pos hl]
  exact h
theorem w_gmSqL {n : Nat} {gs : List D → Sl → Store → R (Sl × Store)} {Q : Sl → Store → Prop} (hl : ds.length = n) (h : W (gs ds sl C) Q) : W (gmSq n gs (.lst ds) sl C) Q := by
  unfold gmSq tupOf lstOf
  simp only [if_pos hl]
  exact h
theorem w_revL {x : D} {c : Bool} (hx : IsLst C x ds) (h : W (newL c ds.reverse C) QD) : W (gRevL c x C) QD := by
  have e : lstOf C x = some ds := by
    cases hx with
    | f => rfl
    | c k ds h => exact lstAt_lst h
  unfold gRevL
  simp only [e]
  exact h
theorem w_count {l : List Int} {i : Int} (h : QD (.int ((l.countP fun y => y == i : Nat) : Int)) C) : W (gCount (.lst (l.map D.int)) [.int i] C) QD := by
  refine W.of (a := .int ((l.countP fun y => y == i : Nat) : Int)) (C := C) ?_ h
  show (match (some (l.map D.int)).bind intsOf, [D.int i] with
    | some ns, [.int i] => R.ok (D.int ((ns.countP fun y => y == i : Nat) : Int), C)
    | _, _ => .no) = _
  rw [Option.bind_some, intsOf_map]
theorem w_sorted {l : List Int} {c : Bool} (h : W (newL c ((sortI l).map D.int) C) QD) : W (on1 (gSorted c) [.lst (l.map D.int)] C) QD := by
  show W (match (some (l.map D.int)).bind intsOf with
    | some ns => newL c ((sortI ns).map D.int) C
    | none => .no) QD
  rw [Option.bind_some, intsOf_map]
  exact h
/-- a while: what each turn keeps, and how many turns may be left -/
theorem w_while {t : MG Bool} {u : MS} (Inv : Nat → Sl → Store → Prop)
    (step : ∀ k sl C, Inv k sl C → W (t sl C) fun b C1 => if b = true then 0 < k ∧ WS (u sl C1) (forQ (Inv (k - 1)) QS) else QS .nx sl C1)
    (k : Nat) {n : Nat} (hn : k < n) (h0 : Inv k sl C) : WS (whileM t u n sl C) QS := by
  induction n generalizing k sl C with
  | zero => omega
  | succ n ih =>
    unfold whileM
    refine W.bindS ((step k sl C h0).imp fun b C1 h => ?_)
    cases b with
    | false => exact WS.ok h
    | true =>
      obtain ⟨hk, h⟩ := h
      refine WS.bindS (WS.imp h fun f sl2 C2 h => ?_)
      cases f with
      | nx => exact ih (k - 1) (by omega) h
      | ct => exact ih (k - 1) (by omega) h
      | bk => exact WS.ok h
      | rt d => exact WS.ok h
theorem w_frzL2 {n : Nat} (h : W (m sl C) fun d C1 => ∃ (xs ys : List D) (P : Store), d = .lst [.cell P.length, .cell (P.length + 1)] ∧ C1 = P ++ [.lst xs, .lst ys] ∧ closedDs 0 xs = true ∧ closedDs 0 ys = true ∧ QD (.lst [.lst xs, .lst ys]) (P ++ [.fz xs, .fz ys])) : W (mFrz (n + 2) m sl C) QD := by
  refine W.bind (h.imp fun d C1 h => ?_)
  obtain ⟨xs, ys, P, rfl, rfl, h1, h2, q⟩ := h
  have e1 : (P ++ [Cell.lst xs, Cell.lst ys])[P.length]? = some (.lst xs) := by simp
  have e2 : (P ++ [Cell.lst xs, Cell.lst ys]).set P.length (.fz xs) = P ++ [.fz xs, .lst ys] := by simp
  have e3 : (P ++ [Cell.fz xs, Cell.lst ys])[P.length + 1]? = some (.lst ys) := by rw [List.getElem?_append_right (by omega)]; simp
  have e4 : (P ++ [Cell.fz xs, Cell.lst ys]).set (P.length + 1) (.fz ys) = P ++ [.fz xs, .fz ys] := by rw [List.set_append_right _ _ (by omega)]; simp
  have f1 : frz (n + 1) (.cell P.length) (P ++ [Cell.lst xs, Cell.lst ys]) = some (.lst xs, P ++ [.fz xs, .lst ys]) := by
    unfold frz
    simp only [e1, e2]
    rw [frzL_id _ xs fun x hx => frz_id n _ x (closed_mem h1 hx)]
    rfl
  have f2 : frz (n + 1) (.cell (P.length + 1)) (P ++ [Cell.fz xs, Cell.lst ys]) = some (.lst ys, P ++ [.fz xs, .fz ys]) := by
    unfold frz
    simp only [e3, e4]
    rw [frzL_id _ ys fun x hx => frz_id n _ x (closed_mem h2 hx)]
    rfl
  have f3 : frz (n + 2) (.lst [.cell P.length, .cell (P.length + 1)]) (P ++ [Cell.lst xs, Cell.lst ys]) = some (.lst [.lst xs, .lst ys], P ++ [.fz xs, .fz ys]) := by
    show (frzL (frz (n + 1)) _ _).bind _ = _
    unfold frzL
    rw [f1, Option.bind_some]
    unfold frzL
    rw [f2, Option.bind_some]
    rfl
  simp only [f3]
  exact W.ok q
theorem w_iRg2 (h : W (mas sl C) fun xs C1 => ∃ i j, xs = [.int i, .int j] ∧ (lowI i && lowI j) = true ∧ QK (rgD i j, []) C1) : W (iRg2 mas sl C) QK := W.bind (h.imp fun x C1 h => by
  obtain ⟨i, j, rfl, e, h⟩ := h
  simp only [e, if_true]
  exact W.ok h)
theorem w_iRg3 (h : W (mas sl C) fun xs C1 => ∃ i j, xs = [.int i, .int j, .int (-1)] ∧ (lowI i && lowI j) = true ∧ QK (rgDown i j, []) C1) : W (iRg3 mas sl C) QK := W.bind (h.imp fun x C1 h => by
  obtain ⟨i, j, rfl, e, h⟩ := h
  simp only [e, and_self, if_true]
  exact W.ok h)
theorem rgD_get2 {a : Int} {n i : Nat} {d : D} (h : (rgD a (a + n))[i]? = some d) : i < n ∧ d = .int (a + i) := by
  unfold rgD at h
  rw [List.getElem?_map, Option.map_eq_some_iff] at h
  obtain ⟨k, h1, rfl⟩ := h
  rw [List.getElem?_eq_some_iff] at h1
  obtain ⟨h2, h3⟩ := h1
  rw [List.getElem_range] at h3
  rw [List.length_range] at h2
  subst h3
  exact ⟨by omega, rfl⟩
theorem rgD_len2 (a : Int) (n : Nat) : (rgD a (a + n)).length = n := by
  unfold rgD
  rw [List.length_map, List.length_range]
  omega
theorem rgDown_get {n i : Nat} {d : D} (h : (rgDown n 0)[i]? = some d) : i < n ∧ d = .int ((n : Int) - i) := by
  unfold rgDown at h
  rw [List.getElem?_map, Option.map_eq_some_iff] at h
  obtain ⟨k, h1, rfl⟩ := h
  rw [List.getElem?_eq_some_iff] at h1
  obtain ⟨h2, h3⟩ := h1
  rw [List.getElem_range] at h3
  rw [List.length_range] at h2
  subst h3
  exact ⟨by omega, by congr 1; omega⟩
theorem rgDown_len (n : Nat) : (rgDown n 0).length = n := by
  unfold rgDown
  rw [List.length_map, List.length_range]
  omega
/-! dicts with tuples for keys -/
theorem w_dnewT (h : QD (.cell C.length) (C ++ [.dt []])) : W (mDNewT sl C) QD := W.ok h
theorem w_dgetT {mo : ME} (h : W (mo sl C) fun x C1 => W (mas sl C1) fun ys C2 => ∃ i kvs ks d, x = .cell i ∧ C2[i]? = some (.dt kvs) ∧ keysOf ys = some ks ∧ valD kvs ks = some d ∧ ys.length ≤ sizeLine ∧ QD d C2) : W (mDGetT mo mas sl C) QD :=
  W.bind (h.imp fun x C1 h => W.bind (h.imp fun ys C2 h => by
    obtain ⟨i, kvs, ks, d, rfl, h1, h2, h3, h4, q⟩ := h
    have e : dtAt C2 (.cell i) = some (i, kvs) := by unfold dtAt; simp only [h1]
    simp only [e, h2, h3, if_pos h4]
    exact W.ok q))
theorem w_dputT {mv mo : ME} (h : W (mv sl C) fun d C0 => W (mo sl C0) fun x C1 => W (mas sl C1) fun ys C2 => ∃ i kvs ks, x = .cell i ∧ C2[i]? = some (.dt kvs) ∧ keysOf ys = some ks ∧ ys.length ≤ sizeLine ∧ kvs.length < sizeLine ∧ QS .nx sl (C2.set i (.dt (putD kvs ks d)))) : WS (sDPutT mv mo mas sl C) QS :=
  W.bindS (h.imp fun d C0 h => W.bindS (h.imp fun x C1 h => W.bindS (h.imp fun ys C2 h => by
    obtain ⟨i, kvs, ks, rfl, h1, h2, h4, h5, q⟩ := h
    have e : dtAt C2 (.cell i) = some (i, kvs) := by unfold dtAt; simp only [h1]
    simp only [e, h2, if_pos (And.intro h4 h5)]
    exact WS.ok q)))
theorem w_lenT2 {i : Nat} {kvs : List (List Key × D)} (h1 : C[i]? = some (.dt kvs)) (q : QD (.int kvs.length) C) : W (on1 gLenT [.cell i] C) QD := by
  have e : dtAt C (.cell i) = some (i, kvs) := by unfold dtAt; simp only [h1]
  refine W.of (a := .int kvs.length) (C := C) ?_ q
  show gLenT (.cell i) C = _
  unfold gLenT
  simp only [e]
end
end Nv

namespace Nv
open PySem PySem.Spec PyProof.Rows L2
/-! stores that end in known cells -/
section
variable {A X : Store} {k i : Nat} {c d : Cell}
theorem at_app : (A ++ X)[A.length + k]? = X[k]? := by rw [List.getElem?_append_right (by omega)]; simp
theorem at_app0 : (A ++ X)[A.length]? = X[0]? := by rw [List.getElem?_append_right (by omega)]; simp
theorem at_lo (h : A[i]? = some c) : (A ++ X)[i]? = some c := by rw [List.getElem?_append_left (List.getElem?_eq_some_iff.mp h).1, h]
theorem set_app : (A ++ X).set (A.length + k) c = A ++ X.set k c := by rw [List.set_append_right _ _ (by omega)]; simp
theorem set_app0 : (A ++ X).set A.length c = A ++ X.set 0 c := by rw [List.set_append_right _ _ (by omega)]; simp
theorem set_lo (h : A[i]? = some c) : (A ++ X).set i d = A.set i d ++ X := List.set_append_left _ _ (List.getElem?_eq_some_iff.mp h).1
theorem at_lt (h : A[i]? = some c) : i < A.length := (List.getElem?_eq_some_iff.mp h).1
end
section
variable {QD : D → Store → Prop} {QB : Bool → Store → Prop} {QL : List D → Store → Prop} {QS : Fl → Sl → Store → Prop} {QK : Wk → Store → Prop} {sl : Sl} {C A X : Store} {m : ME} {t : MG Bool} {mas : MG (List D)} {u : MS} {g : MT} {gd : Gd} {ds : List D} {c : Bool} {own : List Nat} {mi : MI}
/-! lists that are cells or frozen -/
theorem IsLst.ix {x : D} {i : Int} {d : D} (h : IsLst C x ds) (e : atI ds i = some d) (q : QD d C) : W (gIx x (.int i) C) QD := by
  cases h with
  | f => exact w_ixL e q
  | c k ds h => exact w_ixC h e q
theorem IsLst.app {x : D} (h : IsLst C x ds) : IsLst (C ++ X) x ds := by
  cases h with
  | f => exact .f _
  | c k ds h => exact .c _ _ (at_lo h)
theorem IsLst.isL {x : D} (h : IsLst C x ds) : isL C x = true := by
  cases h with
  | f => rfl
  | c k ds h => exact w_chkC h
theorem IsLst.itA {x : D} (h : IsLst C x ds) : ∃ g, lstG C x = some (ds, g) ∧ ∀ X, okG g (C ++ X) := by
  cases h with
  | f => exact ⟨[], rfl, fun _ => okG_nil _⟩
  | c k ds h => exact ⟨[(k, ds)], by unfold lstG; simp only [h], fun X p hp => by cases List.mem_singleton.mp hp; exact at_lo h⟩
theorem IsLst.list {x : D} (h : IsLst C x ds) (q : W (newL c ds C) QD) : W (on1 (gList c) [x] C) QD := by
  have e : seqOf C x = some ds := by
    cases h with
    | f => rfl
    | c k ds h => exact lstAt_lst h
  show W (match seqOf C x with
    | some ds => newL c ds C
    | none => .no) QD
  rw [e]
  exact q
theorem IsLst.slice {x : D} {a b : Option Int} (h : IsLst C x ds) (q : W (newL c (cutD ds a b) C) QD) : W (gSl c x a b C) QD := by
  cases h with
  | f => exact q
  | c k ds h =>
    show W (match lstAt C k with
      | some ds => _
      | none => _) QD
    rw [lstAt_lst h]
    exact q
theorem w_listL (q : W (newL c ds C) QD) : W (on1 (gList c) [.lst ds] C) QD := (IsLst.f ds).list q
/-! data alike: lists may be cells -/
inductive Alk (C : Store) : Nat → D → D → Prop
  | int (n : Nat) (i : Int) : Alk C (n + 1) (.int i) (.int i)
  | str (n : Nat) (i : Str) : Alk C (n + 1) (.str i) (.str i)
  | bl (n : Nat) (i : Bool) : Alk C (n + 1) (.bl i) (.bl i)
  | non (n : Nat) : Alk C (n + 1) .non .non
  | lst (n : Nat) (x y : D) (xs ys : List D) (hx : IsLst C x xs) (hy : IsLst C y ys) (hl : xs.length = ys.length) (ll : ys.length ≤ 1000000) (h : ∀ (i : Nat) (a b : D), xs[i]? = some a → ys[i]? = some b → Alk C n a b) : Alk C (n + 1) x y
  | tup (n : Nat) (xs ys : List D) (hl : xs.length = ys.length) (ll : ys.length ≤ 1000000) (h : ∀ (i : Nat) (a b : D), xs[i]? = some a → ys[i]? = some b → Alk C n a b) : Alk C (n + 1) (.tup xs) (.tup ys)
theorem Alk.map {A : Type} {f : A → D} {n : Nat} {x y : D} {l : List A} (h : ∀ a ∈ l, Alk C n (f a) (f a)) (hx : IsLst C x (l.map f)) (hy : IsLst C y (l.map f)) (ll : l.length ≤ 1000000) : Alk C (n + 1) x y := by
  refine .lst _ _ _ _ _ hx hy rfl (by simpa using ll) fun i a b ha hb => ?_
  rw [ha] at hb
  cases hb
  rw [List.getElem?_map, Option.map_eq_some_iff] at ha
  obtain ⟨z, hz, rfl⟩ := ha
  exact h z (List.mem_of_getElem? hz)
theorem Alk.ints {n : Nat} {x y : D} {l : List Int} (hx : IsLst C x (l.map D.int)) (hy : IsLst C y (l.map D.int)) (ll : l.length ≤ 1000000) : Alk C (n + 2) x y := Alk.map (fun a _ => .int _ a) hx hy ll
theorem Alk.strs {n : Nat} {x y : D} {l : List Str} (hx : IsLst C x (l.map D.str)) (hy : IsLst C y (l.map D.str)) (ll : l.length ≤ 1000000) : Alk C (n + 2) x y := Alk.map (fun a _ => .str _ a) hx hy ll
theorem forall2 {P : D → D → Prop} {a b : D} {xs ys : List D} (h : P a b) (t : ∀ (i : Nat) (a b : D), xs[i]? = some a → ys[i]? = some b → P a b) : ∀ (i : Nat) (x y : D), (a :: xs)[i]? = some x → (b :: ys)[i]? = some y → P x y := by
  intro i x y hx hy
  cases i with
  | zero => cases hx; cases hy; exact h
  | succ i => exact t i x y hx hy
theorem forall0 {P : D → D → Prop} : ∀ (i : Nat) (x y : D), ([] : List D)[i]? = some x → ([] : List D)[i]? = some y → P x y := fun i x y h => nomatch h
theorem Alk.tup2 {n : Nat} {a b a' b' : D} (h1 : Alk C n a a') (h2 : Alk C n b b') : Alk C (n + 1) (.tup [a, b]) (.tup [a', b']) := .tup _ _ _ rfl (by simp) (forall2 h1 (forall2 h2 forall0))
theorem Alk.lst2 {n : Nat} {a b a' b' : D} (h1 : Alk C n a a') (h2 : Alk C n b b') : Alk C (n + 1) (.lst [a, b]) (.lst [a', b']) := .lst _ _ _ _ _ (.f _) (.f _) rfl (by simp) (forall2 h1 (forall2 h2 forall0))
theorem Alk.lst3 {n : Nat} {a b c a' b' c' : D} (h1 : Alk C n a a') (h2 : Alk C n b b') (h3 : Alk C n c c') : Alk C (n + 1) (.lst [a, b, c]) (.lst [a', b', c']) := .lst _ _ _ _ _ (.f _) (.f _) rfl (by simp) (forall2 h1 (forall2 h2 (forall2 h3 forall0)))
/-! what repr shows -/
structure Shw (x : D) (w dp : Nat) (p : PyData) : Prop where
  to : ∀ C, toP C x = some p
  sh : p.showable = true
  la : p.canLay0 = true
  de : p.depth ≤ dp
  we : p.weight ≤ w
  si : p.intsShort 13 = true
theorem w_shw {x : D} {w dp : Nat} {p : PyData} (h : Shw x w dp p) (hw : w ≤ 2 ^ 20) (hd : dp ≤ 64) (q : QD (.str p.shown) C) : W (on1 gRepr [x] C) QD :=
  w_reprT (h.to C) h.sh h.la (Nat.le_trans h.de hd) (Nat.le_trans h.we hw) h.si q
theorem toPs_map {A : Type} {f : A → D} {p : A → PyData} (h : ∀ a C, toP C (f a) = some (p a)) (C : Store) : ∀ l : List A, toPs C (l.map f) = some (l.map p)
  | [] => rfl
  | x :: l => by
    show (match toP C (f x), toPs C (l.map f) with
      | some p, some ps => some (p :: ps)
      | _, _ => none) = _
    rw [h, toPs_map h C l]
    rfl
theorem Shw.int {i : Int} (h : smI i) : Shw (.int i) 41 0 (.int i) where
  to := fun _ => rfl
  sh := by
    have := show_ints (l := [i]) (fun x hx => by cases List.mem_singleton.mp hx; exact h)
    have this : ((PyData.int i).showable && true) = true := this
    rwa [Bool.and_true] at this
  la := rfl
  de := Nat.le_refl _
  we := by
    show (if i == 0 then 0 else i.natAbs.log2 + 1) ≤ 41
    have := log_int h
    split <;> omega
  si := short_int h
theorem depthAll_le {n : Nat} : ∀ {l : List PyData}, (∀ x ∈ l, x.depth ≤ n) → PyData.depthAll l ≤ n
  | [], _ => Nat.zero_le _
  | x :: l, h => by
    show max x.depth (PyData.depthAll l) ≤ n
    exact Nat.max_le.mpr ⟨h x List.mem_cons_self, depthAll_le fun y hy => h y (List.mem_cons_of_mem _ hy)⟩
theorem weightAll_le {n : Nat} : ∀ {l : List PyData}, (∀ x ∈ l, x.weight ≤ n) → PyData.weightAll l ≤ (n + 1) * l.length
  | [], _ => Nat.le_refl _
  | x :: l, h => by
    show x.weight + 1 + PyData.weightAll l ≤ (n + 1) * (l.length + 1)
    have h1 := h x List.mem_cons_self
    have h2 := weightAll_le fun y hy => h y (List.mem_cons_of_mem x hy)
    rw [Nat.mul_succ]
    omega
theorem showAll {l : List PyData} (h : ∀ x ∈ l, x.showable = true) : PyData.showableAll l = true := by
  induction l with
  | nil => rfl
  | cons x l ih =>
    show (x.showable && PyData.showableAll l) = true
    rw [h x List.mem_cons_self, ih fun y hy => h y (List.mem_cons_of_mem _ hy)]
    rfl
theorem layAll {l : List PyData} (h : ∀ x ∈ l, x.canLay0 = true) : PyData.canLayAll0 l = true := by
  induction l with
  | nil => rfl
  | cons x l ih =>
    show (x.canLay0 && PyData.canLayAll0 l) = true
    rw [h x List.mem_cons_self, ih fun y hy => h y (List.mem_cons_of_mem _ hy)]
    rfl
theorem shortAll {l : List PyData} (h : ∀ x ∈ l, x.intsShort 13 = true) : PyData.intsShortAll 13 l = true := by
  induction l with
  | nil => rfl
  | cons x l ih =>
    show (x.intsShort 13 && PyData.intsShortAll 13 l) = true
    rw [h x List.mem_cons_self, ih fun y hy => h y (List.mem_cons_of_mem _ hy)]
    rfl
theorem Shw.map {A : Type} {f : A → D} {p : A → PyData} {l : List A} {w dp : Nat} (hp : ∀ a C, toP C (f a) = some (p a)) (h : ∀ a ∈ l, Shw (f a) w dp (p a)) : Shw (.lst (l.map f)) ((w + 1) * l.length) (dp + 1) (.list (l.map p)) where
  to := fun C => by
    show (toPs C (l.map f)).map PyData.list = _
    rw [toPs_map hp]
    rfl
  sh := showAll fun x hx => by obtain ⟨a, ha, rfl⟩ := List.mem_map.mp hx; exact (h a ha).sh
  la := layAll fun x hx => by obtain ⟨a, ha, rfl⟩ := List.mem_map.mp hx; exact (h a ha).la
  de := Nat.succ_le_succ (depthAll_le fun x hx => by obtain ⟨a, ha, rfl⟩ := List.mem_map.mp hx; exact (h a ha).de)
  we := by
    have := weightAll_le (n := w) (l := l.map p) fun x hx => by obtain ⟨a, ha, rfl⟩ := List.mem_map.mp hx; exact (h a ha).we
    rw [List.length_map] at this
    exact this
  si := shortAll fun x hx => by obtain ⟨a, ha, rfl⟩ := List.mem_map.mp hx; exact (h a ha).si
theorem Shw.ints {l : List Int} (h : ∀ x ∈ l, smI x) : Shw (.lst (l.map D.int)) (42 * l.length) 1 (.list (l.map PyData.int)) := Shw.map (fun _ _ => rfl) fun a ha => Shw.int (h a ha)
theorem Shw.tup2 {a b : D} {p q : PyData} {w1 w2 d1 d2 : Nat} (h1 : Shw a w1 d1 p) (h2 : Shw b w2 d2 q) : Shw (.tup [a, b]) (w1 + w2 + 2) (max d1 d2 + 1) (.tuple [p, q]) where
  to := fun C => by
    show (match toP C a, (match toP C b, (some [] : Option (List PyData)) with
      | some p, some ps => some (p :: ps)
      | _, _ => none) with
      | some p, some ps => some (p :: ps)
      | _, _ => none).map PyData.tuple = _
    rw [h1.to, h2.to]
    rfl
  sh := by show (p.showable && (q.showable && true)) = true; rw [h1.sh, h2.sh]; rfl
  la := by show (p.canLay0 && (q.canLay0 && true)) = true; rw [h1.la, h2.la]; rfl
  de := by
    show max p.depth (max q.depth 0) + 1 ≤ _
    have := h1.de
    have := h2.de
    omega
  we := by
    show p.weight + 1 + (q.weight + 1 + 0) ≤ _
    have := h1.we
    have := h2.we
    omega
  si := by show (p.intsShort 13 && (q.intsShort 13 && true)) = true; rw [h1.si, h2.si]; rfl
theorem Shw.lst2 {a b : D} {p q : PyData} {w1 w2 d1 d2 : Nat} (h1 : Shw a w1 d1 p) (h2 : Shw b w2 d2 q) : Shw (.lst [a, b]) (w1 + w2 + 2) (max d1 d2 + 1) (.list [p, q]) where
  to := fun C => by
    show (match toP C a, (match toP C b, (some [] : Option (List PyData)) with
      | some p, some ps => some (p :: ps)
      | _, _ => none) with
      | some p, some ps => some (p :: ps)
      | _, _ => none).map PyData.list = _
    rw [h1.to, h2.to]
    rfl
  sh := by show (p.showable && (q.showable && true)) = true; rw [h1.sh, h2.sh]; rfl
  la := by show (p.canLay0 && (q.canLay0 && true)) = true; rw [h1.la, h2.la]; rfl
  de := by
    show max p.depth (max q.depth 0) + 1 ≤ _
    have := h1.de
    have := h2.de
    omega
  we := by
    show p.weight + 1 + (q.weight + 1 + 0) ≤ _
    have := h1.we
    have := h2.we
    omega
  si := by show (p.intsShort 13 && (q.intsShort 13 && true)) = true; rw [h1.si, h2.si]; rfl
/-! more ends -/
theorem fin_two {C1 Y : Store} {a b : Cell} {k : Nat} (hl : C1.length = C.length) (hc : ClS C1) (hk : (C1 ++ Y)[k]? = some a) (hk2 : (C1 ++ Y)[k + 1]? = some b) (h0 : C.length ≤ k) (ha : closedC 0 a = true) (hb : closedC 0 b = true) (h : QD (.tup [.cell C.length, .cell (C.length + 1)]) (C1 ++ [a, b])) :
    W (fin C (.tup [.cell k, .cell (k + 1)]) (C1 ++ Y)) QD := by
  refine W.of (a := .tup [.cell C.length, .cell (C.length + 1)]) (C := C1 ++ [a, b]) ?_ h
  unfold fin
  rw [if_pos (app_cond hl (hc.at _))]
  simp only [hk, hk2]
  rw [if_pos ⟨h0, by omega, by omega, closedC_mono (Nat.zero_le _) _ ha, closedC_mono (Nat.zero_le _) _ hb⟩, app_take hl]
/-- the store as it was, then new cells; two of them come out -/
theorem fin_two0 {Y : Store} {a b : Cell} {j k : Nat} (hk : Y[j]? = some a) (hk2 : Y[k]? = some b) (hjk : j ≠ k) (ha : closedC 0 a = true) (hb : closedC 0 b = true) (h : QD (.tup [.cell C.length, .cell (C.length + 1)]) (C ++ [a, b])) :
    W (fin C (.tup [.cell (C.length + j), .cell (C.length + k)]) (C ++ Y)) QD := by
  refine W.of (a := .tup [.cell C.length, .cell (C.length + 1)]) (C := C ++ [a, b]) ?_ h
  unfold fin
  rw [if_pos (same_cond C Y)]
  simp only [at_app, hk, hk2]
  rw [if_pos ⟨by omega, by omega, by omega, closedC_mono (Nat.zero_le _) _ ha, closedC_mono (Nat.zero_le _) _ hb⟩, List.take_left' rfl]
/-- .. one of them -/
theorem fin_one0 {Y : Store} {a : Cell} {k : Nat} (hk : Y[k]? = some a) (ha : closedC 0 a = true) (h : QD (.cell C.length) (C ++ [a])) : W (fin C (.cell (C.length + k)) (C ++ Y)) QD := by
  refine W.of (a := .cell C.length) (C := C ++ [a]) ?_ h
  unfold fin
  rw [if_pos (same_cond C Y)]
  simp only [at_app, hk]
  rw [if_neg (by omega), if_pos (closedC_mono (Nat.zero_le _) _ ha), List.take_left' rfl]
theorem fin_val0 {Y : Store} {d : D} (hf : flatR d = true) (hd : closedD 0 d = true) (h : QD d C) : W (fin C d (C ++ Y)) QD := W.of (fin_pure Y hf hd) h
/-- a frozen pair of lists -/
theorem fin_sD {Y : Store} {xs ys : List D} (hx : closedDs 0 xs = true) (hy : closedDs 0 ys = true) (h : QD (.tup [.lst xs, .lst ys]) C) : W (fin C (.tup [.lst xs, .lst ys]) (C ++ Y)) QD := by
  refine W.of (a := .tup [.lst xs, .lst ys]) (C := C) ?_ h
  unfold fin
  rw [if_pos (same_cond C Y)]
  have e : closedD C.length (.tup [.lst xs, .lst ys]) = true := closedD_mono (Nat.zero_le _) _ (by show (closedDs 0 xs && (closedDs 0 ys && true)) = true; rw [hx, hy]; rfl)
  simp only [e, if_true]
  rw [List.take_left' rfl]
theorem w_forNil (h : QS .nx sl C) : WS (forM g u [] [] sl C) QS := by
  unfold forM
  rw [if_pos (okG_nil _)]
  exact WS.ok h
theorem w_forCons {d : D} (h : W (g d sl C) fun sl1 C1 => WS (u sl1 C1) (forQ (fun sl2 C2 => WS (forM g u [] ds sl2 C2) QS) QS)) : WS (forM g u [] (d :: ds) sl C) QS := by
  unfold forM
  rw [if_pos (okG_nil _)]
  refine W.bindS (h.imp fun sl1 C1 h => WS.bindS (h.imp fun f sl2 C2 h => ?_))
  cases f with
  | nx => exact h
  | ct => exact h
  | bk => exact WS.ok h
  | rt d => exact WS.ok h
theorem w_forq {P : Sl → Store → Prop} (h : P sl C) : forQ P QS .nx sl C := h
theorem w_forqC {P : Sl → Store → Prop} (h : P sl C) : forQ P QS .ct sl C := h
theorem w_forqR {P : Sl → Store → Prop} {d : D} (h : QS (.rt d) sl C) : forQ P QS (.rt d) sl C := h
theorem w_forqB {P : Sl → Store → Prop} (h : QS .nx sl C) : forQ P QS .bk sl C := h
theorem w_inT {neg : Bool} {x : Str} {l : List Str} (q : QD (.bl (if neg then !(l.any fun y => y == x) else l.any fun y => y == x)) C) : W (gIn neg (.str x) (.tup (l.map D.str)) C) QD := by
  refine W.of (a := .bl _) (C := C) ?_ q
  have h1 : (l.map D.str).all flatD = true := by simp [flatD]
  have h2 : inF (.str x) (l.map D.str) = l.any fun y => y == x := by
    unfold inF
    rw [List.any_map]
    rfl
  show (if (flatD (.str x) && (l.map D.str).all flatD) = true then R.ok (D.bl (if neg then !inF (.str x) (l.map D.str) else inF (.str x) (l.map D.str)), C) else .no) = _
  rw [h1, h2]
  rfl
theorem low_of {i : Int} (h1 : -1000000 ≤ i) (h2 : i ≤ 1000000) : lowI i = true := by
  unfold lowI
  rw [Bool.and_eq_true]
  exact ⟨decide_eq_true (by omega), decide_eq_true (by omega)⟩
theorem small_of {i : Int} (h1 : -1000000000000000 ≤ i) (h2 : i ≤ 1000000000000000) : smallI i = true := by
  unfold smallI
  rw [Bool.and_eq_true]
  exact ⟨decide_eq_true (by omega), decide_eq_true (by omega)⟩
theorem len_le {l : List D} (h : l.length ≤ 10000000) : l.length ≤ sizeLine := Nat.le_trans h (by decide)
theorem atI_map {A : Type} {f : A → D} {l : List A} {i : Int} {x : A} (h0 : 0 ≤ i) (h : l[i.toNat]? = some x) : atI (l.map f) i = some (f x) := by
  have hl := (List.getElem?_eq_some_iff.mp h).1
  unfold atI
  rw [ixN_int h0 (by simp; omega), Option.bind_some, List.getElem?_map, h]
  rfl
theorem atI_last {A : Type} {f : A → D} {l : List A} {x : A} (h : l.getLast? = some x) : atI (l.map f) (-1) = some (f x) := by
  have hl : 0 < l.length := by cases l with
    | nil => cases h
    | cons a l => simp
  unfold atI ixN
  rw [if_neg (by decide), if_pos (by simp; omega)]
  rw [show ((-1 : Int) + ((l.map f).length : Int)).toNat = l.length - 1 from by simp; omega]
  rw [Option.bind_some, List.getElem?_map, ← List.getLast?_eq_getElem?, h]
  rfl
/-! a cut of a list -/
theorem cutD_map {A : Type} (f : A → D) (l : List A) (a b : Option Int) : cutD (l.map f) a b = ((l.drop (HT.sIx l.length 0 a)).take (HT.sIx l.length l.length b - HT.sIx l.length 0 a)).map f := by
  unfold cutD
  rw [List.length_map, ← List.map_drop, ← List.map_take]
theorem closedDs_map {A : Type} {f : A → D} {n : Nat} (h : ∀ a, closedD n (f a) = true) : ∀ l : List A, closedDs n (l.map f) = true
  | [] => rfl
  | x :: l => by
    show (closedD n (f x) && closedDs n (l.map f)) = true
    rw [h, closedDs_map h l]
    rfl
/-! and, or of values with no effect -/
theorem w_andV {ma mb : ME} {a b : Bool} (h : W (ma sl C) fun x C1 => x = .bl a ∧ C1 = C) (h2 : W (mb sl C) fun x C1 => x = .bl b ∧ C1 = C) (q : QD (.bl (a && b)) C) : W (mAnd ma mb sl C) QD := by
  refine w_and (h.imp fun x C1 h => ?_)
  obtain ⟨rfl, rfl⟩ := h
  refine ⟨a, rfl, ?_⟩
  cases a with
  | true => rw [if_pos rfl]; exact h2.imp fun x C1 h => by obtain ⟨rfl, rfl⟩ := h; exact q
  | false => rw [if_neg Bool.false_ne_true]; exact q
theorem w_orV {ma mb : ME} {a b : Bool} (h : W (ma sl C) fun x C1 => x = .bl a ∧ C1 = C) (h2 : W (mb sl C) fun x C1 => x = .bl b ∧ C1 = C) (q : QD (.bl (a || b)) C) : W (mOr ma mb sl C) QD := by
  refine w_or (h.imp fun x C1 h => ?_)
  obtain ⟨rfl, rfl⟩ := h
  refine ⟨a, rfl, ?_⟩
  cases a with
  | true => rw [if_pos rfl]; exact q
  | false => rw [if_neg Bool.false_ne_true]; exact h2.imp fun x C1 h => by obtain ⟨rfl, rfl⟩ := h; exact q
theorem w_tAndV {ta tb : MG Bool} {a b : Bool} (h : W (ta sl C) fun x C1 => x = a ∧ C1 = C) (h2 : W (tb sl C) fun x C1 => x = b ∧ C1 = C) (q : QB (a && b) C) : W (tAndM ta tb sl C) QB := by
  refine w_tAnd (h.imp fun x C1 h => ?_)
  obtain ⟨rfl, rfl⟩ := h
  cases x with
  | true => rw [if_pos rfl]; exact h2.imp fun x C1 h => by obtain ⟨rfl, rfl⟩ := h; exact q
  | false => rw [if_neg Bool.false_ne_true]; exact q
theorem w_tOrV {ta tb : MG Bool} {a b : Bool} (h : W (ta sl C) fun x C1 => x = a ∧ C1 = C) (h2 : W (tb sl C) fun x C1 => x = b ∧ C1 = C) (q : QB (a || b) C) : W (tOrM ta tb sl C) QB := by
  refine w_tOr (h.imp fun x C1 h => ?_)
  obtain ⟨rfl, rfl⟩ := h
  cases x with
  | true => rw [if_pos rfl]; exact q
  | false => rw [if_neg Bool.false_ne_true]; exact h2.imp fun x C1 h => by obtain ⟨rfl, rfl⟩ := h; exact q
/-! equal pairs of lists -/
theorem eqv_two (a b c d : List Int) : PyData.eqv (.tuple [.list (a.map PyData.int), .list (b.map PyData.int)]) (.tuple [.list (c.map PyData.int), .list (d.map PyData.int)]) = (decide (a = c) && decide (b = d)) := by
  show (PyData.eqvAll _ _ && (PyData.eqvAll _ _ && true)) = _
  rw [eqvAll_ints, eqvAll_ints, Bool.and_true]
theorem shaped_two (a b : List Int) : SeqAt.shaped (.tuple [.list (a.map PyData.int), .list (b.map PyData.int)]) = true := by
  show ((PyData.canLayAll0 _ && (PyData.canLayAll0 _ && true)) && decide (max (PyData.depthAll _ + 1) (max (PyData.depthAll _ + 1) 0) + 1 ≤ 64)) = true
  rw [lay_ints, lay_ints, depth_ints, depth_ints]
  decide
theorem w_eqSt {a b c d : List Int} (q : QD (.bl (decide (a = c) && decide (b = d))) C) : W (gEq (.tup [.lst (a.map D.int), .lst (b.map D.int)]) (.tup [.lst (c.map D.int), .lst (d.map D.int)]) C) QD := by
  refine w_eqP (toP_two _ _) (toP_two _ _) (shaped_two _ _) (shaped_two _ _) (fun a e => by cases e) ?_
  rwa [eqv_two]
theorem w_neSt {a b c d : List Int} (q : QD (.bl (!(decide (a = c) && decide (b = d)))) C) : W (gNe (.tup [.lst (a.map D.int), .lst (b.map D.int)]) (.tup [.lst (c.map D.int), .lst (d.map D.int)]) C) QD := by
  refine w_neP (toP_two _ _) (toP_two _ _) (shaped_two _ _) (shaped_two _ _) (fun a e => by cases e) ?_
  rwa [eqv_two]
/-! ends with closed values -/
theorem fin_closed1 {C1 Y : Store} {d : D} (hl : C1.length = C.length) (hc : ClS C1) (hd : closedD 0 d = true) (h : QD d C1) : W (fin C d (C1 ++ Y)) QD := by
  refine W.of (a := d) (C := C1) ?_ h
  unfold fin
  rw [if_pos (app_cond hl (hc.at _))]
  split
  · simp [closedD] at hd
  · simp [closedD, closedDs] at hd
  · rw [if_pos (closedD_mono (Nat.zero_le _) d hd), app_take hl]
theorem fin_closed {Y : Store} {d : D} (hd : closedD 0 d = true) (h : QD d C) : W (fin C d (C ++ Y)) QD := by
  refine W.of (a := d) (C := C) ?_ h
  unfold fin
  rw [if_pos (same_cond C Y)]
  split
  · simp [closedD] at hd
  · simp [closedD, closedDs] at hd
  · rw [if_pos (closedD_mono (Nat.zero_le _) d hd), List.take_left' rfl]
theorem fin_closed0 {d : D} (hd : closedD 0 d = true) (h : QD d C) : W (fin C d C) QD := by
  have := fin_closed (Y := []) hd h
  rwa [List.append_nil] at this
theorem fin_closed10 {C1 : Store} {d : D} (hl : C1.length = C.length) (hc : ClS C1) (hd : closedD 0 d = true) (h : QD d C1) : W (fin C d C1) QD := by
  have := fin_closed1 (Y := []) hl hc hd h
  rwa [List.append_nil] at this
/-- a value without cells stays as it is; the new cells go -/
theorem w_fzV {n : Nat} (h : W (m sl C) fun d C' => ∃ C1 Y, C' = C1 ++ Y ∧ C1.length = C.length ∧ ClS C1 ∧ closedD 0 d = true ∧ QD d C1) : W (mFz n m sl C) QD := by
  refine W.bind (h.imp fun d C' h => ?_)
  obtain ⟨C1, Y, rfl, hl, hc, hd, q⟩ := h
  simp only [frz_id n _ d hd]
  exact fin_closed1 hl hc hd q
theorem big_of {i : Int} (h1 : -(10 ^ 300) < i) (h2 : i < 10 ^ 300) : bigI i = true := by
  have : (10 : Int) ^ 300 ≤ bigLine := by unfold bigLine; decide +kernel
  unfold bigI
  rw [Bool.and_eq_true]
  exact ⟨decide_eq_true (by omega), decide_eq_true (by omega)⟩
theorem set_id {k : Nat} {c : Cell} (h : C[k]? = some c) : C.set k c = C := by
  apply List.ext_getElem?
  intro i
  rw [List.getElem?_set]
  split
  · rename_i e
    subst e
    split
    · exact h.symm
    · rename_i h2
      exact absurd (List.getElem?_eq_some_iff.mp h).1 h2
  · rfl
/-! blocks whose cells go -/
def gcQ (n : Nat) (ks : List Nat) (QS : Fl → Sl → Store → Prop) : Fl → Sl → Store → Prop := fun f sl1 C1 => match f with
  | .nx => ∃ C2 Y, C1 = C2 ++ Y ∧ C2.length = n ∧ ClS C2 ∧ slOk n (wipeS sl1 ks) = true ∧ QS .nx (wipeS sl1 ks) C2
  | .ct => ∃ C2 Y, C1 = C2 ++ Y ∧ C2.length = n ∧ ClS C2 ∧ slOk n (wipeS sl1 ks) = true ∧ QS .ct (wipeS sl1 ks) C2
  | f => QS f sl1 C1
theorem w_gc {ks : List Nat} (h : WS (u sl C) (gcQ C.length ks QS)) : WS (sGc ks u sl C) QS := WS.bindS (WS.imp h fun f sl1 C1 h => by
  cases f with
  | nx =>
    obtain ⟨C2, Y, rfl, hl, hc, hs, q⟩ := h
    have e : C.length ≤ (C2 ++ Y).length ∧ (∀ (i : Nat), i < C.length → (C2 ++ Y)[i]? = C[i]? ∨ ∃ c, (C2 ++ Y)[i]? = some c ∧ closedC C.length c = true) ∧ slOk C.length (wipeS sl1 ks) = true := ⟨(app_cond hl (hc.at _)).1, (app_cond hl (hc.at _)).2, hs⟩
    simp only [if_pos e]
    refine WS.ok ?_
    rw [app_take hl]
    exact q
  | ct =>
    obtain ⟨C2, Y, rfl, hl, hc, hs, q⟩ := h
    have e : C.length ≤ (C2 ++ Y).length ∧ (∀ (i : Nat), i < C.length → (C2 ++ Y)[i]? = C[i]? ∨ ∃ c, (C2 ++ Y)[i]? = some c ∧ closedC C.length c = true) ∧ slOk C.length (wipeS sl1 ks) = true := ⟨(app_cond hl (hc.at _)).1, (app_cond hl (hc.at _)).2, hs⟩
    simp only [if_pos e]
    refine WS.ok ?_
    rw [app_take hl]
    exact q
  | rt d => exact WS.ok h
  | bk => exact WS.ok h)
theorem gc_n {n : Nat} {ks : List Nat} {Y : Store} (hl : C.length = n) (hc : ClS C) (hs : slOk n (wipeS sl ks) = true) (q : QS .nx (wipeS sl ks) C) : gcQ n ks QS .nx sl (C ++ Y) := ⟨C, Y, rfl, hl, hc, hs, q⟩
theorem gc_n0 {n : Nat} {ks : List Nat} (hl : C.length = n) (hc : ClS C) (hs : slOk n (wipeS sl ks) = true) (q : QS .nx (wipeS sl ks) C) : gcQ n ks QS .nx sl C := ⟨C, [], by simp, hl, hc, hs, q⟩
theorem gc_nil {ks : List Nat} (hs : slOk 0 (wipeS sl ks) = true) (q : QS .nx (wipeS sl ks) []) : gcQ ([] : Store).length ks QS .nx sl C := ⟨[], C, rfl, rfl, ClS.nil, hs, q⟩
theorem gc_r {n : Nat} {ks : List Nat} {d : D} (q : QS (.rt d) sl C) : gcQ n ks QS (.rt d) sl C := q
theorem gc_b {n : Nat} {ks : List Nat} (q : QS .bk sl C) : gcQ n ks QS .bk sl C := q
theorem w_scut {QS' : Fl → Sl → Store → Prop} {o : RS} (h : WS o QS') (k : ∀ f sl C, QS' f sl C → QS f sl C) : WS o QS := WS.imp h k
theorem w_runK {n : Nat} {ds : List D} (h : WS (u (ds.map some ++ List.replicate (n - ds.length) none) C) fun f _ C' => match f with
    | .nx => QD .non C'
    | .rt d => QD d C'
    | _ => False) : W (runK n u ds C) QD := WS.bind (h.imp fun f sl C' h => by
  cases f with
  | nx => exact W.ok h
  | rt d => exact W.ok h
  | bk => exact h.elim
  | ct => exact h.elim)
theorem fin_one1 {C1 Y : Store} {a : Cell} {j : Nat} (hl : C1.length = C.length) (hc : ClS C1) (hk : Y[j]? = some a) (ha : closedC 0 a = true) (h : QD (.cell C.length) (C1 ++ [a])) : W (fin C (.cell (C1.length + j)) (C1 ++ Y)) QD := by
  refine W.of (a := .cell C.length) (C := C1 ++ [a]) ?_ h
  unfold fin
  rw [if_pos (app_cond hl (hc.at _))]
  simp only [at_app, hk]
  rw [if_neg (by omega), if_pos (closedC_mono (Nat.zero_le _) _ ha), app_take hl]
theorem fin_two1 {C1 Y : Store} {a b : Cell} {j k : Nat} (hl : C1.length = C.length) (hc : ClS C1) (hk : Y[j]? = some a) (hk2 : Y[k]? = some b) (hjk : j ≠ k) (ha : closedC 0 a = true) (hb : closedC 0 b = true) (h : QD (.tup [.cell C.length, .cell (C.length + 1)]) (C1 ++ [a, b])) :
    W (fin C (.tup [.cell (C1.length + j), .cell (C1.length + k)]) (C1 ++ Y)) QD := by
  refine W.of (a := .tup [.cell C.length, .cell (C.length + 1)]) (C := C1 ++ [a, b]) ?_ h
  unfold fin
  rw [if_pos (app_cond hl (hc.at _))]
  simp only [at_app, hk, hk2]
  rw [if_pos ⟨by omega, by omega, by omega, closedC_mono (Nat.zero_le _) _ ha, closedC_mono (Nat.zero_le _) _ hb⟩, app_take hl]
/-- a list of numbers, each of an effect upon the store -/
theorem w_lcEff {Q : List D → Store → Prop} (P : Store → Prop) (B : Nat → Int → Prop) (hg : ∀ C, P C → okG gd C)
    (step : ∀ i d C, ds[i]? = some d → P C → W (g d sl C) fun sl1 C1 => W (m sl1 C1) fun e C2 => ∃ x, e = .int x ∧ B i x ∧ P C2)
    (h0 : P C) (q : ∀ (xs : List Int) C', xs.length = ds.length → (∀ i x, xs[i]? = some x → B i x) → P C' → Q (xs.map D.int) C') : W (lcM g tTrue m gd sl ds C) Q := by
  refine w_lcM (fun i acc C' => ∃ xs : List Int, acc = xs.map D.int ∧ xs.length = i ∧ (∀ j x, xs[j]? = some x → B j x) ∧ P C') (fun _ _ _ h => hg _ h.choose_spec.2.2.2) (fun i d acc C' hd h => ?_) (fun zs C' h => ?_) ⟨[], rfl, rfl, (fun _ _ h => nomatch h), h0⟩
  · obtain ⟨xs, rfl, hl, hB, hP⟩ := h
    refine (step i d C' hd hP).imp fun sl1 C1 h => w_tTrue ?_
    rw [if_pos rfl]
    refine W.imp h fun e C2 h => ?_
    obtain ⟨x, rfl, hx, hP2⟩ := h
    refine ⟨xs ++ [x], by simp, by simp [hl], fun j y hj => ?_, hP2⟩
    by_cases hji : j < xs.length
    · rw [List.getElem?_append_left hji] at hj
      exact hB j y hj
    · rw [List.getElem?_append_right (by omega)] at hj
      cases hk : j - xs.length with
      | zero =>
        rw [hk] at hj
        cases hj
        have : j = i := by omega
        subst this
        exact hx
      | succ n => rw [hk] at hj; simp at hj
  · obtain ⟨xs, rfl, hl, hB, hP⟩ := h
    exact q xs C' hl hB hP
theorem rgD_length (a b : Int) : (rgD a b).length = (b - a).toNat := by simp [rgD]
theorem rgDown_length (a b : Int) : (rgDown a b).length = (a - b).toNat := by simp [rgDown]
theorem ite_cut {S : Type} {b : Bool} {o1 o2 : R (S × Store)} {Q : S → Store → Prop} (Q' : S → Store → Prop) (h1 : b = true → W o1 Q') (h2 : b = false → W o2 Q') (k : ∀ a C, Q' a C → Q a C) : if b = true then W o1 Q else W o2 Q := by
  cases b with
  | true => exact (h1 rfl).imp k
  | false => exact (h2 rfl).imp k
/-- frozen: a pair of new lists -/
theorem w_fzS {n : Nat} (h : W (m sl C) fun d C1 => ∃ (xs ys : List D), d = .tup [.cell C.length, .cell (C.length + 1)] ∧ C1 = C ++ [.lst xs, .lst ys] ∧ closedDs 0 xs = true ∧ closedDs 0 ys = true ∧ QD (.tup [.lst xs, .lst ys]) C) : W (mFz (n + 2) m sl C) QD := by
  refine W.bind (h.imp fun d C1 h => ?_)
  obtain ⟨xs, ys, rfl, rfl, h1, h2, q⟩ := h
  have e1 : (C ++ [Cell.lst xs, Cell.lst ys])[C.length]? = some (.lst xs) := at_app0
  have e2 : (C ++ [Cell.lst xs, Cell.lst ys]).set C.length (.fz xs) = C ++ [.fz xs, .lst ys] := set_app0
  have e3 : (C ++ [Cell.fz xs, Cell.lst ys])[C.length + 1]? = some (.lst ys) := at_app
  have e4 : (C ++ [Cell.fz xs, Cell.lst ys]).set (C.length + 1) (.fz ys) = C ++ [.fz xs, .fz ys] := set_app
  have f1 : frz (n + 1) (.cell C.length) (C ++ [Cell.lst xs, Cell.lst ys]) = some (.lst xs, C ++ [.fz xs, .lst ys]) := by
    unfold frz
    simp only [e1, e2]
    rw [frzL_id _ xs fun x hx => frz_id n _ x (closed_mem h1 hx)]
    rfl
  have f2 : frz (n + 1) (.cell (C.length + 1)) (C ++ [Cell.fz xs, Cell.lst ys]) = some (.lst ys, C ++ [.fz xs, .fz ys]) := by
    unfold frz
    simp only [e3, e4]
    rw [frzL_id _ ys fun x hx => frz_id n _ x (closed_mem h2 hx)]
    rfl
  have f3 : frz (n + 2) (.tup [.cell C.length, .cell (C.length + 1)]) (C ++ [Cell.lst xs, Cell.lst ys]) = some (.tup [.lst xs, .lst ys], C ++ [.fz xs, .fz ys]) := by
    show (frzL (frz (n + 1)) _ _).bind _ = _
    unfold frzL
    rw [f1, Option.bind_some]
    unfold frzL
    rw [f2, Option.bind_some]
    rfl
  simp only [f3]
  refine fin_closed ?_ q
  show (closedDs 0 xs && (closedDs 0 ys && true)) = true
  rw [h1, h2]
  rfl
/-- .. one new list -/
theorem w_fzL {n : Nat} (h : W (m sl C) fun d C1 => ∃ (xs : List D), d = .cell C.length ∧ C1 = C ++ [.lst xs] ∧ closedDs 0 xs = true ∧ QD (.lst xs) C) : W (mFz (n + 1) m sl C) QD := by
  refine W.bind (h.imp fun d C1 h => ?_)
  obtain ⟨xs, rfl, rfl, h1, q⟩ := h
  have e1 : (C ++ [Cell.lst xs])[C.length]? = some (.lst xs) := at_app0
  have e2 : (C ++ [Cell.lst xs]).set C.length (.fz xs) = C ++ [.fz xs] := set_app0
  have f1 : frz (n + 1) (.cell C.length) (C ++ [Cell.lst xs]) = some (.lst xs, C ++ [.fz xs]) := by
    unfold frz
    simp only [e1, e2]
    rw [frzL_id _ xs fun x hx => frz_id n _ x (closed_mem h1 hx)]
    rfl
  simp only [f1]
  exact fin_closed h1 q
theorem w_fzV0 {n : Nat} (h : W (m sl C) fun d C' => ∃ Y, C' = C ++ Y ∧ closedD 0 d = true ∧ QD d C) : W (mFz n m sl C) QD := by
  refine W.bind (h.imp fun d C' h => ?_)
  obtain ⟨Y, rfl, hd, q⟩ := h
  simp only [frz_id n _ d hd]
  exact fin_closed hd q
theorem w_clear {k : Nat} (hk : C[k]? = some (.lst ds)) (h : QD .non (C.set k (.lst []))) : W (gClear (.cell k) [] C) QD := by
  refine W.of (a := .non) (C := C.set k (.lst [])) ?_ h
  show (match (mutAt C k).map (fun ds => (k, ds)), ([] : List D) with
    | some (i, _), [] => R.ok (D.non, C.set i (.lst []))
    | _, _ => .no) = _
  rw [mutAt_lst hk]
  rfl
theorem IsLst.itX {x : D} (h : IsLst C x ds) (X : Store) : ∃ g, lstG (C ++ X) x = some (ds, g) ∧ ∀ Y, okG g (C ++ Y) := by
  cases h with
  | f => exact ⟨[], rfl, fun _ => okG_nil _⟩
  | c k ds h => exact ⟨[(k, ds)], by unfold lstG; simp only [at_lo h], fun Y p hp => by cases List.mem_singleton.mp hp; exact at_lo h⟩
end
theorem w_gmNn {i : Nat} {d : D} {sl sl' : Sl} {C : Store} {Q : Sl → Store → Prop} (e : sl.set i (some d) = sl') (h : Q sl' C) : W (gmN i d sl C) Q := by
  subst e
  exact w_gmN h
theorem w_runn {n : Nat} {u : MS} {ds : List D} {C : Store} {sl' : Sl} {QD : D → Store → Prop} (e : ds.map some ++ List.replicate (n - ds.length) none = sl') (h : WS (u sl' C) fun f _ C' => match f with
    | .nx => W (fin C .non C') QD
    | .rt d => W (fin C d C') QD
    | _ => False) : W (runD n u ds C) QD := by
  subst e
  exact w_run h
theorem w_runKn {n : Nat} {u : MS} {ds : List D} {C : Store} {sl' : Sl} {QD : D → Store → Prop} (e : ds.map some ++ List.replicate (n - ds.length) none = sl') (h : WS (u sl' C) fun f _ C' => match f with
    | .nx => QD .non C'
    | .rt d => QD d C'
    | _ => False) : W (runK n u ds C) QD := by
  subst e
  exact w_runK h
theorem gc_niln {QS : Fl → Sl → Store → Prop} {sl sl' : Sl} {C : Store} {ks : List Nat} (e : wipeS sl ks = sl') (hs : slOk 0 sl' = true) (q : QS .nx sl' []) : gcQ ([] : Store).length ks QS .nx sl C := by
  subst e
  exact gc_nil hs q
theorem gc_nn {QS : Fl → Sl → Store → Prop} {sl sl' : Sl} {C : Store} {n : Nat} {ks : List Nat} (Y : Store) (e : wipeS sl ks = sl') (hl : C.length = n) (hc : ClS C) (hs : slOk n sl' = true) (q : QS .nx sl' C) : gcQ n ks QS .nx sl (C ++ Y) := by
  subst e
  exact gc_n hl hc hs q
theorem gc_nn0 {QS : Fl → Sl → Store → Prop} {sl sl' : Sl} {C : Store} {n : Nat} {ks : List Nat} (e : wipeS sl ks = sl') (hl : C.length = n) (hc : ClS C) (hs : slOk n sl' = true) (q : QS .nx sl' C) : gcQ n ks QS .nx sl C := by
  subst e
  exact gc_n0 hl hc hs q
theorem w_parn {i j : Nat} {mas : MG (List D)} {sl : Sl} {C : Store} {QS : Fl → Sl → Store → Prop} (h : W (mas sl C) fun xs C1 => ∃ x y, xs = [x, y] ∧ ∃ sl', (sl.set i (some x)).set j (some y) = sl' ∧ QS .nx sl' C1) : WS (sPar i j mas sl C) QS :=
  w_par (h.imp fun xs C1 h => by
    obtain ⟨x, y, rfl, sl', rfl, q⟩ := h
    exact ⟨x, y, rfl, q⟩)
theorem slset_i {sl sl' : Sl} {P : Sl → Prop} (e : sl = sl') (h : P sl') : ∃ s, sl = s ∧ P s := ⟨sl', e, h⟩
end Nv

namespace Nv
open PySem PySem.Spec PyProof.Rows L2
section
variable {QD : D → Store → Prop} {QS : Fl → Sl → Store → Prop} {sl : Sl} {C : Store} {m : ME} {t : MG Bool} {u : MS} {g : MT} {gd : Gd} {ds : List D} {A : Type} {φ : A → D}
/-- a comprehension over a list told by things: maps -/
theorem w_lcA {l : List A} {f : A → D} {Q : List D → Store → Prop} (hg : okG gd C) (step : ∀ (i : Nat) (a : A), l[i]? = some a → W (g (φ a) sl C) fun sl1 C1 => W (m sl1 C1) fun e C3 => e = f a ∧ C3 = C) (q : Q (l.map f) C) : W (lcM g tTrue m gd sl (l.map φ) C) Q := by
  refine w_lcM (fun i acc C' => C' = C ∧ acc = (l.take i).map f) (fun _ _ _ h => h.1 ▸ hg) (fun i d acc C' hd h => ?_) (fun zs C' h => ?_) ⟨rfl, rfl⟩
  · obtain ⟨rfl, rfl⟩ := h
    rw [List.getElem?_map, Option.map_eq_some_iff] at hd
    obtain ⟨a, ha, rfl⟩ := hd
    refine (step i a ha).imp fun sl1 C1 h => w_tTrue ?_
    rw [if_pos rfl]
    refine h.imp fun e C3 h => ?_
    obtain ⟨rfl, rfl⟩ := h
    exact ⟨rfl, by rw [List.take_succ, ha]; simp⟩
  · obtain ⟨rfl, rfl⟩ := h
    rw [List.length_map, List.take_length]
    exact q
/-- .. sifts, and maps -/
theorem w_lcAf {l : List A} {p : A → Bool} {f : A → D} {Q : List D → Store → Prop} (hg : okG gd C) (step : ∀ (i : Nat) (a : A), l[i]? = some a → W (g (φ a) sl C) fun sl1 C1 => W (t sl1 C1) fun b C2 => b = p a ∧ C2 = C ∧ (p a = true → W (m sl1 C) fun e C3 => e = f a ∧ C3 = C)) (q : Q ((l.filter p).map f) C) : W (lcM g t m gd sl (l.map φ) C) Q := by
  refine w_lcM (fun i acc C' => C' = C ∧ acc = ((l.take i).filter p).map f) (fun _ _ _ h => h.1 ▸ hg) (fun i d acc C' hd h => ?_) (fun zs C' h => ?_) ⟨rfl, rfl⟩
  · obtain ⟨rfl, rfl⟩ := h
    rw [List.getElem?_map, Option.map_eq_some_iff] at hd
    obtain ⟨a, ha, rfl⟩ := hd
    refine (step i a ha).imp fun sl1 C1 h => h.imp fun b C2 h => ?_
    obtain ⟨rfl, rfl, h⟩ := h
    rw [List.take_succ, ha, List.filter_append, List.map_append]
    by_cases hp : p a = true
    · rw [if_pos hp]
      refine (h hp).imp fun e C3 h => ?_
      obtain ⟨rfl, rfl⟩ := h
      exact ⟨rfl, by simp [hp]⟩
    · rw [if_neg hp]
      exact ⟨rfl, by simp [hp]⟩
  · obtain ⟨rfl, rfl⟩ := h
    rw [List.length_map, List.take_length]
    exact q
/-- numbers drawn, each of an effect upon the store, counted -/
theorem w_lcEffN {Q : List D → Store → Prop} (P : Nat → Store → Prop) (B : Nat → Int → Prop) (hg : ∀ i C, P i C → okG gd C)
    (step : ∀ i d C, ds[i]? = some d → P i C → W (g d sl C) fun sl1 C1 => W (m sl1 C1) fun e C2 => ∃ x, e = .int x ∧ B i x ∧ P (i + 1) C2)
    (h0 : P 0 C) (q : ∀ (xs : List Int) C', xs.length = ds.length → (∀ i x, xs[i]? = some x → B i x) → P ds.length C' → Q (xs.map D.int) C') : W (lcM g tTrue m gd sl ds C) Q := by
  refine w_lcM (fun i acc C' => ∃ xs : List Int, acc = xs.map D.int ∧ xs.length = i ∧ (∀ j x, xs[j]? = some x → B j x) ∧ P i C') (fun _ _ _ h => hg _ _ h.choose_spec.2.2.2) (fun i d acc C' hd h => ?_) (fun zs C' h => ?_) ⟨[], rfl, rfl, (fun _ _ h => nomatch h), h0⟩
  · obtain ⟨xs, rfl, hl, hB, hP⟩ := h
    refine (step i d C' hd hP).imp fun sl1 C1 h => w_tTrue ?_
    rw [if_pos rfl]
    refine W.imp h fun e C2 h => ?_
    obtain ⟨x, rfl, hx, hP2⟩ := h
    refine ⟨xs ++ [x], by simp, by simp [hl], fun j y hj => ?_, hP2⟩
    rcases Nat.lt_or_ge j xs.length with hji | hji
    · rw [List.getElem?_append_left hji] at hj
      exact hB j y hj
    · rw [List.getElem?_append_right hji] at hj
      cases hk : j - xs.length with
      | zero =>
        rw [hk] at hj
        cases hj
        have : j = i := by omega
        subst this
        exact hx
      | succ n => rw [hk] at hj; simp at hj
  · obtain ⟨xs, rfl, hl, hB, hP⟩ := h
    exact q xs C' hl hB hP
theorem small64 {i : Int} (h1 : -(2 ^ 64) < i) (h2 : i < 2 ^ 64) : smallI i = true := by
  unfold smallI
  rw [Bool.and_eq_true]
  exact ⟨decide_eq_true h1, decide_eq_true h2⟩
theorem lt0 : ([] : List D).length < sizeLine := by simp [sizeLine]
theorem lt1 {a : D} : [a].length < sizeLine := by simp [sizeLine]
theorem lt1a {a : D} : (([] : List D) ++ [a]).length < sizeLine := by simp [sizeLine]
theorem seqIx_nat {r n : Nat} (h : r < n) : seqIndex? (r : Int) n = some r := by
  unfold seqIndex?
  have h1 : ¬ ((r : Int) < 0) := by omega
  have h2 : (0 : Int) ≤ r := by omega
  have h3 : (r : Int) < n := by omega
  simp only [if_neg h1, h2, h3, decide_true, Bool.and_self, if_true, Int.toNat_natCast]
theorem w_popAt {k r : Nat} {ds : List D} {x : D} (hk : C[k]? = some (.lst ds)) (e : ds[r]? = some x) (hr : r ≤ 1000000) (h : QD x (C.set k (.lst (ds.eraseIdx r)))) : W (gPop (.cell k) [.int (r : Int)] C) QD := by
  refine W.of (a := x) (C := C.set k (.lst (ds.eraseIdx r))) ?_ h
  show (match (mutAt C k).map (fun ds => (k, ds)), [D.int (r : Int)] with
    | some (i, xs), [] => match xs[xs.length - 1]? with
      | some y => R.ok (y, C.set i (.lst xs.dropLast))
      | none => .no
    | some (i, xs), [.int k] => if lowI k = true then match seqIndex? k xs.length with
        | some j => match xs[j]? with
          | some y => R.ok (y, C.set i (.lst (xs.eraseIdx j)))
          | none => .no
        | none => .no
      else .no
    | _, _ => .no) = _
  have hl := (List.getElem?_eq_some_iff.mp e).1
  rw [mutAt_lst hk]
  simp only [Option.map_some, low_of (i := (r : Int)) (by omega) (by omega), if_true, seqIx_nat hl, e]
/-- frozen: a pair of new lists behind other new cells -/
theorem w_fzSY {n : Nat} (h : W (m sl C) fun d C1 => ∃ (xs ys : List D) (Y : Store), d = .tup [.cell (C ++ Y).length, .cell ((C ++ Y).length + 1)] ∧ C1 = (C ++ Y) ++ [.lst xs, .lst ys] ∧ closedDs 0 xs = true ∧ closedDs 0 ys = true ∧ QD (.tup [.lst xs, .lst ys]) C) : W (mFz (n + 2) m sl C) QD := by
  refine W.bind (h.imp fun d C1 h => ?_)
  obtain ⟨xs, ys, Y, rfl, rfl, h1, h2, q⟩ := h
  have e1 : (C ++ Y ++ [Cell.lst xs, Cell.lst ys])[(C ++ Y).length]? = some (.lst xs) := at_app0
  have e2 : (C ++ Y ++ [Cell.lst xs, Cell.lst ys]).set (C ++ Y).length (.fz xs) = C ++ Y ++ [.fz xs, .lst ys] := set_app0
  have e3 : (C ++ Y ++ [Cell.fz xs, Cell.lst ys])[(C ++ Y).length + 1]? = some (.lst ys) := at_app
  have e4 : (C ++ Y ++ [Cell.fz xs, Cell.lst ys]).set ((C ++ Y).length + 1) (.fz ys) = C ++ Y ++ [.fz xs, .fz ys] := set_app
  have f1 : frz (n + 1) (.cell (C ++ Y).length) (C ++ Y ++ [Cell.lst xs, Cell.lst ys]) = some (.lst xs, C ++ Y ++ [.fz xs, .lst ys]) := by
    unfold frz
    simp only [e1, e2]
    rw [frzL_id _ xs fun x hx => frz_id n _ x (closed_mem h1 hx)]
    rfl
  have f2 : frz (n + 1) (.cell ((C ++ Y).length + 1)) (C ++ Y ++ [Cell.fz xs, Cell.lst ys]) = some (.lst ys, C ++ Y ++ [.fz xs, .fz ys]) := by
    unfold frz
    simp only [e3, e4]
    rw [frzL_id _ ys fun x hx => frz_id n _ x (closed_mem h2 hx)]
    rfl
  have f3 : frz (n + 2) (.tup [.cell (C ++ Y).length, .cell ((C ++ Y).length + 1)]) (C ++ Y ++ [Cell.lst xs, Cell.lst ys]) = some (.tup [.lst xs, .lst ys], C ++ Y ++ [.fz xs, .fz ys]) := by
    show (frzL (frz (n + 1)) _ _).bind _ = _
    unfold frzL
    rw [f1, Option.bind_some]
    unfold frzL
    rw [f2, Option.bind_some]
    rfl
  simp only [f3]
  rw [List.append_assoc]
  refine fin_closed ?_ q
  show (closedDs 0 xs && (closedDs 0 ys && true)) = true
  rw [h1, h2]
  rfl
end
end Nv

namespace Nv
open PySem PySem.Spec PyProof.Rows L2
/-! calls by keywords alone -/
/-- the keywords' values in the parameters' order -/
def pmV {A : Type} (pm : List Nat) : List A → List A → List A
  | [], ws => if ws.length = pm.length then pm.filterMap (fun i : Nat => ws[i]?) else []
  | _ :: _, _ => []
theorem pmV_nil {A : Type} (pm : List Nat) (ws : List A) : pmV pm [] ws = if ws.length = pm.length then pm.filterMap (fun i : Nat => ws[i]?) else [] := rfl
theorem pm_get : ∀ {pm : List Nat} {A B : Type} {R : A → B → Prop} {as : List A} {bs : List B}, as.length = bs.length → (∀ (i : Nat) (a : A) (b : B), as[i]? = some a → bs[i]? = some b → R a b) →
    (pm.filterMap fun i : Nat => as[i]?).length = (pm.filterMap fun i : Nat => bs[i]?).length ∧ ∀ (i : Nat) (a : A) (b : B), (pm.filterMap fun i : Nat => as[i]?)[i]? = some a → (pm.filterMap fun i : Nat => bs[i]?)[i]? = some b → R a b
  | [], _, _, _, _, _, _, _ => ⟨rfl, fun i a b h => by simp at h⟩
  | p :: pm, A, B, R, as, bs, hl, h => by
    obtain ⟨k1, k2⟩ := pm_get (pm := pm) hl h
    cases ha : as[p]? with
    | none =>
      have hb : bs[p]? = none := by rw [List.getElem?_eq_none_iff] at ha ⊢; omega
      rw [List.filterMap_cons_none ha, List.filterMap_cons_none hb]
      exact ⟨k1, k2⟩
    | some a =>
      obtain ⟨hp, _⟩ := List.getElem?_eq_some_iff.mp ha
      have hb : bs[p]? = some (bs[p]'(by omega)) := List.getElem?_eq_getElem (by omega)
      rw [List.filterMap_cons_some ha, List.filterMap_cons_some hb]
      refine ⟨by simp [k1], fun i x y hx hy => ?_⟩
      cases i with
      | zero => cases hx; cases hy; exact h p _ _ ha hb
      | succ i => exact k2 i x y hx hy
theorem vals_len {vs : List V} {us : List Value} (h : Vals vs us) : vs.length = us.length := h.length
theorem vals_get {vs : List V} {us : List Value} (h : Vals vs us) : ∀ (i : Nat) (v : V) (u : Value), vs[i]? = some v → us[i]? = some u → RelV v u := by
  induction h with
  | nil => intro i v u h; simp at h
  | cons h1 _ ih =>
    intro i v u hv hu
    cases i with
    | zero => cases hv; cases hu; exact h1
    | succ i => exact ih i v u hv hu
theorem vals_of : ∀ {vs : List V} {us : List Value}, vs.length = us.length → (∀ (i : Nat) (v : V) (u : Value), vs[i]? = some v → us[i]? = some u → RelV v u) → Vals vs us
  | [], [], _, _ => .nil
  | v :: vs, u :: us, hl, h => .cons (h 0 v u rfl rfl) (vals_of (by simpa using hl) fun i a b ha hb => h (i + 1) a b ha hb)
  | [], _ :: _, hl, _ => by simp at hl
  | _ :: _, [], hl, _ => by simp at hl
theorem pm_vals {pm : List Nat} {vs zs : List V} {us ws : List Value} (h : Vals vs us) (k : Vals zs ws) : Vals (pmV pm vs zs) (pmV pm us ws) := by
  cases h with
  | nil =>
    have hl := k.length
    rw [pmV_nil, pmV_nil]
    by_cases e : zs.length = pm.length
    · rw [if_pos e, if_pos (by omega)]
      obtain ⟨k1, k2⟩ := pm_get (pm := pm) hl (vals_get k)
      exact vals_of k1 k2
    · rw [if_neg e, if_neg (by omega)]
      exact .nil
  | cons _ _ => exact .nil
theorem kb_of {K : PySem.W.Frag} {fd : FuncData} {ps ks : List Str} {pm : List Nat} (hp : 0 < ps.length) (h : ∀ ws : List Value, ws.length = pm.length → bindArgs fd ⟨[], ks.zip ws⟩ = pure (ps.zip (pmV pm [] ws))) : KBinds K fd ps ks (pmV pm) (pmV pm) where
  to := fun s us ws _ hl => by
    cases us with
    | nil =>
      by_cases e : ws.length = pm.length
      · exact .of_eq (h ws e)
      · rw [pmV_nil, if_neg e] at hl
        simp at hl
        omega
    | cons u us => simp [pmV] at hl; omega
  rel := fun h k => pm_vals h k
def DefAtK (K : PySem.W.Frag) (mg : Str → Option Value) (x : Str) (st : Stmt) (ps ks : List Str) (pm : List Nat) : Prop := ∃ f fd, Fun K x x st f fd ∧ mg x = some (.ref f) ∧ KBinds K fd ps ks (pmV pm) (pmV pm)
def CalK (P : Program) (w : World) (K : PySem.W.Frag) (mg : Str → Option Value) (base : Heap) (x : Str) (k n : Nat) (ks : List Str) (pm : List Nat) (mf : MF) : Prop :=
  ∃ f fd ps, FnG P w K mg base k f fd ps (spN K mg n mf) ∧ mg x = some (.ref f) ∧ PySem.W.keepIn K (.ref f) = true ∧ KBinds K fd ps ks (pmV pm) (pmV pm)
section
variable {P : Program} {w : World} {K : PySem.W.Frag} {mg : Str → Option Value} {base : Heap}
theorem CalK.of {x : Str} {st : Stmt} {N ps ks : List Str} {pm : List Nat} {k : Nat} {u : MS} (h : DefAtK K mg x st ps ks pm) (S : FnScope N ps (defScope st))
    (hb : ∀ (f : Addr) (cdv : Value) (A : Around) (outer : List Env) (s : Shared) (H : Hp) (E : XK), Room k (A.deeper (envOfC x (defScope st) s.heap.objs.size f cdv)) → A.guards = some [] →
      NSs (cxOf (L2.CX P w) P w K mg base N x (defScope st) f cdv A outer s H E) E (defBody st) u) : CalK P w K mg base x (k + 1) ps.length ks pm (runD N.length u) := by
  obtain ⟨f, fd, h1, h2, h3⟩ := h
  exact ⟨f, fd, ps, okD h1 S fun cdv A outer s H E hr hg => hb f cdv A outer s H E hr hg, h2, h1.kp, h3⟩
theorem CalK.ofK {x : Str} {st : Stmt} {N ps ks : List Str} {pm : List Nat} {k : Nat} {u : MS} (h : DefAtK K mg x st ps ks pm) (S : FnScope N ps (defScope st))
    (hb : ∀ (f : Addr) (cdv : Value) (A : Around) (outer : List Env) (s : Shared) (H : Hp) (E : XK), Room k (A.deeper (envOfC x (defScope st) s.heap.objs.size f cdv)) → A.guards = some [] →
      NSs (cxOf (L2.CX P w) P w K mg base N x (defScope st) f cdv A outer s H E) E (defBody st) u) : CalK P w K mg base x (k + 1) ps.length ks pm (runK N.length u) := by
  obtain ⟨f, fd, h1, h2, h3⟩ := h
  exact ⟨f, fd, ps, okDK h1 S fun cdv A outer s H E hr hg => hb f cdv A outer s H E hr hg, h2, h1.kp, h3⟩
end
section
variable {X : Cx} {E : XK} {pos p : Pos} {f : Addr} {fd : FuncData} {ps : List Str} {k : Nat} {x : Str}
/-- a call by keywords alone -/
theorem pe_callGKW0 {sp : List V → Hp → VK → XK → Prop} {ks : List Str} {g : List Value → List Value → List Value} {gV : List V → List V → List V} {kws : List Keyword} {tk : TA} (F : FnG X.prog X.w X.K X.mg X.base k f fd ps sp) (hr : Room k X.A) (hgd : X.A.guards = some []) (hg : Gl X x)
    (hm : X.mg x = some (.ref f)) (hk : PySem.W.keepIn X.K (.ref f) = true) (hb : KBinds X.K fd ps ks g gV) (hx : Passes (L2.CX X.prog X.w) X E) (hkw : PK X kws tk) (hall : (backToKw pos (keywordEach kws X.env)).all (·.1.isSome) = true)
    (hks : (backToKw pos (keywordEach kws X.env)).filterMap (·.1) = ks) (hdb : (x == ("__debug__" : Str)) = false)
    (hpl : ((backTo pos (starEach [] X.env)).any (·.1) || (backToKw pos (keywordEach kws X.env)).any (·.1.isNone)) = false) :
    PE X (.Call (.Name x p) [] kws pos) (fun σ H Q => tk σ H fun zs H2 => sp (gV [] zs) H2 Q E) := ⟨fun pins s σ H Q I h => by
  refine wpAny_Call_Name_kw (ld_glob I hg hm ?_ hdb)
  refine PySem.W.callWith_KW0 (h₀ := X.base) I.ok.mod.kin hk hall ?_ hpl
  refine thn (hkw.run pos pins s σ H _ I h) fun ws s2 ⟨zs, H2, I2, rz, q2⟩ => ⟨I2.kIn, ?_⟩
  rw [hks]
  have r2 := hb.rel (.nil : Vals [] []) rz
  have hl : (g [] ws).length = ps.length := by
    rw [← r2.length]
    exact F.len _ _ _ _ q2
  refine wpAny_call (codeAny_mono (F.run X.A X.stack s2 H2 ⟨[], ks.zip ws⟩ (g [] ws) (gV [] zs) Q E hr hgd I2.env0 (hb.to s2 [] ws I2.kIn hl) r2 q2) fun r s' hq => ?_)
  cases r with
  | error z => exact hx pins σ H2 s2 z s' I2 hq
  | ok fl =>
    cases fl with
    | ret u => exact I2.after hq
    | next => exact False.elim hq
    | brk => exact False.elim hq
    | cont => exact False.elim hq⟩
structure NKs (X : Cx) (E : XK) (kws : List Keyword) (m : MG (List D)) : Prop where
  pk : PK X kws (LG (Reps X.K) X.K X.mg E m)
theorem nk_nil : NKs X E [] aNil := ⟨⟨fun pos pins s σ H Q I h => pk_nil.run pos pins s σ H Q I (by
  obtain ⟨B, F, r, sl, C, hr, hs, o⟩ := h
  exact o F r H [] (.refl _) (.refl _) hr .nil)⟩⟩
theorem nk_cons {nm : Option Str} {e : Expr} {kpos : Pos} {kws : List Keyword} {ma : ME} {mas : MG (List D)} (ha : NE X E e ma) (hr : NKs X E kws mas) : NKs X E (⟨nm, e, kpos⟩ :: kws) (aCons ma mas) :=
  ⟨⟨fun pos pins s σ H Q I h => (pk_cons ha.pe hr.pk).run pos pins s σ H Q I (by
    obtain ⟨B, F, r, sl, C, hr, hs, o⟩ := h
    refine ⟨B, F, r, sl, C, hr, hs, Out.bind (P := Rep X.K) o fun x C1 F1 r1 H1 v e1 e2 hr1 hx o1 => ?_⟩
    refine ⟨B, F1, r1, sl, C1, hr1, hs.mono e1 e2, Out.bind (P := Reps X.K) o1 fun y C2 F2 r2 H2 w e3 e4 hr2 hy o2 => ?_⟩
    exact o2 F2 r2 H2 (v :: w) (.refl _) (.refl _) hr2 (.cons (hx.mono e3 e4) hy))⟩⟩
theorem reps_pm {K : PySem.W.Frag} {F : Hp} {r : List Addr} {pm : List Nat} {ds : List D} {vs : List V} (h : Reps K F r ds vs) : Reps K F r (pmV pm [] ds) (pmV pm [] vs) := by
  rw [pmV_nil, pmV_nil]
  have hl := h.length
  by_cases e : ds.length = pm.length
  · rw [if_pos e, if_pos (by omega)]
    clear e
    induction pm with
    | nil => exact .nil
    | cons p pm ih =>
      cases hd : ds[p]? with
      | none =>
        have hv : vs[p]? = none := by rw [List.getElem?_eq_none_iff] at hd ⊢; omega
        rw [List.filterMap_cons_none hd, List.filterMap_cons_none hv]
        exact ih
      | some d =>
        obtain ⟨v, hv, hr⟩ := h.get hd
        rw [List.filterMap_cons_some hd, List.filterMap_cons_some hv]
        exact .cons hr ih
  · rw [if_neg e, if_neg (by omega)]
    exact .nil
def mFK (n : Nat) (pm : List Nat) (mf : MF) (mas : MG (List D)) : ME := fun sl C => (mas sl C).bind fun p => if (pmV pm [] p.1).length = n then mf (pmV pm [] p.1) p.2 else .no
theorem ne_calK {n : Nat} {ks : List Str} {pm : List Nat} {mf : MF} {kws : List Keyword} {mas : MG (List D)} (h : CalK X.prog X.w X.K X.mg X.base x k n ks pm mf) (hr : Room k X.A) (hgd : X.A.guards = some []) (hx : Passes (L2.CX X.prog X.w) X E) (ha : NKs X E kws mas) (hg : Gl X x := by rfl)
    (hall : (backToKw pos (keywordEach kws X.env)).all (·.1.isSome) = true := by rfl) (hks : (backToKw pos (keywordEach kws X.env)).filterMap (·.1) = ks := by rfl) (hdb : (x == ("__debug__" : Str)) = false := by decide)
    (hpl : ((backTo pos (starEach [] X.env)).any (·.1) || (backToKw pos (keywordEach kws X.env)).any (·.1.isNone)) = false := by rfl) : NE X E (.Call (.Name x p) [] kws pos) (mFK n pm mf mas) := by
  obtain ⟨f, fd, ps, h1, h2, h3, h4⟩ := h
  exact ⟨pe_imp (pe_callGKW0 h1 hr hgd hg h2 h3 h4 hx ha.pk hall hks hdb hpl) fun s H Q q => by
    obtain ⟨B, F, r, sl, C, hr, hs, o⟩ := q
    refine ⟨B, F, r, sl, C, hr, hs, Out.bind (P := Reps X.K) o fun x C1 F1 r1 H1 v e1 e2 hr1 hx o1 => ?_⟩
    simp only at o1
    split at o1
    · rename_i hl
      exact ⟨B, F1, r1, C1, _, hr1, reps_pm hx, hl, o1⟩
    · exact False.elim o1⟩
end
theorem w_FK {n : Nat} {pm : List Nat} {mf : MF} {mas : MG (List D)} {sl : Sl} {C : Store} {QD : D → Store → Prop} (h : W (mas sl C) fun xs C1 => ∃ ys, pmV pm [] xs = ys ∧ ys.length = n ∧ W (mf ys C1) QD) : W (mFK n pm mf mas sl C) QD := W.bind (h.imp fun xs C1 h => by
  obtain ⟨ys, rfl, hl, q⟩ := h
  simp only [if_pos hl]
  exact q)
theorem pm_i {pm : List Nat} {xs ys : List D} {P : List D → Prop} (e : pmV pm [] xs = ys) (h : P ys) : ∃ zs, pmV pm [] xs = zs ∧ P zs := ⟨ys, e, h⟩
end Nv

namespace Nv
open PySem PySem.Spec PyProof.Rows L2
section
variable {K : PySem.W.Frag} {mg : Str → Option Value} {E : XK} {B F H : Hp} {r : List Addr} {C : Store} {Q : VK} {X : Cx} {a b e o i value kx vx tg it : Expr} {es : List Expr} {m ma mb mo mv mi mk : ME} {mas : MG (List D)} {pos p1 p2 p3 : Pos}
/-! dicts asked whether they have a key; dicts whose keys are flat -/
theorem val_none {κ : Type} [DecidableEq κ] {k : κ} : ∀ {kvs : List (κ × D)} {ws : List (κ × V)}, kvs.map (·.1) = ws.map (·.1) → (valD kvs k).isSome = (valV ws k).isSome
  | [], [], _ => rfl
  | [], _ :: _, h => by cases h
  | _ :: _, [], h => by cases h
  | kv :: kvs, w :: ws, h => by
    rw [List.map_cons, List.map_cons, List.cons.injEq] at h
    have ih := val_none (k := k) h.2
    unfold valD valV at ih ⊢
    rw [List.find?_cons, List.find?_cons]
    by_cases hk : kv.1 = k
    · rw [decide_eq_true hk, decide_eq_true (h.1.symm.trans hk)]
      rfl
    · rw [decide_eq_false hk, decide_eq_false fun z => hk (h.1.trans z)]
      exact ih
/-- (x, y) in d, not in d -/
def mDInT (neg : Bool) (mas : MG (List D)) (mo : ME) : ME := fun sl C => (mas sl C).bind fun q => if q.1.length ≤ sizeLine then (mo sl q.2).bind fun p => match dtAt p.2 p.1, keysOf q.1 with
  | some (_, kvs), some ks => .ok (.bl (if neg then !(valD kvs ks).isSome else (valD kvs ks).isSome), p.2)
  | _, _ => .no
  else .no
theorem dinT_ok {neg : Bool} {s : L2.St} {H : Hp} {Q : VK} (q : LG (Rep X.K) X.K X.mg E (mDInT neg mas mo) s H Q) : tTup (LG (Reps X.K) X.K X.mg E mas) s H fun y H1 => LG (Rep X.K) X.K X.mg E mo s H1 fun x H2 => ∃ a o, x = .ref a ∧ DGet H2 a y o ∧ Q (.bl (if neg then !o.isSome else o.isSome)) H2 := by
  obtain ⟨B, F, r, sl, C, hr, hs, o⟩ := q
  refine ⟨B, F, r, sl, C, hr, hs, Out.bind (P := Reps X.K) o fun x C1 F1 r1 H1 v e1 e2 hr1 hx o1 => ?_⟩
  simp only at o1
  split at o1
  case isFalse => exact False.elim o1
  rename_i hl
  refine ⟨by rw [← hx.length]; exact hl, fun p hp => ?_⟩
  have hF := same_new (o := HO.tup v) (hr1.freeF hp)
  refine ⟨B, upd F1 p (.tup v), r1, sl, C1, hr1.freeze hp, (hs.mono e1 e2).mono hF (.refl _), Out.bind (P := Rep X.K) (Out.mono o1 hF (.refl _)) fun y C2 F2 r2 H2 u e3 e4 hr2 hy o2 => ?_⟩
  have hp2 : H2 p = some (.tup v) := hr2.froz p _ (e3 p _ upd_same)
  simp only at o2
  split at o2
  · rename_i k kvs ks ed ek
    obtain ⟨a, ws, rfl, h1, h2, h3, h4, h5⟩ := dtAt_ok hr2 hy ed
    rw [keysOf_ok hx ek] at hp2
    refine ⟨a, valV ws ks, rfl, DGet.t h3 hp2, ?_⟩
    rw [← val_none h4]
    exact out_ok (d := .bl (if neg then !(valD kvs ks).isSome else (valD kvs ks).isSome)) hr2 rfl o2
  · exact False.elim o2
theorem ne_dinT {x1 : Nat} (hu : X.A.units + 64 < cLine) (ha : NA X E es mas) (ho : NE X E o mo) (hk : behindInMarks .In o = false := by rfl) : NE X E (.Compare (.Tuple es x1 p1) [.In] [o] pos) (mDInT false mas mo) :=
  ⟨pe_imp (pe_cmp (pc_din (show X.A.units + 1 < cLine by omega) (pe_tup ha.pa) ho.pe) hk) fun _ _ _ q => dinT_ok (neg := false) q⟩
theorem ne_dninT {x1 : Nat} (hu : X.A.units + 64 < cLine) (ha : NA X E es mas) (ho : NE X E o mo) (hk : behindInMarks .NotIn o = false := by rfl) : NE X E (.Compare (.Tuple es x1 p1) [.NotIn] [o] pos) (mDInT true mas mo) :=
  ⟨pe_imp (pe_cmp (pc_dnotin (show X.A.units + 1 < cLine by omega) (pe_tup ha.pa) ho.pe) hk) fun _ _ _ q => dinT_ok (neg := true) q⟩
theorem nt_dinT {x1 : Nat} (hu : X.A.units + 64 < cLine) (ha : NA X E es mas) (ho : NE X E o mo) (hk : behindInMarks .In o = false := by rfl) : NT X E (.Compare (.Tuple es x1 p1) [.In] [o] pos) (mT (mDInT false mas mo)) :=
  ⟨pt_imp (pt_cmp (pc_din (show X.A.units + 1 < cLine by omega) (pe_tup ha.pa) ho.pe) hk) (test fun _ _ _ q => dinT_ok (neg := false) q)⟩
theorem nt_dninT {x1 : Nat} (hu : X.A.units + 64 < cLine) (ha : NA X E es mas) (ho : NE X E o mo) (hk : behindInMarks .NotIn o = false := by rfl) : NT X E (.Compare (.Tuple es x1 p1) [.NotIn] [o] pos) (mT (mDInT true mas mo)) :=
  ⟨pt_imp (pt_cmp (pc_dnotin (show X.A.units + 1 < cLine by omega) (pe_tup ha.pa) ho.pe) hk) (test fun _ _ _ q => dinT_ok (neg := true) q)⟩
/-! flat keys -/
def dkAt (C : Store) : D → Option (Nat × List (Key × D))
  | .cell i => match C[i]? with
    | some (.dk kvs) => some (i, kvs)
    | _ => none
  | _ => none
theorem dkAt_ok {x : D} {v : V} {i : Nat} {kvs : List (Key × D)} (hr : Rel K B F r H C) (hx : Rep K F r x v) (e : dkAt C x = some (i, kvs)) :
    ∃ a ws, v = .ref a ∧ r[i]? = some a ∧ F a = none ∧ H a = some (.dK ws) ∧ kvs.map (·.1) = ws.map (·.1) ∧ Reps K F r (kvs.map (·.2)) (ws.map (·.2)) := by
  unfold dkAt at e
  split at e
  · split at e
    · rename_i ks ec
      cases e
      obtain ⟨a, rfl, ha⟩ := hx
      obtain ⟨h1, ws, h2, h3, h4⟩ := hr.cells _ _ a ec ha
      exact ⟨a, ws, rfl, ha, h1, h2, h3, h4⟩
    · cases e
  · cases e
/-- {} that will have flat keys -/
def mDNewK : ME := fun _ C => .ok (.cell C.length, C ++ [.dk []])
theorem ne_dnewK : NE X E (.Dict [] [] pos) mDNewK := ⟨pe_imp pe_dnewK fun s H Q q => by
    obtain ⟨B, F, r, sl, C, hr, hs, o⟩ := q
    intro p hp
    refine o F (r ++ [p]) _ _ (.refl _) (Ex.app r _) (hr.alloc hp ⟨hr.freeF hp, [], upd_same, rfl, rfl⟩) ⟨p, rfl, ?_⟩
    rw [← hr.len, List.getElem?_append_right (Nat.le_refl _)]
    simp⟩
/-- {}, a thing that nobody changes -/
def mDEmp : ME := fun _ C => .ok (.edct, C)
theorem ne_demp : NE X E (.Dict [] [] pos) mDEmp := ⟨pe_imp pe_dnewK fun s H Q q => by
    obtain ⟨B, F, r, sl, C, hr, hs, o⟩ := q
    intro p hp
    exact o (upd F p (.dK [])) r _ _ (same_new (hr.freeF hp)) (.refl r) (hr.freeze hp) ⟨p, rfl, upd_same⟩⟩
/-- d[k] -/
def mDGetK (mo mi : ME) : ME := fun sl C => (mo sl C).bind fun p => (mi sl p.2).bind fun q => match dkAt q.2 p.1, keyOf q.1 with
  | some (_, kvs), some k => match valD kvs k with
    | some d => .ok (d, q.2)
    | none => .no
  | _, _ => .no
theorem ne_dgetK (hu : X.A.units + 64 < cLine) (ho : NE X E o mo) (hi : NE X E i mi) (hs : NoSl i := by intro _ _; rfl) : NE X E (.Subscript o i pos) (mDGetK mo mi) :=
  ⟨pe_imp (pe_dget (show X.A.units + 1 < cLine by omega) ho.pe hi.pe hs) fun s H Q q => by
    obtain ⟨B, F, r, sl, C, hr, hs, o⟩ := q
    refine ⟨B, F, r, sl, C, hr, hs, Out.bind (P := Rep X.K) o fun x C1 F1 r1 H1 v e1 e2 hr1 hx o1 => ?_⟩
    refine ⟨B, F1, r1, sl, C1, hr1, hs.mono e1 e2, Out.bind (P := Rep X.K) o1 fun y C2 F2 r2 H2 u e3 e4 hr2 hy o2 => ?_⟩
    have hx2 := hx.mono e3 e4
    simp only at o2
    split at o2
    · rename_i n kvs k ed ek
      split at o2
      · rename_i d ev
        obtain ⟨a, ws, rfl, h1, h2, h3, h4, h5⟩ := dkAt_ok hr2 hx2 ed
        obtain ⟨w, g1, g2⟩ := val_ok h4 h5 ev
        refine ⟨a, w, rfl, ?_, out_ok hr2 g2 o2⟩
        rw [← g1, keyOf_ok hy ek]
        exact DGet.k h3
      · exact False.elim o2
    · exact False.elim o2⟩
/-- d.get(k), d.get(k, z) -/
def mDGet1 (mo mi : ME) : ME := fun sl C => (mo sl C).bind fun p => match dkAt p.2 p.1 with
  | some _ => (mi sl p.2).bind fun q => match dkAt q.2 p.1, keyOf q.1 with
    | some (_, kvs), some k => .ok ((valD kvs k).getD .non, q.2)
    | _, _ => .no
  | none => .no
theorem val_opt {kvs : List (Key × D)} {ws : List (Key × V)} {k : Key} {z : D} {zv : V} (h4 : kvs.map (·.1) = ws.map (·.1)) (h5 : Reps K F r (kvs.map (·.2)) (ws.map (·.2))) (hz : Rep K F r z zv) : Rep K F r ((valD kvs k).getD z) ((valV ws k).getD zv) := by
  cases ev : valD kvs k with
  | none =>
    have := val_none (k := k) h4
    rw [ev] at this
    cases ew : valV ws k with
    | none => exact hz
    | some w => rw [ew] at this; cases this
  | some d =>
    obtain ⟨w, g1, g2⟩ := val_ok h4 h5 ev
    rw [g1]
    exact g2
theorem ne_dget1 {apos : Pos} (hu : X.A.units + 64 < cLine) (ho : NE X E o mo) (hi : NE X E i mi) (m : M1 X o "get" apos i pos := by exact ⟨rfl, rfl, rfl, rfl⟩) : NE X E (.Call (.Attribute o "get" apos) [i] [] pos) (mDGet1 mo mi) :=
  ⟨pe_imp (pe_dget1 (show X.A.units + 1 < cLine by omega) ho.pe hi.pe m) fun s H Q q => by
    obtain ⟨B, F, r, sl, C, hr, hs, o⟩ := q
    refine ⟨B, F, r, sl, C, hr, hs, Out.bind (P := Rep X.K) o fun x C1 F1 r1 H1 v e1 e2 hr1 hx o1 => ?_⟩
    simp only at o1
    split at o1
    case h_2 => exact False.elim o1
    rename_i p0 ed0
    obtain ⟨n0, kvs0⟩ := p0
    obtain ⟨a, ws0, rfl, _, _, h30, _, _⟩ := dkAt_ok hr1 hx ed0
    refine ⟨a, rfl, .inl ⟨_, .inl h30⟩, B, F1, r1, sl, C1, hr1, hs.mono e1 e2, Out.bind (P := Rep X.K) o1 fun y C2 F2 r2 H2 u e3 e4 hr2 hy o2 => ?_⟩
    have hx2 := hx.mono e3 e4
    simp only at o2
    split at o2
    · rename_i n kvs k ed ek
      obtain ⟨a2, ws, ea, h1, h2, h3, h4, h5⟩ := dkAt_ok hr2 hx2 ed
      cases ea
      refine ⟨valV ws k, ?_, out_ok hr2 (val_opt (z := .non) h4 h5 rfl) o2⟩
      rw [keyOf_ok hy ek]
      exact DGet.k h3
    · exact False.elim o2⟩
/-- d[k] = v -/
def sDPutK (mv mo mi : ME) : MS := fun sl C => (mv sl C).bind fun t => (mo sl t.2).bind fun p => (mi sl p.2).bind fun q => match dkAt q.2 p.1, keyOf q.1 with
  | some (n, kvs), some k => if kvs.length < sizeLine then .ok ((.nx, sl), q.2.set n (.dk (putD kvs k t.1))) else .no
  | _, _ => .no
theorem ns_dputK (hu : X.A.units + 64 < cLine) (hv : NE X E value mv) (ho : NE X E o mo) (hi : NE X E i mi) (hs : swapsWith value (some (.Subscript o i p2)) pos.line X.env = pure false := by rfl) :
    NS X E (.Assign [.Subscript o i p2] value pos) (sDPutK mv mo mi) :=
  ⟨ps_imp (ps_dput (show X.A.units + 1 < cLine by omega) ho.pe hi.pe hv.pe hs) fun De s H q => by
    obtain ⟨B, F, r, sl, C, hr, hs, o⟩ := q
    refine ⟨B, F, r, sl, C, hr, hs, OutS.bind (P := Rep X.K) o fun d C0 F0 r0 H0 z k1 k2 hr0 hd o0 => ?_⟩
    refine ⟨B, F0, r0, sl, C0, hr0, hs.mono k1 k2, OutS.bind (P := Rep X.K) o0 fun x C1 F1 r1 H1 v e1 e2 hr1 hx o1 => ?_⟩
    refine ⟨B, F1, r1, sl, C1, hr1, (hs.mono k1 k2).mono e1 e2, OutS.bind (P := Rep X.K) o1 fun y C2 F2 r2 H2 u e3 e4 hr2 hy o2 => ?_⟩
    have hx2 := hx.mono e3 e4
    have hd2 := (hd.mono e1 e2).mono e3 e4
    simp only at o2
    split at o2
    · rename_i n kvs k ed ek
      split at o2
      · rename_i hl
        obtain ⟨a, ws, rfl, h1, h2, h3, h4, h5⟩ := dkAt_ok hr2 hx2 ed
        have hlen := congrArg List.length h4
        rw [List.length_map, List.length_map] at hlen
        refine ⟨a, _, rfl, ?_, OutS.next o2 (hr2.write (o := .dK (putK ws k z)) h1 h2 ⟨h2, _, upd_same, putD_keys h4, putD_reps h4 h5 hd2⟩) (((hs.mono k1 k2).mono e1 e2).mono e3 e4)⟩
        rw [keyOf_ok hy ek]
        exact DPut.k h3 (by omega)
      · exact False.elim o2
    · exact False.elim o2⟩
/-- k in d, not in d -/
def mDInK (neg : Bool) (mi mo : ME) : ME := fun sl C => (mi sl C).bind fun q => (mo sl q.2).bind fun p => match dkAt p.2 p.1, keyOf q.1 with
  | some (_, kvs), some k => .ok (.bl (if neg then !(valD kvs k).isSome else (valD kvs k).isSome), p.2)
  | _, _ => .no
theorem dinK_ok {neg : Bool} {s : L2.St} {H : Hp} {Q : VK} (q : LG (Rep X.K) X.K X.mg E (mDInK neg mi mo) s H Q) : LG (Rep X.K) X.K X.mg E mi s H fun y H1 => LG (Rep X.K) X.K X.mg E mo s H1 fun x H2 => ∃ a o, x = .ref a ∧ DGet H2 a y o ∧ Q (.bl (if neg then !o.isSome else o.isSome)) H2 := by
  obtain ⟨B, F, r, sl, C, hr, hs, o⟩ := q
  refine ⟨B, F, r, sl, C, hr, hs, Out.bind (P := Rep X.K) o fun x C1 F1 r1 H1 v e1 e2 hr1 hx o1 => ?_⟩
  refine ⟨B, F1, r1, sl, C1, hr1, hs.mono e1 e2, Out.bind (P := Rep X.K) o1 fun y C2 F2 r2 H2 u e3 e4 hr2 hy o2 => ?_⟩
  have hx2 := hx.mono e3 e4
  simp only at o2
  split at o2
  · rename_i n kvs k ed ek
    obtain ⟨a, ws, rfl, h1, h2, h3, h4, h5⟩ := dkAt_ok hr2 hy ed
    refine ⟨a, valV ws k, rfl, ?_, ?_⟩
    · rw [keyOf_ok hx2 ek]
      exact DGet.k h3
    · rw [← val_none h4]
      exact out_ok (d := .bl (if neg then !(valD kvs k).isSome else (valD kvs k).isSome)) hr2 rfl o2
  · exact False.elim o2
theorem ne_dinK (hu : X.A.units + 64 < cLine) (hi : NE X E i mi) (ho : NE X E o mo) (hk : behindInMarks .In o = false := by rfl) : NE X E (.Compare i [.In] [o] pos) (mDInK false mi mo) :=
  ⟨pe_imp (pe_cmp (pc_din (show X.A.units + 1 < cLine by omega) hi.pe ho.pe) hk) fun _ _ _ q => dinK_ok (neg := false) q⟩
theorem ne_dninK (hu : X.A.units + 64 < cLine) (hi : NE X E i mi) (ho : NE X E o mo) (hk : behindInMarks .NotIn o = false := by rfl) : NE X E (.Compare i [.NotIn] [o] pos) (mDInK true mi mo) :=
  ⟨pe_imp (pe_cmp (pc_dnotin (show X.A.units + 1 < cLine by omega) hi.pe ho.pe) hk) fun _ _ _ q => dinK_ok (neg := true) q⟩
theorem nt_dinK (hu : X.A.units + 64 < cLine) (hi : NE X E i mi) (ho : NE X E o mo) (hk : behindInMarks .In o = false := by rfl) : NT X E (.Compare i [.In] [o] pos) (mT (mDInK false mi mo)) :=
  ⟨pt_imp (pt_cmp (pc_din (show X.A.units + 1 < cLine by omega) hi.pe ho.pe) hk) (test fun _ _ _ q => dinK_ok (neg := false) q)⟩
theorem nt_dninK (hu : X.A.units + 64 < cLine) (hi : NE X E i mi) (ho : NE X E o mo) (hk : behindInMarks .NotIn o = false := by rfl) : NT X E (.Compare i [.NotIn] [o] pos) (mT (mDInK true mi mo)) :=
  ⟨pt_imp (pt_cmp (pc_dnotin (show X.A.units + 1 < cLine by omega) hi.pe ho.pe) hk) (test fun _ _ _ q => dinK_ok (neg := true) q)⟩
/-- len(d) -/
def gLenK (x : D) (C : Store) : RE := match dkAt C x with
  | some (_, kvs) => .ok (.int kvs.length, C)
  | none => .no
theorem lenKN : CallN K mg E (fun xs H Q => ∃ a kvs, xs = [V.ref a] ∧ H a = some (.dK kvs) ∧ Q (.int kvs.length) H) (on1 gLenK) := on1N fun B F r H C x v Q hr hx o => by
  unfold gLenK at o
  split at o
  · rename_i n kvs e
    obtain ⟨a, ws, rfl, h1, h2, h3, h4, h5⟩ := dkAt_ok hr hx e
    refine ⟨a, ws, rfl, h3, ?_⟩
    have hlen := congrArg List.length h4
    rw [List.length_map, List.length_map] at hlen
    rw [← hlen]
    exact out_ok (d := .int kvs.length) hr rfl o
  · exact False.elim o
/-! dict comprehensions -/
theorem wipe_twice : ∀ (own : List Nat) (s : L2.St), L2.wipe (L2.wipe s own) own = L2.wipe s own := by
  have none_stays : ∀ (l : List Nat) (x : Nat) (z : L2.St), z[x]? = some none ∨ z.length ≤ x → (wipe z l)[x]? = some none ∨ (wipe z l).length ≤ x := by
    intro l
    induction l with
    | nil => intro x z h; exact h
    | cons v vs ih =>
      intro x z h
      unfold wipe
      by_cases hv : v = x
      · subst hv
        by_cases hv2 : v < (wipe z vs).length
        · exact .inl (List.getElem?_set_self hv2)
        · exact .inr (by simpa using hv2)
      · rw [List.getElem?_set_ne hv, List.length_set]
        exact ih x z h
  have fix : ∀ (l : List Nat) (z : L2.St), (∀ x ∈ l, z[x]? = some none ∨ z.length ≤ x) → wipe z l = z := by
    intro l
    induction l with
    | nil => intro z _; rfl
    | cons v vs ih =>
      intro z h
      unfold wipe
      rw [ih z fun x hx => h x (List.mem_cons_of_mem _ hx)]
      rcases h v List.mem_cons_self with e | e
      · apply List.ext_getElem?
        intro j
        by_cases hj : v = j
        · subst hj
          rw [List.getElem?_set_self (List.getElem?_eq_some_iff.mp e).1, e]
        · rw [List.getElem?_set_ne hj]
      · rw [List.set_eq_of_length_le e]
  have done : ∀ (l : List Nat) (z : L2.St), ∀ x ∈ l, (wipe z l)[x]? = some none ∨ (wipe z l).length ≤ x := by
    intro l
    induction l with
    | nil => intro z x hx; cases hx
    | cons v vs ih =>
      intro z x hx
      unfold wipe
      by_cases hv : v = x
      · subst hv
        by_cases hv2 : v < (wipe z vs).length
        · exact .inl (List.getElem?_set_self hv2)
        · exact .inr (by simpa using hv2)
      · rw [List.getElem?_set_ne hv, List.length_set]
        exact ih z x ((List.mem_cons.mp hx).resolve_left (Ne.symm hv))
  exact fun own s => fix own _ (done own s)
open Classical in
noncomputable def dcM (g : MT) (t : MG Bool) (mk mv : ME) (gd : Gd) (sl : Sl) : List D → List (Key × D) → Store → R (List (Key × D) × Store)
  | [], kvs, C => if okG gd C then .ok (kvs, C) else .no
  | d :: ds, kvs, C => if okG gd C then (g d sl C).bind fun q => (t q.1 q.2).bind fun b => if b.1 = true then (mk q.1 b.2).bind fun k => (mv q.1 k.2).bind fun e => match keyOf k.1 with
      | some key => if kvs.length < sizeLine then dcM g t mk mv gd sl ds (putD kvs key e.1) e.2 else .no
      | none => .no
      else dcM g t mk mv gd sl ds kvs b.2
    else .no
noncomputable def mDc (own : List Nat) (mi : MI) (g : MT) (t : MG Bool) (mk mv : ME) : ME := fun sl C => (mi sl C).bind fun p => (R.calm (dcM g t mk mv p.1.2 (wipeS sl own) p.1.1 [] p.2)).bind fun z => .ok (.cell z.2.length, z.2 ++ [.dk z.1])
theorem dc_ok {own : List Nat} {mi : MI} {g : MT} {t : MG Bool} {mk mv : ME} : ∀ s H Q, LG (Rep K) K mg E (mDc own mi g t mk mv) s H Q → tDc (LI K mg E mi) (LT own K mg EN g) (LG PB K mg EN t) (LG (Rep K) K mg EN mk) (LG (Rep K) K mg EN mv) own s H Q := fun s H Q q => by
    obtain ⟨B, F, r, sl, C, hr, hs, o⟩ := q
    refine ⟨B, F, r, sl, C, hr, hs, Out.bind (P := fun F' r' k J => ∀ B', WalkN K B' J F' r' k) o fun k C1 F1 r1 H1 J e1 e2 hr1 hJ o1 => ?_⟩
    obtain ⟨ds, gd⟩ := k
    intro p hp
    simp only at o1
    obtain ⟨⟨out, Cn⟩, hdc, o1⟩ : ∃ z, dcM g t mk mv gd (wipeS sl own) ds [] C1 = .ok z ∧ Out (Rep K) K mg E B F1 r1 (.ok (.cell z.2.length, z.2 ++ [.dk z.1])) Q := by
      cases hl : dcM g t mk mv gd (wipeS sl own) ds [] C1 with
      | ok z => rw [hl] at o1; exact ⟨z, rfl, o1⟩
      | ex y Cy => rw [hl] at o1; exact False.elim o1
      | no => rw [hl] at o1; exact False.elim o1
    have hs1 := hs.mono e1 e2
    refine ⟨fun i n H2 => n = ds.length - i ∧ i ≤ ds.length ∧ ∃ F2 r2 C2 acc ws, Same F1 F2 ∧ Ex r1 r2 ∧ Rel K (upd B p (.dK ws)) F2 r2 H2 C2 ∧ acc.map (·.1) = ws.map (·.1) ∧ Reps K F2 r2 (acc.map (·.2)) (ws.map (·.2)) ∧ dcM g t mk mv gd (wipeS sl own) (ds.drop i) acc C2 = .ok (out, Cn),
      ⟨ds.length, by simp, Nat.zero_le _, F1, r1, C1, [], [], .refl _, .refl _, hr1.aside hp, rfl, Reps.nil, hdc⟩, ?_⟩
    rintro i n H2 ⟨rfl, hi, F2, r2, C2, acc, ws, e3, e4, hr2, hkeys, hacc, h2⟩
    have hJ := hJ (upd B p (.dK ws))
    by_cases hl : i < ds.length
    · have ed : ds[i]? = some ds[i] := List.getElem?_eq_getElem hl
      rw [List.drop_eq_getElem_cons hl] at h2
      unfold dcM at h2
      split at h2
      case isFalse => cases h2
      rename_i hok
      obtain ⟨⟨sl4, C4⟩, hg, h2⟩ := bind_okR h2
      obtain ⟨⟨bt, C5⟩, ht, h2⟩ := bind_okR h2
      refine .inr ⟨hJ.goes i F2 r2 H2 C2 hl e3 e4 hr2 hok, fun H3 => ∃ F2 r2 C2 acc ws, Same F1 F2 ∧ Ex r1 r2 ∧ Rel K (upd B p (.dK ws)) F2 r2 H3 C2 ∧ acc.map (·.1) = ws.map (·.1) ∧ Reps K F2 r2 (acc.map (·.2)) (ws.map (·.2)) ∧ dcM g t mk mv gd (wipeS sl own) (ds.drop (i + 1)) acc C2 = .ok (out, Cn),
        fun H3 h => ⟨ds.length - (i + 1), by omega, rfl, hl, h⟩, fun x H3 y => ?_⟩
      obtain ⟨F3, e5, hr3, hx⟩ := hJ.yields i _ F2 r2 H2 C2 x H3 ed e3 e4 hr2 hok y
      have hs3 : Sls K F3 r2 (wipeS sl own) (wipe s own) := Sls.wipe (hs1.mono (e3.trans e5) e4) own
      refine ⟨upd B p (.dK ws), F3, r2, wipeS sl own, C2, ds[i], hr3, hs3, hx, out_of hg fun F4 r4 H4 s4 e6 e7 hr4 hs4 => ?_⟩
      refine ⟨hs4.2.trans (wipe_twice own s), upd B p (.dK ws), F4, r4, sl4, C4, hr4, hs4.1, out_of ht fun F5 r5 H5 b e8 e9 hr5 hb => ?_⟩
      subst hb
      cases bt with
      | false =>
        rw [if_neg Bool.false_ne_true] at h2 ⊢
        exact ⟨F5, r5, C5, acc, ws, ((e3.trans e5).trans e6).trans e8, (e4.trans e7).trans e9, hr5, hkeys, hacc.mono ((e5.trans e6).trans e8) (e7.trans e9), h2⟩
      | true =>
        rw [if_pos rfl] at h2 ⊢
        obtain ⟨⟨kd, C6⟩, hm, h2⟩ := bind_okR h2
        obtain ⟨⟨ev, C7⟩, hm2, h2⟩ := bind_okR h2
        simp only at h2
        split at h2
        case h_2 => cases h2
        rename_i key hkey
        split at h2
        case isFalse => cases h2
        rename_i hz
        refine ⟨upd B p (.dK ws), F5, r5, sl4, C5, hr5, hs4.1.mono e8 e9, out_of hm fun F6 r6 H6 kv k1 k2 hr6 hk6 => ?_⟩
        refine ⟨upd B p (.dK ws), F6, r6, sl4, C6, hr6, (hs4.1.mono e8 e9).mono k1 k2, out_of hm2 fun F7 r7 H7 v k3 k4 hr7 hv => ?_⟩
        have hacc7 := hacc.mono ((((e5.trans e6).trans e8).trans k1).trans k3) (((e7.trans e9).trans k2).trans k4)
        have hlen := congrArg List.length hkeys
        rw [List.length_map, List.length_map] at hlen
        exact ⟨ws, key, keyOf_ok hk6 hkey, hr7.base p _ upd_same, by omega, F7, r7, C7, putD acc key ev, putK ws key v, ((((e3.trans e5).trans e6).trans e8).trans k1).trans k3, (((e4.trans e7).trans e9).trans k2).trans k4, hr7.asideSet, putD_keys hkeys, putD_reps hkeys hacc7 hv, h2⟩
    · have ei : i = ds.length := by omega
      subst ei
      rw [List.drop_length] at h2
      unfold dcM at h2
      split at h2
      case isFalse => cases h2
      rename_i hok
      cases h2
      refine .inl ⟨hJ.stops F2 r2 H2 _ e3 e4 hr2 hok, ?_⟩
      have hB : B p = none := Same.free hr1.base hp
      refine o1 F2 (r2 ++ [p]) H2 _ e3 (e4.trans (Ex.app r2 _)) (hr2.asideCell hB ⟨hr2.apart p _ upd_same, ws, hr2.base p _ upd_same, hkeys, hacc.mono (.refl _) (Ex.app r2 _)⟩) ⟨p, rfl, ?_⟩
      rw [← hr2.len, List.getElem?_append_right (Nat.le_refl _)]
      simp
theorem ne_dc {ifs : List Expr} {scope : Scope} (own : List (Str × Nat)) {mi : MI} {g : MT} {t : MG Bool} {mk mv : ME} (hc : X.calm = true) (hN : X.N.Nodup) (hi : NI X E tg it mi) (ok : BlkOk X.N X.env.scope scope own)
    (hg : ∀ (s : Shared) (H : Hp) (C : Addr) (cl : List (Str × Addr)) (fp : List Addr), NG (X.blk s H scope (compEnvC scope cl C X.env) fp) EN (own.map (·.2)) tg g)
    (ht : ∀ (s : Shared) (H : Hp) (C : Addr) (cl : List (Str × Addr)) (fp : List Addr), NTs (X.blk s H scope (compEnvC scope cl C X.env) fp) ifs t)
    (hk : ∀ (s : Shared) (H : Hp) (C : Addr) (cl : List (Str × Addr)) (fp : List Addr), NE (X.blk s H scope (compEnvC scope cl C X.env) fp) EN kx mk)
    (hv : ∀ (s : Shared) (H : Hp) (C : Addr) (cl : List (Str × Addr)) (fp : List Addr), NE (X.blk s H scope (compEnvC scope cl C X.env) fp) EN vx mv)
    (hs : ∀ x, foldedSetIterable it X.env x = pure x := by intro _; rfl) : NE X E (.DictComp kx vx [⟨tg, it, ifs, 0⟩] scope pos) (mDc (own.map (·.2)) mi g t mk mv) :=
  ⟨pe_imp (pe_dc (own := own) hc hN hi.pi ok (fun s H C cl fp => (hg s H C cl fp).pg) (fun s H C cl fp => (ht s H C cl fp).pt) (fun s H C cl fp => (hk s H C cl fp).pe) (fun s H C cl fp => (hv s H C cl fp).pe) hs) dc_ok⟩
end
/-! reasoning -/
section
variable {QD : D → Store → Prop} {QS : Fl → Sl → Store → Prop} {sl : Sl} {C : Store} {m mo mi mv : ME} {mas : MG (List D)} {n : Nat}
theorem w_dinT {neg : Bool} (h : W (mas sl C) fun ys C1 => ys.length ≤ sizeLine ∧ W (mo sl C1) fun x C2 => ∃ i kvs ks, x = .cell i ∧ C2[i]? = some (.dt kvs) ∧ keysOf ys = some ks ∧ QD (.bl (if neg then !(valD kvs ks).isSome else (valD kvs ks).isSome)) C2) : W (mDInT neg mas mo sl C) QD :=
  W.bind (h.imp fun ys C1 h => by
    simp only [if_pos h.1]
    exact W.bind (h.2.imp fun x C2 h => by
      obtain ⟨i, kvs, ks, rfl, h1, h2, q⟩ := h
      have e : dtAt C2 (.cell i) = some (i, kvs) := by unfold dtAt; simp only [h1]
      simp only [e, h2]
      exact W.ok q))
theorem w_dnewK (h : QD (.cell C.length) (C ++ [.dk []])) : W (mDNewK sl C) QD := W.ok h
theorem w_demp (h : QD .edct C) : W (mDEmp sl C) QD := W.ok h
theorem dkAt_c {i : Nat} {kvs : List (Key × D)} (h1 : C[i]? = some (.dk kvs)) : dkAt C (.cell i) = some (i, kvs) := by unfold dkAt; simp only [h1]
theorem w_dgetK (h : W (mo sl C) fun x C1 => W (mi sl C1) fun y C2 => ∃ i kvs k d, x = .cell i ∧ C2[i]? = some (.dk kvs) ∧ keyOf y = some k ∧ valD kvs k = some d ∧ QD d C2) : W (mDGetK mo mi sl C) QD :=
  W.bind (h.imp fun x C1 h => W.bind (h.imp fun y C2 h => by
    obtain ⟨i, kvs, k, d, rfl, h1, h2, h3, q⟩ := h
    simp only [dkAt_c h1, h2, h3]
    exact W.ok q))
theorem w_dget1 (h : W (mo sl C) fun x C1 => ∃ i kvs0, x = .cell i ∧ C1[i]? = some (.dk kvs0) ∧ W (mi sl C1) fun y C2 => ∃ kvs k, C2[i]? = some (.dk kvs) ∧ keyOf y = some k ∧ QD ((valD kvs k).getD .non) C2) : W (mDGet1 mo mi sl C) QD :=
  W.bind (h.imp fun x C1 h => by
    obtain ⟨i, kvs0, rfl, h0, h⟩ := h
    simp only [dkAt_c h0]
    exact W.bind (h.imp fun y C2 h => by
      obtain ⟨kvs, k, h1, h2, q⟩ := h
      simp only [dkAt_c h1, h2]
      exact W.ok q))
theorem w_dputK (h : W (mv sl C) fun d C0 => W (mo sl C0) fun x C1 => W (mi sl C1) fun y C2 => ∃ i kvs k, x = .cell i ∧ C2[i]? = some (.dk kvs) ∧ keyOf y = some k ∧ kvs.length < sizeLine ∧ QS .nx sl (C2.set i (.dk (putD kvs k d)))) : WS (sDPutK mv mo mi sl C) QS :=
  W.bindS (h.imp fun d C0 h => W.bindS (h.imp fun x C1 h => W.bindS (h.imp fun y C2 h => by
    obtain ⟨i, kvs, k, rfl, h1, h2, h3, q⟩ := h
    simp only [dkAt_c h1, h2, if_pos h3]
    exact WS.ok q)))
theorem w_dinK {neg : Bool} (h : W (mi sl C) fun y C1 => W (mo sl C1) fun x C2 => ∃ i kvs k, x = .cell i ∧ C2[i]? = some (.dk kvs) ∧ keyOf y = some k ∧ QD (.bl (if neg then !(valD kvs k).isSome else (valD kvs k).isSome)) C2) : W (mDInK neg mi mo sl C) QD :=
  W.bind (h.imp fun y C1 h => W.bind (h.imp fun x C2 h => by
    obtain ⟨i, kvs, k, rfl, h1, h2, q⟩ := h
    simp only [dkAt_c h1, h2]
    exact W.ok q))
theorem w_lenK {i : Nat} {kvs : List (Key × D)} (h1 : C[i]? = some (.dk kvs)) (q : QD (.int kvs.length) C) : W (on1 gLenK [.cell i] C) QD := by
  refine W.of (a := .int kvs.length) (C := C) ?_ q
  show gLenK (.cell i) C = _
  unfold gLenK
  simp only [dkAt_c h1]
/-- a dict comprehension over things told by a list, with no effect -/
theorem w_dcA {A : Type} {φ : A → D} {l : List A} {g : MT} {t : MG Bool} {mk : ME} {gd : Gd} {p : A → Bool} {kf : A → Key} {vf : A → D} {Q : List (Key × D) → Store → Prop} (hg : okG gd C) (hl : l.length ≤ 1000000)
    (step : ∀ (i : Nat) (a : A), l[i]? = some a → W (g (φ a) sl C) fun sl1 C1 => W (t sl1 C1) fun b C2 => b = p a ∧ C2 = C ∧ (p a = true → W (mk sl1 C) fun y C3 => W (mv sl1 C3) fun e C4 => keyOf y = some (kf a) ∧ e = vf a ∧ C4 = C))
    (q : Q ((l.filter p).foldl (fun kvs a => putD kvs (kf a) (vf a)) []) C) : W (dcM g t mk mv gd sl (l.map φ) [] C) Q := by
  suffices h : ∀ (es : List A) (pre : List A) (kvs : List (Key × D)), l = pre ++ es → kvs.length ≤ pre.length → Q ((es.filter p).foldl (fun kvs a => putD kvs (kf a) (vf a)) kvs) C → W (dcM g t mk mv gd sl (es.map φ) kvs C) Q from
    h l [] [] rfl (Nat.le_refl _) q
  intro es
  induction es with
  | nil =>
    intro pre kvs _ _ q
    unfold dcM
    simp only [List.map_nil]
    rw [if_pos hg]
    exact W.ok q
  | cons a es ih =>
    intro pre kvs e hk q
    have ha : l[pre.length]? = some a := by rw [e]; simp
    simp only [List.map_cons]
    unfold dcM
    rw [if_pos hg]
    refine W.bind ((step _ a ha).imp fun sl1 C1 h => W.bind (h.imp fun b C2 h => ?_))
    obtain ⟨rfl, rfl, h⟩ := h
    by_cases hp : p a = true
    · simp only [hp, if_true]
      refine W.bind ((h hp).imp fun y C3 h => W.bind (W.imp h fun e2 C4 h => ?_))
      obtain ⟨h1, rfl, rfl⟩ := h
      have hlen : l.length = pre.length + (es.length + 1) := by rw [e]; simp
      simp only [h1]
      rw [if_pos (Nat.lt_of_lt_of_le (by omega : kvs.length < 10000000) (by decide))]
      refine ih (pre ++ [a]) _ (by rw [e]; simp) ?_ ?_
      · have : ∀ (kvs : List (Key × D)) k d, (putD kvs k d).length ≤ kvs.length + 1 := fun kvs k d => by
          unfold putD
          split <;> simp
        have := this kvs (kf a) (vf a)
        simp
        omega
      · rw [List.filter_cons_of_pos hp] at q
        exact q
    · simp only [hp]
      refine ih (pre ++ [a]) kvs (by rw [e]; simp) (by simp; omega) ?_
      rw [List.filter_cons_of_neg hp] at q
      exact q
theorem w_mDc {own : List Nat} {mi : MI} {g : MT} {t : MG Bool} {mk : ME} (h : W (mi sl C) fun k C1 => W (dcM g t mk mv k.2 (wipeS sl own) k.1 [] C1) fun kvs C2 => QD (.cell C2.length) (C2 ++ [.dk kvs])) : W (mDc own mi g t mk mv sl C) QD := W.bind (h.imp fun k C1 h => W.bind ((W.calm h).imp fun kvs C2 h => W.ok h))
end
end Nv

namespace Nv
open PySem PySem.Spec PyProof.Rows L2
/-! sets of whole numbers, made by a comprehension and asked at once -/
def addI (acc : List Int) (k : Int) : List Int := if acc.any (· == k) then acc else acc ++ [k]
def SiO (w : World) (a : Addr) (S : Int → Bool) (n : Nat) : HO := .ext fun h => SetR w h a S n
theorem siO_new {w : World} {P : Program} {H : Hp} {h : Heap} {a : Addr} {S : Int → Bool} {n : Nat} (R : SetR w h a S n) : ObjOk P w H h a (SiO w a S n) :=
  ⟨R, let ⟨o, _, _, _, ho, _⟩ := R; ⟨o, ho⟩, fun _ _ p k => p.at k⟩
section
variable {X : Cx}
theorem siO_get {pins : List (Addr × Obj)} {σ : L2.St} {H : Hp} {s : Shared} {a : Addr} {S : Int → Bool} {n : Nat} (I : Inv X pins σ H s) (e : H a = some (SiO X.w a S n)) : SetR X.w s.heap a S n := (I.hok a _ e).1
theorem siO_add {pins : List (Addr × Obj)} {σ : L2.St} {H : Hp} {s : Shared} {E : Value → Shared → Prop} {a : Addr} {S : Int → Bool} {n : Nat} {k : Int} {tk : Tok} {Q : Value → Shared → Prop} (I : Inv X pins σ H s) (e : H a = some (SiO X.w a S n)) (room : n + 1 < scanBound)
    (q : ∀ s', Inv X pins σ (upd H a (SiO X.w a (fun j => S j || decide (j = k)) (if S k = true then n else n + 1))) s' → Q .none s') : wpAny (model X.prog X.w) X.A (call (.builtin "set.add") [.ref a, .int k tk]) Q E s := by
  refine setR_add (siO_get I e) room fun h' sb R => q _ ?_
  have there : ∃ u, h'.get? a = some u := let ⟨o, _, _, _, ho, _⟩ := R; ⟨o, ho⟩
  exact I.write (e := a) (t' := s.toks + 1) (by rw [e]; trivial) (.inl rfl) (fun b u hb hu => (sb.2 b hb).trans hu) there (siO_new R)
/-- {elt for tg in it ..}: the new set stands at p -/
def tSi (w : World) (wi : TI) (g : TG) (tt : TT) (te : TE) (vs : List Nat) : TE := fun σ H Q => wi σ H fun J H1 => ∀ p, H1 p = none → ∃ V : Nat → Nat → Hp → Prop, (∃ m, V 0 m (upd H1 p (SiO w p (fun _ => false) 0))) ∧ ∀ i m H, V i m H →
  (J.stop i H ∧ Q (.ref p) H) ∨ (J.go i H ∧ ∃ Z : Hp → Prop, (∀ H', Z H' → ∃ m', m' < m ∧ V (i + 1) m' H') ∧ ∀ x H', J.yld i H x H' → g x (wipe σ vs) H' fun σ2 H2 => wipe σ2 vs = wipe σ vs ∧ tt σ2 H2 fun b H3 =>
    if b = true then te σ2 H3 fun y H4 => ∃ (k : Int) (S : Int → Bool) (n : Nat), y = .int k ∧ H4 p = some (SiO w p S n) ∧ n + 1 < scanBound ∧ Z (upd H4 p (SiO w p (fun j => S j || decide (j = k)) (if S k = true then n else n + 1))) else Z H3)
theorem si_core {pins : List (Addr × Obj)} {s : Shared} {σ : L2.St} {H : Hp} {Q : VK} {elt tg iter : Expr} {ifs : List Expr} {scope : Scope} {own : List (Str × Nat)} {pos pos' : Pos} {wi : TI} {g : TG} {tt : TT} {te : TE} {use : Option (Value → Sem Unit)} {Qf : Value → Shared → Prop}
    (calm : X.calm = true) (nd : X.N.Nodup) (I : Inv X pins σ H s) (pi : PI X tg iter wi) (bk : BlkOk X.N X.env.scope scope own)
    (qg : ∀ (s : Shared) (H : Hp) (C : Addr) (cl : List (Str × Addr)) (fp : List Addr), PG (X.blk s H scope (compEnvC scope cl C X.env) fp) tg g)
    (qt : ∀ (s : Shared) (H : Hp) (C : Addr) (cl : List (Str × Addr)) (fp : List Addr), PTs (X.blk s H scope (compEnvC scope cl C X.env) fp) ifs tt)
    (qe : ∀ (s : Shared) (H : Hp) (C : Addr) (cl : List (Str × Addr)) (fp : List Addr), PE (X.blk s H scope (compEnvC scope cl C X.env) fp) elt te) (unf : ∀ x, foldedSetIterable iter X.env x = pure x)
    (rd : tSi X.w wi g tt te (own.map (·.2)) σ H Q)
    (back : ∀ p C s' m H', Inv X pins σ H' s' → Q (.ref p) H' → s'.heap.Ns C m → FpOk X pins H' C → compPost (model X.prog X.w) X.A X.xe use Qf (.ref p) C (.ok .next) s') :
    wpAny (model X.prog X.w) X.A (comprehension (.SetComp elt [⟨tg, iter, ifs, 0⟩] scope pos) scope X.env pos' (newSet (.type "set")) false (eval iter X.env) use) Qf X.xe s := by
  have frees : ∀ y ∈ scope.names, y.2 = .free → ∃ c, X.env.cells.lookup y.1 = some c := fun y hy e => (bk.free y hy e).elim (fun k => I.ok.has _ (.inl k)) fun k => I.ok.has _ (.inr k)
  refine wpAny_comprehension_free (use := use) rfl unf (closure_ok frees) bk.kind (fun y hy e => by rw [bk.uniq y hy, e]) (thn (pi.run pins s σ H _ I rd) fun xv s1 hx => thn hx fun itv s2 h2 => ?_)
  obtain ⟨it, fp, tn, J, H2, rfl, I2, T, st2, f2, q⟩ := h2
  refine PpSet.newSet_ok (newEnv_comp ?_)
  generalize ep : s2.heap.objs.size = p
  obtain ⟨V, ⟨m0, v0⟩, turn⟩ := q p (I2.hok.fresh (Nat.le_of_eq ep))
  generalize e3 : ({ s2 with heap := s2.heap.push { cls := .type "set", dict := none, data := .set #[] 0 (.fresh 0 0 (!X.w.params.followText "set-order")) } } : Shared) = s3
  have I3 : Inv X pins σ (upd H2 p (SiO X.w p (fun _ => false) 0)) s3 := by
    rw [← e3]
    refine I2.laid (t' := s2.toks) (fun b o e => Heap.get?_push_of_some _ e) (Nat.le_of_eq ep) ?_
    rw [← ep]
    exact siO_new (setR_fresh X.w)
  have g3 : s3.heap = s2.heap.push { cls := .type "set", dict := none, data := .set #[] 0 (.fresh 0 0 (!X.w.params.followText "set-order")) } := by rw [← e3]
  have low : ∀ b ∈ fp, b < s2.heap.objs.size := fun b hb => let ⟨_, e, _⟩ := T.obj _ _ st2 b hb; Heap.lt_size e
  have f3 : ∀ b ∈ fp, FpOk X pins (upd H2 p (SiO X.w p (fun _ => false) 0)) b ∧ b < s3.heap.objs.size := fun b hb => by
    have hlt := low b hb
    have hbp : b ≠ p := fun z => Nat.ne_of_lt hlt (z.trans ep.symm)
    exact ⟨⟨by rw [upd_ne hbp]; exact (f2 b hb).1, (f2 b hb).2⟩, by rw [g3, Heap.size_push]; exact Nat.lt_succ_of_lt hlt⟩
  have st3 : tn 0 s3.heap := T.keep _ _ _ st2 fun b _ o e => g3 ▸ Heap.get?_push_of_some _ e
  have I4 := block_start I3 bk nd f3
  have rg := qg s3 (upd H2 p (SiO X.w p (fun _ => false) 0)) s3.heap.objs.size (cellsFrom (s3.heap.objs.size + 1) scope.names (cloFrom X.env.cells scope.names [])) fp
  have rt := qt s3 (upd H2 p (SiO X.w p (fun _ => false) 0)) s3.heap.objs.size (cellsFrom (s3.heap.objs.size + 1) scope.names (cloFrom X.env.cells scope.names [])) fp
  have re := qe s3 (upd H2 p (SiO X.w p (fun _ => false) 0)) s3.heap.objs.size (cellsFrom (s3.heap.objs.size + 1) scope.names (cloFrom X.env.cells scope.names [])) fp
  show codeAny _ _ (.compStart (.SetComp elt [⟨tg, iter, ifs, 0⟩] scope pos) 0 (.ref it) (.ref p) (compEnvC scope (cellsFrom (s3.heap.objs.size + 1) scope.names (cloFrom X.env.cells scope.names [])) s3.heap.objs.size X.env)) (compPost (model X.prog X.w) X.A X.xe use Qf (.ref p) s3.heap.objs.size) { s3 with heap := pushCells (s3.heap.push { cls := .type "dict", data := .dict #[] }) scope.names }
  have off : ∀ b ∈ fp, (upd H2 p (SiO X.w p (fun _ => false) 0)) b = none := fun b hb => (f3 b hb).1.1
  generalize ece : compEnvC scope (cellsFrom (s3.heap.objs.size + 1) scope.names (cloFrom X.env.cells scope.names [])) s3.heap.objs.size X.env = ce at I4 rg rt re ⊢
  have lce : ce.locals = s3.heap.objs.size := ece ▸ rfl
  generalize eH3 : upd H2 p (SiO X.w p (fun _ => false) 0) = H3 at I3 I4 rg rt re v0 off f3
  generalize e4 : ({ s3 with heap := pushCells (s3.heap.push { cls := .type "dict", data := .dict #[] }) scope.names } : Shared) = s4 at I4 ⊢
  have st4 : tn 0 s4.heap := T.keep _ _ _ st3 fun b _ o e => e4 ▸ pushCells_keeps _ _ _ _ (Heap.get?_push_of_some _ e)
  have apart : ∀ {σ' : L2.St} {H' : Hp} {s' : Shared}, Inv (X.blk s3 H3 scope ce fp) [] σ' H' s' → (∀ b ∈ fp, H' b = none) → ∀ b ∈ fp, FpOk (X.blk s3 H3 scope ce fp) [] H' b := fun I' no b hb =>
    ⟨no b hb, (I'.ok.exf b hb).1, I'.ok.exfs b hb, .inl hb, (I'.ok.exf b hb).2, fun z hz => absurd (show z ∈ ([] : List (Addr × Obj)) ++ [] from hz) (by simp)⟩
  have loop : codeAny (model X.prog X.w) X.A (.compLoop (.SetComp elt [⟨tg, iter, ifs, 0⟩] scope pos) 0 (.ref it) (.ref p) ce) (compPost (model X.prog X.w) X.A X.xe use Qf (.ref p) s3.heap.objs.size) s4 := by
    refine PpSet.compLoopS_any (fun n s' => ∃ i H', Inv (X.blk s3 H3 scope ce fp) [] (wipe σ (own.map (·.2))) H' s' ∧ tn i s'.heap ∧ (∀ b ∈ fp, H' b = none) ∧ V i n H') ?_ m0 ⟨0, H3, I4, st4, off, v0⟩
    rintro n s5 ⟨i, H5, I5, st5, n5, v5⟩
    rcases turn i n H5 v5 with ⟨stop, qq⟩ | ⟨go, Z, hZ, move⟩
    · refine thnF (T.done (X.blk s3 H3 scope ce fp) rfl rfl rfl calm i [] s5 _ H5 (fun _ _ => False) I5 (apart I5 n5) st5 stop) fun r s6 ⟨er, I6⟩ => ?_
      subst er
      have I7 : Inv X pins σ H5 s6 := I3.call' (ch := fp) I6.os I6.base I6.hok I6.bare fun b hb => let z := (f3 b hb).1.2; ⟨z.2.2.1, z.1, z.2.2.2.1, z.2.2.2.2⟩
      have none5 : H5 s3.heap.objs.size = none := lce ▸ (I6.free : H5 ce.locals = none)
      obtain ⟨m, nsm, _⟩ := I6.loc
      exact back p s3.heap.objs.size s6 m H5 I7 qq (lce ▸ (nsm : s6.heap.Ns ce.locals m)) (I3.fpOk (Nat.le_refl _) none5)
    · refine thnF (T.item (X.blk s3 H3 scope ce fp) rfl rfl rfl calm i [] s5 _ H5 (fun _ _ => False) I5 (apart I5 n5) st5 go) fun r s6 ⟨u, er, h6⟩ => ?_
      subst er
      refine thnF h6 fun _ s7 ⟨x, H7, I7, r7, y7, st7, n7⟩ => ?_
      refine thnF (rg.run _ s7 _ H7 x u _ (I7.pinned (apart I7 n7) (T.obj _ _ st7)) r7 (move x H7 y7)) fun _ s8 ⟨σ8, H8, I8, w8, q8⟩ => ?_
      refine thnF (rt.run _ s8 σ8 H8 _ I8 q8) fun b s9 ⟨H9, I9, q9⟩ => ?_
      have close : ∀ {s' : Shared} {H' : Hp}, Inv (X.blk s3 H3 scope ce fp) ([] ++ pinsAt fp s7.heap) σ8 H' s' → Z H' → ∃ m, m < n ∧ ∃ i H', Inv (X.blk s3 H3 scope ce fp) [] (wipe σ (own.map (·.2))) H' s' ∧ tn i s'.heap ∧ (∀ b ∈ fp, H' b = none) ∧ V i m H' := fun {s' H'} I' z => by
        obtain ⟨m', hm, v'⟩ := hZ H' z
        have pin : ∀ b ∈ fp, ∀ o, s7.heap.get? b = some o → s'.heap.get? b = some o ∧ H' b = none := fun b hb o e =>
          let k := I'.pin (b, o) (List.mem_append_right _ (List.mem_append_right _ (mem_pinsAt hb e)))
          ⟨k.1, k.2.1⟩
        refine ⟨m', hm, i + 1, H', (I'.unpinned (pins := [])).weak (by rw [← w8, wipe_length]) (fun j v e => (wipe_some (w8 ▸ e)).1), T.keep _ _ _ st7 fun b hb o e => (pin b hb o e).1, fun b hb => ?_, v'⟩
        exact let ⟨o, e, _⟩ := T.obj _ _ st7 b hb; (pin b hb o e).2
      cases b with
      | false =>
        rw [if_neg Bool.false_ne_true] at q9 ⊢
        exact close I9 q9
      | true =>
        rw [if_pos rfl] at q9 ⊢
        refine thnF (re.run _ s9 σ8 H9 _ I9 q9) fun z s10 ⟨yv, H10, I10, r10, k, S0, n0, ey, at10, room, nx⟩ => ?_
        subst ey
        obtain ⟨tk, rfl⟩ : ∃ tk, z = Value.int k tk := r10
        exact siO_add (X := X.blk s3 H3 scope ce fp) I10 at10 room fun s11 I11 => close I11 nx
  exact PpSet.codeAny_compStart_set loop (T.self X.A 0 _ _ _ st4 loop)
theorem pe_si {elt tg iter : Expr} {ifs : List Expr} {scope : Scope} {own : List (Str × Nat)} {pos : Pos} {wi : TI} {g : TG} {tt : TT} {te : TE} (calm : X.calm = true) (nd : X.N.Nodup) (pi : PI X tg iter wi) (bk : BlkOk X.N X.env.scope scope own)
    (qg : ∀ (s : Shared) (H : Hp) (C : Addr) (cl : List (Str × Addr)) (fp : List Addr), PG (X.blk s H scope (compEnvC scope cl C X.env) fp) tg g)
    (qt : ∀ (s : Shared) (H : Hp) (C : Addr) (cl : List (Str × Addr)) (fp : List Addr), PTs (X.blk s H scope (compEnvC scope cl C X.env) fp) ifs tt)
    (qe : ∀ (s : Shared) (H : Hp) (C : Addr) (cl : List (Str × Addr)) (fp : List Addr), PE (X.blk s H scope (compEnvC scope cl C X.env) fp) elt te) (unf : ∀ x, foldedSetIterable iter X.env x = pure x := by intro _; rfl) :
    PE X (.SetComp elt [⟨tg, iter, ifs, 0⟩] scope pos) (tSi X.w wi g tt te (own.map (·.2))) := ⟨fun pins s σ H Q I h => by
  rw [PpSet.eval_SetComp]
  exact si_core calm nd I pi bk qg qt qe unf h fun p C s' m H' I' q ns f => ⟨m, ns, fun h'' sb =>
    ⟨.ref p, H', I'.turned (t' := s'.toks) (fun b o hb e => (sb.2 b hb).trans e) f.1 f.2.1 f.2.2.2.1 f.2.2.2.2.1 f.2.2.2.2.2, rfl, q⟩⟩⟩
/-- len of such a set -/
def rLenSi (w : World) : List V → Hp → VK → Prop := fun xs H Q => ∃ a S n, xs = [V.ref a] ∧ H a = some (SiO w a S n) ∧ Q (.int n) H
theorem call_lenSi : CallR X (.builtin "len") (rLenSi X.w) := fun pins s σ H xs us Q I r h => by
  obtain ⟨a, S, n, rfl, ha, q⟩ := h
  obtain ⟨u, rfl, ru⟩ := vals1 r
  cases ru
  obtain ⟨o, es, ep, t, ho, hex, hd, _, _, _, hlt, hf, hn, _⟩ := siO_get I ha
  have small : es.size < 4096 := hlt
  exact call_len_set ho hex hd hf (by omega) ⟨.int n, H, I.tok _, ⟨_, by rw [hn]⟩, q⟩
/-- sorted(..) of such a set, of fewer than sixty-four -/
def rSortSi (w : World) : List V → Hp → VK → Prop := fun xs H Q => ∃ a S n, xs = [V.ref a] ∧ H a = some (SiO w a S n) ∧ n < 64 ∧ ∀ (p : Addr) (ns : List Int), ns.Pairwise (· < ·) → (∀ k, k ∈ ns ↔ S k = true) → H p = none → Q (.ref p) (upd H p (.lst (ns.map V.int)))
end
section
variable {K : PySem.W.Frag} {mg : Str → Option Value} {E : XK} {X : Cx} {tg it elt : Expr} {pos p1 p2 : Pos}
open Classical in
noncomputable def scM (g : MT) (t : MG Bool) (m : ME) (gd : Gd) (sl : Sl) : List D → List Int → Store → R (List Int × Store)
  | [], acc, C => if okG gd C then .ok (acc, C) else .no
  | d :: ds, acc, C => if okG gd C then (g d sl C).bind fun q => (t q.1 q.2).bind fun b => if b.1 = true then (m q.1 b.2).bind fun e => match e.1 with
      | .int k => if acc.length < 4000 then scM g t m gd sl ds (addI acc k) e.2 else .no
      | _ => .no
      else scM g t m gd sl ds acc b.2
    else .no
noncomputable def mSc (fin : List Int → Store → RE) (own : List Nat) (mi : MI) (g : MT) (t : MG Bool) (m : ME) : ME := fun sl C => (mi sl C).bind fun p => (R.calm (scM g t m p.1.2 (wipeS sl own) p.1.1 [] p.2)).bind fun z => fin z.1 z.2
theorem addI_any (acc : List Int) (k j : Int) : (addI acc k).any (· == j) = (acc.any (· == j) || decide (j = k)) := by
  unfold addI
  by_cases h : acc.any (· == k) = true
  · rw [if_pos h]
    by_cases e : j = k
    · subst e
      rw [h]
      rfl
    · rw [decide_eq_false e, Bool.or_false]
  · rw [if_neg h, List.any_append]
    congr 1
    by_cases e : j = k
    · simp [e]
    · rw [decide_eq_false e]
      simp
      exact fun z => e z.symm
theorem addI_len (acc : List Int) (k : Int) : (addI acc k).length = if acc.any (· == k) = true then acc.length else acc.length + 1 := by
  unfold addI
  split <;> simp
theorem sc_ok {fin : List Int → Store → RE} {own : List Nat} {mi : MI} {g : MT} {t : MG Bool} {m : ME} {s : L2.St} {H : Hp} {Q Q2 : VK}
    (hfin : ∀ (B F : Hp) (r : List Addr) (H : Hp) (C : Store) (acc : List Int) (p : Addr), B p = none → Rel K (upd B p (SiO X.w p (fun j => acc.any (· == j)) acc.length)) F r H C → H p = some (SiO X.w p (fun j => acc.any (· == j)) acc.length) → Out (Rep K) K mg E B F r (fin acc C) Q → Q2 (.ref p) H)
    (q : LG (Rep K) K mg E (mSc fin own mi g t m) s H Q) : tSi X.w (LI K mg E mi) (LT own K mg EN g) (LG PB K mg EN t) (LG (Rep K) K mg EN m) own s H Q2 := by
    obtain ⟨B, F, r, sl, C, hr, hs, o⟩ := q
    refine ⟨B, F, r, sl, C, hr, hs, Out.bind (P := fun F' r' k J => ∀ B', WalkN K B' J F' r' k) o fun k C1 F1 r1 H1 J e1 e2 hr1 hJ o1 => ?_⟩
    obtain ⟨ds, gd⟩ := k
    intro p hp
    simp only at o1
    obtain ⟨⟨out, Cn⟩, hsc, o1⟩ : ∃ z, scM g t m gd (wipeS sl own) ds [] C1 = .ok z ∧ Out (Rep K) K mg E B F1 r1 (fin z.1 z.2) Q := by
      cases hl : scM g t m gd (wipeS sl own) ds [] C1 with
      | ok z => rw [hl] at o1; exact ⟨z, rfl, o1⟩
      | ex y Cy => rw [hl] at o1; exact False.elim o1
      | no => rw [hl] at o1; exact False.elim o1
    have hs1 := hs.mono e1 e2
    refine ⟨fun i n H2 => n = ds.length - i ∧ i ≤ ds.length ∧ ∃ F2 r2 C2 acc, Same F1 F2 ∧ Ex r1 r2 ∧ Rel K (upd B p (SiO X.w p (fun j => acc.any (· == j)) acc.length)) F2 r2 H2 C2 ∧ scM g t m gd (wipeS sl own) (ds.drop i) acc C2 = .ok (out, Cn),
      ⟨ds.length, by simp, Nat.zero_le _, F1, r1, C1, [], .refl _, .refl _, hr1.aside hp, hsc⟩, ?_⟩
    rintro i n H2 ⟨rfl, hi, F2, r2, C2, acc, e3, e4, hr2, h2⟩
    have hJ := hJ (upd B p (SiO X.w p (fun j => acc.any (· == j)) acc.length))
    by_cases hl : i < ds.length
    · have ed : ds[i]? = some ds[i] := List.getElem?_eq_getElem hl
      rw [List.drop_eq_getElem_cons hl] at h2
      unfold scM at h2
      split at h2
      case isFalse => cases h2
      rename_i hok
      obtain ⟨⟨sl4, C4⟩, hg, h2⟩ := bind_okR h2
      obtain ⟨⟨bt, C5⟩, ht, h2⟩ := bind_okR h2
      refine .inr ⟨hJ.goes i F2 r2 H2 C2 hl e3 e4 hr2 hok, fun H3 => ∃ F2 r2 C2 acc, Same F1 F2 ∧ Ex r1 r2 ∧ Rel K (upd B p (SiO X.w p (fun j => acc.any (· == j)) acc.length)) F2 r2 H3 C2 ∧ scM g t m gd (wipeS sl own) (ds.drop (i + 1)) acc C2 = .ok (out, Cn),
        fun H3 h => ⟨ds.length - (i + 1), by omega, rfl, hl, h⟩, fun x H3 y => ?_⟩
      obtain ⟨F3, e5, hr3, hx⟩ := hJ.yields i _ F2 r2 H2 C2 x H3 ed e3 e4 hr2 hok y
      have hs3 : Sls K F3 r2 (wipeS sl own) (wipe s own) := Sls.wipe (hs1.mono (e3.trans e5) e4) own
      refine ⟨upd B p (SiO X.w p (fun j => acc.any (· == j)) acc.length), F3, r2, wipeS sl own, C2, ds[i], hr3, hs3, hx, out_of hg fun F4 r4 H4 s4 e6 e7 hr4 hs4 => ?_⟩
      refine ⟨hs4.2.trans (wipe_twice own s), upd B p (SiO X.w p (fun j => acc.any (· == j)) acc.length), F4, r4, sl4, C4, hr4, hs4.1, out_of ht fun F5 r5 H5 b e8 e9 hr5 hb => ?_⟩
      subst hb
      cases bt with
      | false =>
        rw [if_neg Bool.false_ne_true] at h2 ⊢
        exact ⟨F5, r5, C5, acc, ((e3.trans e5).trans e6).trans e8, (e4.trans e7).trans e9, hr5, h2⟩
      | true =>
        rw [if_pos rfl] at h2 ⊢
        obtain ⟨⟨ev, C6⟩, hm, h2⟩ := bind_okR h2
        simp only at h2
        split at h2
        case h_2 => cases h2
        rename_i k
        split at h2
        case isFalse => cases h2
        rename_i hz
        refine ⟨upd B p (SiO X.w p (fun j => acc.any (· == j)) acc.length), F5, r5, sl4, C5, hr5, hs4.1.mono e8 e9, out_of hm fun F6 r6 H6 v k1 k2 hr6 hv => ?_⟩
        refine ⟨k, fun j => acc.any (· == j), acc.length, hv, hr6.base p _ upd_same, by show acc.length + 1 < 4096; omega, F6, r6, C6, addI acc k, (((e3.trans e5).trans e6).trans e8).trans k1, ((e4.trans e7).trans e9).trans k2, ?_, h2⟩
        rw [show (fun j => (addI acc k).any (· == j)) = fun j => (acc.any (· == j) || decide (j = k)) from funext fun j => addI_any acc k j, addI_len]
        exact hr6.asideSet
    · have ei : i = ds.length := by omega
      subst ei
      rw [List.drop_length] at h2
      unfold scM at h2
      split at h2
      case isFalse => cases h2
      rename_i hok
      cases h2
      exact .inl ⟨hJ.stops F2 r2 H2 _ e3 e4 hr2 hok, hfin B F2 r2 H2 Cn out p (Same.free hr1.base hp) hr2 (hr2.base p _ upd_same) (Out.mono o1 e3 e4)⟩
def gLenSc (acc : List Int) (C : Store) : RE := .ok (.int acc.length, C)
theorem ne_lenSc {ifs : List Expr} {scope : Scope} (own : List (Str × Nat)) {mi : MI} {g : MT} {t : MG Bool} {m : ME} (hlen : X.mg "len" = none) (hc : X.calm = true) (hN : X.N.Nodup) (hi : NI X E tg it mi) (ok : BlkOk X.N X.env.scope scope own)
    (hg : ∀ (s : Shared) (H : Hp) (C : Addr) (cl : List (Str × Addr)) (fp : List Addr), NG (X.blk s H scope (compEnvC scope cl C X.env) fp) EN (own.map (·.2)) tg g)
    (ht : ∀ (s : Shared) (H : Hp) (C : Addr) (cl : List (Str × Addr)) (fp : List Addr), NTs (X.blk s H scope (compEnvC scope cl C X.env) fp) ifs t)
    (he : ∀ (s : Shared) (H : Hp) (C : Addr) (cl : List (Str × Addr)) (fp : List Addr), NE (X.blk s H scope (compEnvC scope cl C X.env) fp) EN elt m)
    (hs : ∀ x, foldedSetIterable it X.env x = pure x := by intro _; rfl) (hgl : Gl X "len" := by rfl)
    (hst : starEach [Expr.SetComp elt [⟨tg, it, ifs, 0⟩] scope p2] X.env = (false, eval (.SetComp elt [⟨tg, it, ifs, 0⟩] scope p2) X.env) :: starEach [] X.env := by rfl) (hpl : (backTo pos (starEach [] X.env)).any (·.1) = false := by rfl) :
    NE X E (.Call (.Name "len" p1) [.SetComp elt [⟨tg, it, ifs, 0⟩] scope p2] [] pos) (mSc gLenSc (own.map (·.2)) mi g t m) :=
  ⟨pe_imp (pe_callB call_lenSi hgl hlen boot_len (pa_cons (pe_si (own := own) (wi := LI X.K X.mg E mi) (g := LT (own.map (·.2)) X.K X.mg EN g) (tt := LG PB X.K X.mg EN t) (te := LG (Rep X.K) X.K X.mg EN m) hc hN hi.pi ok (fun s H C cl fp => (hg s H C cl fp).pg) (fun s H C cl fp => (ht s H C cl fp).pt) (fun s H C cl fp => (he s H C cl fp).pe) hs) pa_nil hst) (by decide) (by decide) hst hpl) fun s H Q q => by
    exact sc_ok (X := X) (Q := Q) (Q2 := fun v H1 => rLenSi X.w [v] H1 Q) (fun B F r H C acc p hB hr hp o => by
      obtain ⟨k1, k2⟩ := hr.asideFreeze hB
      exact ⟨p, _, _, rfl, hp, o _ r H (.int acc.length) k2 (.refl _) k1 rfl⟩) q⟩
/-- .. sorted -/
theorem sortI_uniq : ∀ {as bs : List Int}, as.Pairwise (· < ·) → bs.Pairwise (· < ·) → (∀ k, k ∈ as ↔ k ∈ bs) → as = bs
  | [], [], _, _, _ => rfl
  | [], b :: bs, _, _, h => nomatch (h b).mpr List.mem_cons_self
  | a :: as, [], _, _, h => nomatch (h a).mp List.mem_cons_self
  | a :: as, b :: bs, ha, hb, h => by
    rw [List.pairwise_cons] at ha hb
    have e : a = b := by
      rcases List.mem_cons.mp ((h a).mp List.mem_cons_self) with e | e
      · exact e
      · rcases List.mem_cons.mp ((h b).mpr List.mem_cons_self) with k | k
        · exact k.symm
        · have := ha.1 b k
          have := hb.1 a e
          omega
    subst e
    rw [sortI_uniq ha.2 hb.2 fun k => ?_]
    constructor
    · intro hk
      rcases List.mem_cons.mp ((h k).mp (List.mem_cons_of_mem _ hk)) with z | z
      · subst z
        exact absurd (ha.1 k hk) (Int.lt_irrefl k)
      · exact z
    · intro hk
      rcases List.mem_cons.mp ((h k).mpr (List.mem_cons_of_mem _ hk)) with z | z
      · subst z
        exact absurd (hb.1 k hk) (Int.lt_irrefl k)
      · exact z
end
/-! set(list), asked at once -/
theorem first_fold (ns : List Int) : PyProof.Rows.firstMet (fun i => ns.getD i 0) ns.length = ns.foldl addI [] := by
  unfold PyProof.Rows.firstMet
  have e : (List.range ns.length).map (fun i => ns.getD i 0) = ns := by
    apply List.ext_getElem?
    intro i
    rw [List.getElem?_map]
    by_cases h : i < ns.length
    · rw [List.getElem?_range h, List.getElem?_eq_getElem h]
      simp [List.getD_eq_getElem?_getD, h]
    · rw [List.getElem?_eq_none (by simpa using h), List.getElem?_eq_none (by simpa using h)]
      rfl
  rw [e]
  rfl
theorem ints_are : ∀ {ns : List Int} {us : List Value}, Vals (ns.map V.int) us → PyProof.Rows.IntsAre us ns
  | [], _, h => by cases h; exact .nil
  | n :: ns, _, h => by
    cases h with
    | cons h1 h2 =>
      obtain ⟨tk, rfl⟩ := h1
      exact .cons _ _ (ints_are h2)
def rSetL (K : PySem.W.Frag) : List V → Hp → VK → Prop := fun xs H Q => ∃ (l : Addr) (ns : List Int), xs = [V.ref l] ∧ SqL K H l (ns.map V.int) ∧ ns.length ≤ 4000 ∧ ∀ p, H p = none → Q (.ref p) (upd H p (.set (fun k => (ns.foldl addI []).any (· == k)) (ns.foldl addI []).length))
section
variable {X : Cx}
theorem call_setL (hc : X.calm = true) : CallR X (.type "set") (rSetL X.K) := fun pins s σ H xs us Q I r h => by
  obtain ⟨l, ns, rfl, hq, hl, q⟩ := h
  obtain ⟨u, rfl, ru⟩ := vals1 r
  cases ru
  obtain ⟨its, rv, pl, hz⟩ := I.list hq
  have size : its.toArray.size = ns.length := by rw [List.size_toArray, ← rv.length, List.length_map]
  refine call_set_list (ns := ns) (I.ok.hd hc) pl.isList (by simpa using ints_are rv) (by rw [size]; show ns.length + 1 < 4096; omega) fun h' tk hS hk => ?_
  rw [size, first_fold] at hS
  exact ⟨.ref _, _, I.laid (a := s.heap.objs.size) (o := .set (fun k => (ns.foldl addI []).any (· == k)) (ns.foldl addI []).length) (t' := tk) (fun b o e => hk b o (Heap.lt_size e) e) (Nat.le_refl _) hS, rfl, q _ (I.hok.fresh (Nat.le_refl _))⟩
def rLenS : List V → Hp → VK → Prop := fun xs H Q => ∃ a S n, xs = [V.ref a] ∧ H a = some (.set S n) ∧ n ≤ 4000 ∧ Q (.int n) H
theorem call_lenS : CallR X (.builtin "len") rLenS := fun pins s σ H xs us Q I r h => by
  obtain ⟨a, S, n, rfl, ha, hl, q⟩ := h
  obtain ⟨u, rfl, ru⟩ := vals1 r
  cases ru
  obtain ⟨o, es, ep, t, ho, hex, hd, _, _, _, hf, hn⟩ := I.hok a _ ha
  exact call_len_set ho hex hd hf (by omega) ⟨.int n, H, I.tok _, ⟨_, by rw [hn]⟩, q⟩
end
section
variable {K : PySem.W.Frag} {mg : Str → Option Value} {E : XK} {X : Cx} {a : Expr} {ma : ME} {pos p1 p2 q1 : Pos}
def gLenSet (x : D) (C : Store) : RE := match (lstOf C x).bind intsOf with
  | some ns => if ns.length ≤ 4000 then .ok (.int (ns.foldl addI []).length, C) else .no
  | none => .no
theorem fold_len : ∀ (ns acc : List Int), (ns.foldl addI acc).length ≤ acc.length + ns.length
  | [], acc => Nat.le_refl _
  | k :: ns, acc => by
    have := fold_len ns (addI acc k)
    rw [addI_len] at this
    rw [List.foldl_cons, List.length_cons]
    split at this <;> omega
theorem lenset_ok : CallN K mg E (fun xs H Q => rSetL K xs H fun v H1 => rLenS [v] H1 Q) (on1 gLenSet) := on1N fun B F r H C x v Q hr hx o => by
  unfold gLenSet at o
  split at o
  · rename_i ns e
    split at o
    · rename_i hl
      cases el : lstOf C x with
      | none => rw [el] at e; cases e
      | some ds =>
        rw [el, Option.bind_some] at e
        obtain ⟨b, vs, rfl, h1, h2⟩ := lstOf_ok hr hx el
        have ed := intsOf_eq e
        subst ed
        have ev : vs = ns.map V.int := h2.ints
        subst ev
        have hle := fold_len ns []
        refine ⟨b, ns, rfl, h1, hl, fun p hp => ⟨p, _, _, rfl, upd_same, by simpa using Nat.le_trans hle (by simpa using hl), ?_⟩⟩
        exact out_ok (d := .int (ns.foldl addI []).length) (hr.junk hp) rfl o
    · exact False.elim o
  · exact False.elim o
theorem ne_lenSet (hlen : X.mg "len" = none) (hset : X.mg "set" = none) (hc : X.calm = true) (ha : NE X E a ma) (hg : Gl X "len" := by rfl) (hg2 : Gl X "set" := by rfl)
    (hs : starEach [a] X.env = (false, eval a X.env) :: starEach [] X.env := by rfl) (hpl : (backTo q1 (starEach [] X.env)).any (·.1) = false := by rfl)
    (hs2 : starEach [Expr.Call (.Name "set" p2) [a] [] q1] X.env = (false, eval (.Call (.Name "set" p2) [a] [] q1) X.env) :: starEach [] X.env := by rfl) (hpl2 : (backTo pos (starEach [] X.env)).any (·.1) = false := by rfl) :
    NE X E (.Call (.Name "len" p1) [.Call (.Name "set" p2) [a] [] q1] [] pos) (mCB (on1 gLenSet) (aCons ma aNil)) :=
  ⟨pe_imp (pe_callB call_lenS hg hlen boot_len (pa_cons (pe_callTy (call_setL hc) hg2 hset PyProof.Rows.boot_set (na_cons ha na_nil hs).pa (by decide) (by decide) hs hpl) pa_nil hs2) (by decide) (by decide) hs2 hpl2) fun s H Q q => args lenset_ok s H Q q⟩
end
theorem w_lenSet {x : D} {l : List Int} {C : Store} {QD : D → Store → Prop} (hx : IsLst C x (l.map D.int)) (hl : l.length ≤ 4000) (q : QD (.int (l.foldl addI []).length) C) : W (on1 gLenSet [x] C) QD := by
  have e : lstOf C x = some (l.map D.int) := by
    cases hx with
    | f => rfl
    | c k ds h => exact lstAt_lst h
  refine W.of (a := .int (l.foldl addI []).length) (C := C) ?_ q
  show gLenSet x C = _
  unfold gLenSet
  rw [e, Option.bind_some, intsOf_map]
  simp only [if_pos hl]
/-! reasoning -/
section
variable {QD : D → Store → Prop} {sl : Sl} {C : Store} {m : ME} {A : Type} {φ : A → D}
theorem w_mSc {fin : List Int → Store → RE} {own : List Nat} {mi : MI} {g : MT} {t : MG Bool} (h : W (mi sl C) fun k C1 => W (scM g t m k.2 (wipeS sl own) k.1 [] C1) fun acc C2 => W (fin acc C2) QD) : W (mSc fin own mi g t m sl C) QD := W.bind (h.imp fun k C1 h => W.bind (W.calm h))
theorem w_lenSc {acc : List Int} (q : QD (.int acc.length) C) : W (gLenSc acc C) QD := W.ok q
theorem w_scA {l : List A} {g : MT} {t : MG Bool} {gd : Gd} {p : A → Bool} {f : A → Int} {Q : List Int → Store → Prop} (hg : okG gd C) (hl : l.length ≤ 3000)
    (step : ∀ (i : Nat) (a : A), l[i]? = some a → W (g (φ a) sl C) fun sl1 C1 => W (t sl1 C1) fun b C2 => b = p a ∧ C2 = C ∧ (p a = true → W (m sl1 C) fun e C3 => e = .int (f a) ∧ C3 = C))
    (q : Q (((l.filter p).map f).foldl addI []) C) : W (scM g t m gd sl (l.map φ) [] C) Q := by
  suffices h : ∀ (es pre : List A) (acc : List Int), l = pre ++ es → acc.length ≤ pre.length → Q (((es.filter p).map f).foldl addI acc) C → W (scM g t m gd sl (es.map φ) acc C) Q from h l [] [] rfl (Nat.le_refl _) q
  intro es
  induction es with
  | nil =>
    intro pre acc _ _ q
    unfold scM
    simp only [List.map_nil]
    rw [if_pos hg]
    exact W.ok q
  | cons a es ih =>
    intro pre acc e hk q
    have ha : l[pre.length]? = some a := by rw [e]; simp
    have hlen : l.length = pre.length + (es.length + 1) := by rw [e]; simp
    simp only [List.map_cons]
    unfold scM
    rw [if_pos hg]
    refine W.bind ((step _ a ha).imp fun sl1 C1 h => W.bind (h.imp fun b C2 h => ?_))
    obtain ⟨rfl, rfl, h⟩ := h
    by_cases hp : p a = true
    · simp only [hp, if_true]
      refine W.bind ((h hp).imp fun y C3 h => ?_)
      obtain ⟨rfl, rfl⟩ := h
      simp only
      rw [if_pos (by omega)]
      refine ih (pre ++ [a]) _ (by rw [e]; simp) ?_ ?_
      · rw [addI_len, List.length_append]
        split <;> simp <;> omega
      · rw [List.filter_cons_of_pos hp] at q
        exact q
    · simp only [hp]
      refine ih (pre ++ [a]) acc (by rw [e]; simp) (by simp; omega) ?_
      rw [List.filter_cons_of_neg hp] at q
      exact q
end
end Nv

namespace Nv
open PySem PySem.Spec PyProof.Rows L2
/-! a list comprehension of two fors -/
open Classical in
noncomputable def lc2I (g : MT) (t : MG Bool) (m : ME) (gd : Gd) (sl : Sl) : List D → List D → Store → R (List D × Store)
  | [], acc, C => if okG gd C then .ok (acc, C) else .no
  | d :: ds, acc, C => if okG gd C then (g d sl C).bind fun q => (t q.1 q.2).bind fun b => if b.1 = true then (m q.1 b.2).bind fun e => if acc.length < sizeLine then lc2I g t m gd sl ds (acc ++ [e.1]) e.2 else .no
      else lc2I g t m gd sl ds acc b.2
    else .no
open Classical in
noncomputable def lc2M (vs1 : List Nat) (g : MT) (t : MG Bool) (mi1 : MI) (g1 : MT) (t1 : MG Bool) (m : ME) (gd : Gd) (sl : Sl) : List D → List D → Store → R (List D × Store)
  | [], acc, C => if okG gd C then .ok (acc, C) else .no
  | d :: ds, acc, C => if okG gd C then (g d sl C).bind fun q => (t q.1 q.2).bind fun b => if b.1 = true then (mi1 q.1 b.2).bind fun k => (lc2I g1 t1 m k.1.2 (wipeS q.1 vs1) k.1.1 acc k.2).bind fun z => lc2M vs1 g t mi1 g1 t1 m gd sl ds z.1 z.2
      else lc2M vs1 g t mi1 g1 t1 m gd sl ds acc b.2
    else .no
noncomputable def mLc2 (c : Bool) (own vs1 : List Nat) (mi : MI) (g : MT) (t : MG Bool) (mi1 : MI) (g1 : MT) (t1 : MG Bool) (m : ME) : ME := fun sl C => (mi sl C).bind fun p =>
  (R.calm (lc2M vs1 g t mi1 g1 t1 m p.1.2 (wipeS sl own) p.1.1 [] p.2)).bind fun z => newL c z.1 z.2
section
variable {K : PySem.W.Frag} {mg : Str → Option Value} {E : XK} {X : Cx} {tg it tg1 it1 elt : Expr} {pos : Pos}
theorem lc2_ok {cb : Bool} {own vs1 : List Nat} {mi mi1 : MI} {g g1 : MT} {t t1 : MG Bool} {m : ME} : ∀ s H Q, LG (Rep K) K mg E (mLc2 cb own vs1 mi g t mi1 g1 t1 m) s H Q → tLc2 (LI K mg E mi) (LT own K mg EN g) (LG PB K mg EN t) (LI K mg EN mi1) (LT vs1 K mg EN g1) (LG PB K mg EN t1) (LG (Rep K) K mg EN m) own vs1 s H Q := fun s H Q q => by
    obtain ⟨B, F, r, sl, C, hr, hs, o⟩ := q
    refine ⟨B, F, r, sl, C, hr, hs, Out.bind (P := fun F' r' k J => ∀ B', WalkN K B' J F' r' k) o fun k C1 F1 r1 H1 J e1 e2 hr1 hJ o1 => ?_⟩
    obtain ⟨ds, gd⟩ := k
    intro p hp
    simp only at o1
    obtain ⟨⟨out, Cn⟩, hlc, o1⟩ : ∃ z, lc2M vs1 g t mi1 g1 t1 m gd (wipeS sl own) ds [] C1 = .ok z ∧ Out (Rep K) K mg E B F1 r1 (newL cb z.1 z.2) Q := by
      cases hl : lc2M vs1 g t mi1 g1 t1 m gd (wipeS sl own) ds [] C1 with
      | ok z => rw [hl] at o1; exact ⟨z, rfl, o1⟩
      | ex y Cy => rw [hl] at o1; exact False.elim o1
      | no => rw [hl] at o1; exact False.elim o1
    have hs1 := hs.mono e1 e2
    refine ⟨fun i n H2 => n = ds.length - i ∧ i ≤ ds.length ∧ ∃ F2 r2 C2 acc vs, Same F1 F2 ∧ Ex r1 r2 ∧ Rel K (upd B p (.lst vs)) F2 r2 H2 C2 ∧ Reps K F2 r2 acc vs ∧ lc2M vs1 g t mi1 g1 t1 m gd (wipeS sl own) (ds.drop i) acc C2 = .ok (out, Cn),
      ⟨ds.length, by simp, Nat.zero_le _, F1, r1, C1, [], [], .refl _, .refl _, hr1.aside hp, .nil, hlc⟩, ?_⟩
    rintro i n H2 ⟨rfl, hi, F2, r2, C2, acc, vs, e3, e4, hr2, hacc, h2⟩
    have hJ := hJ (upd B p (.lst vs))
    by_cases hl : i < ds.length
    · have ed : ds[i]? = some ds[i] := List.getElem?_eq_getElem hl
      rw [List.drop_eq_getElem_cons hl] at h2
      unfold lc2M at h2
      split at h2
      case isFalse => cases h2
      rename_i hok
      obtain ⟨⟨sl4, C4⟩, hg, h2⟩ := bind_okR h2
      obtain ⟨⟨bt, C5⟩, ht, h2⟩ := bind_okR h2
      refine .inr ⟨hJ.goes i F2 r2 H2 C2 hl e3 e4 hr2 hok, fun H3 => ∃ F2 r2 C2 acc vs, Same F1 F2 ∧ Ex r1 r2 ∧ Rel K (upd B p (.lst vs)) F2 r2 H3 C2 ∧ Reps K F2 r2 acc vs ∧ lc2M vs1 g t mi1 g1 t1 m gd (wipeS sl own) (ds.drop (i + 1)) acc C2 = .ok (out, Cn),
        fun H3 h => ⟨ds.length - (i + 1), by omega, rfl, hl, h⟩, fun x H3 y => ?_⟩
      obtain ⟨F3, e5, hr3, hx⟩ := hJ.yields i _ F2 r2 H2 C2 x H3 ed e3 e4 hr2 hok y
      have hs3 : Sls K F3 r2 (wipeS sl own) (wipe s own) := Sls.wipe (hs1.mono (e3.trans e5) e4) own
      refine ⟨upd B p (.lst vs), F3, r2, wipeS sl own, C2, ds[i], hr3, hs3, hx, out_of hg fun F4 r4 H4 s4 e6 e7 hr4 hs4 => ?_⟩
      refine ⟨hs4.2.trans (wipe_twice own s), upd B p (.lst vs), F4, r4, sl4, C4, hr4, hs4.1, out_of ht fun F5 r5 H5 b e8 e9 hr5 hb => ?_⟩
      subst hb
      have f15 : Same F1 F5 := ((e3.trans e5).trans e6).trans e8
      have r15 : Ex r1 r5 := (e4.trans e7).trans e9
      have acc5 := hacc.mono ((e5.trans e6).trans e8) (e7.trans e9)
      cases bt with
      | false =>
        rw [if_neg Bool.false_ne_true] at h2 ⊢
        exact ⟨F5, r5, C5, acc, vs, f15, r15, hr5, acc5, h2⟩
      | true =>
        rw [if_pos rfl] at h2 ⊢
        obtain ⟨⟨⟨ds1, gd1⟩, C6⟩, hmi, h2⟩ := bind_okR h2
        obtain ⟨z, hz, h2⟩ := bind_okR h2
        simp only at hz h2
        refine ⟨upd B p (.lst vs), F5, r5, sl4, C5, hr5, hs4.1.mono e8 e9, out_of (P := fun F' r' k J => ∀ B', WalkN K B' J F' r' k) hmi fun F6 r6 H6 J1 k1 k2 hr6 hJ1 => ?_⟩
        have hs6 := (hs4.1.mono e8 e9).mono k1 k2
        refine ⟨fun j n H7 => n = ds1.length - j ∧ j ≤ ds1.length ∧ ∃ F7 r7 C7 acc vs, Same F6 F7 ∧ Ex r6 r7 ∧ Rel K (upd B p (.lst vs)) F7 r7 H7 C7 ∧ Reps K F7 r7 acc vs ∧ lc2I g1 t1 m gd1 (wipeS sl4 vs1) (ds1.drop j) acc C7 = .ok z,
          ⟨ds1.length, by simp, Nat.zero_le _, F6, r6, C6, acc, vs, .refl _, .refl _, hr6, acc5.mono k1 k2, hz⟩, ?_⟩
        rintro j n H7 ⟨rfl, hj, F7, r7, C7, acc7, vs7, m1, m2, hr7, hacc7, h7⟩
        have hJ1 := hJ1 (upd B p (.lst vs7))
        by_cases hl1 : j < ds1.length
        · have ed1 : ds1[j]? = some ds1[j] := List.getElem?_eq_getElem hl1
          rw [List.drop_eq_getElem_cons hl1] at h7
          unfold lc2I at h7
          split at h7
          case isFalse => cases h7
          rename_i hok1
          obtain ⟨⟨sl8, C8⟩, hg1, h7⟩ := bind_okR h7
          obtain ⟨⟨bt1, C9⟩, ht1, h7⟩ := bind_okR h7
          refine .inr ⟨hJ1.goes j F7 r7 H7 C7 hl1 m1 m2 hr7 hok1, fun H8 => ∃ F7 r7 C7 acc vs, Same F6 F7 ∧ Ex r6 r7 ∧ Rel K (upd B p (.lst vs)) F7 r7 H8 C7 ∧ Reps K F7 r7 acc vs ∧ lc2I g1 t1 m gd1 (wipeS sl4 vs1) (ds1.drop (j + 1)) acc C7 = .ok z,
            fun H8 h => ⟨ds1.length - (j + 1), by omega, rfl, hl1, h⟩, fun x1 H8 y1 => ?_⟩
          obtain ⟨F8, m3, hr8, hx1⟩ := hJ1.yields j _ F7 r7 H7 C7 x1 H8 ed1 m1 m2 hr7 hok1 y1
          have hs8 : Sls K F8 r7 (wipeS sl4 vs1) (wipe s4 vs1) := Sls.wipe (hs6.mono (m1.trans m3) m2) vs1
          refine ⟨upd B p (.lst vs7), F8, r7, wipeS sl4 vs1, C7, ds1[j], hr8, hs8, hx1, out_of hg1 fun F9 r9 H9 s9 m4 m5 hr9 hs9 => ?_⟩
          refine ⟨hs9.2.trans (wipe_twice vs1 s4), upd B p (.lst vs7), F9, r9, sl8, C8, hr9, hs9.1, out_of ht1 fun F10 r10 H10 b m6 m7 hr10 hb => ?_⟩
          subst hb
          have f610 : Same F6 F10 := ((m1.trans m3).trans m4).trans m6
          have r610 : Ex r6 r10 := (m2.trans m5).trans m7
          have acc10 := hacc7.mono ((m3.trans m4).trans m6) (m5.trans m7)
          cases bt1 with
          | false =>
            rw [if_neg Bool.false_ne_true] at h7 ⊢
            exact ⟨F10, r10, C9, acc7, vs7, f610, r610, hr10, acc10, h7⟩
          | true =>
            rw [if_pos rfl] at h7 ⊢
            obtain ⟨⟨ev, C11⟩, hm, h7⟩ := bind_okR h7
            split at h7
            case isFalse => cases h7
            rename_i hsz
            refine ⟨upd B p (.lst vs7), F10, r10, sl8, C9, hr10, hs9.1.mono m6 m7, out_of hm fun F11 r11 H11 v m8 m9 hr11 hv => ?_⟩
            have acc11 := acc10.mono m8 m9
            refine ⟨vs7, hr11.base p _ upd_same, ?_, F11, r11, C11, acc7 ++ [ev], vs7 ++ [v], f610.trans m8, r610.trans m9, hr11.asideSet, acc11.append (.one hv), h7⟩
            rw [← acc11.length]
            exact hsz
        · have ej : j = ds1.length := by omega
          subst ej
          rw [List.drop_length] at h7
          unfold lc2I at h7
          split at h7
          case isFalse => cases h7
          rename_i hok1
          cases h7
          exact .inl ⟨hJ1.stops F7 r7 H7 _ m1 m2 hr7 hok1, F7, r7, _, _, vs7, (f15.trans k1).trans m1, (r15.trans k2).trans m2, hr7, hacc7, h2⟩
    · have ei : i = ds.length := by omega
      subst ei
      rw [List.drop_length] at h2
      unfold lc2M at h2
      split at h2
      case isFalse => cases h2
      rename_i hok
      cases h2
      refine .inl ⟨hJ.stops F2 r2 H2 _ e3 e4 hr2 hok, ?_⟩
      have hB : B p = none := Same.free hr1.base hp
      unfold newL at o1
      cases cb with
      | true =>
        rw [if_pos rfl] at o1
        refine o1 F2 (r2 ++ [p]) H2 _ e3 (e4.trans (Ex.app r2 _)) (hr2.asideCell hB ⟨hr2.apart p _ upd_same, vs, hr2.base p _ upd_same, hacc.mono (.refl _) (Ex.app r2 _)⟩) ⟨p, rfl, ?_⟩
        rw [← hr2.len, List.getElem?_append_right (Nat.le_refl _)]
        simp
      | false =>
        rw [if_neg Bool.false_ne_true] at o1
        obtain ⟨k1, k2⟩ := hr2.asideFreeze hB
        exact o1 (upd F2 p (.lst vs)) r2 H2 _ (e3.trans k2) e4 k1 ⟨p, vs, rfl, .inl (.inl upd_same), hacc.mono k2 (.refl _)⟩
theorem ne_lc2 {cb : Bool} {ifs ifs1 : List Expr} {scope : Scope} (own : List (Str × Nat)) (vs1 : List Nat) {mi mi1 : MI} {g g1 : MT} {t t1 : MG Bool} {m : ME} (hc : X.calm = true) (hN : X.N.Nodup) (hi : NI X E tg it mi) (ok : BlkOk X.N X.env.scope scope own)
    (hg : ∀ (s : Shared) (H : Hp) (C : Addr) (cl : List (Str × Addr)) (fp : List Addr), NG (X.blk s H scope (compEnvC scope cl C X.env) fp) EN (own.map (·.2)) tg g)
    (ht : ∀ (s : Shared) (H : Hp) (C : Addr) (cl : List (Str × Addr)) (fp : List Addr), NTs (X.blk s H scope (compEnvC scope cl C X.env) fp) ifs t)
    (hi1 : ∀ (s : Shared) (H : Hp) (C : Addr) (cl : List (Str × Addr)) (fp : List Addr), NI (X.blk s H scope (compEnvC scope cl C X.env) fp) EN tg1 it1 mi1)
    (hg1 : ∀ (s : Shared) (H : Hp) (C : Addr) (cl : List (Str × Addr)) (fp : List Addr), NG (X.blk s H scope (compEnvC scope cl C X.env) fp) EN vs1 tg1 g1)
    (ht1 : ∀ (s : Shared) (H : Hp) (C : Addr) (cl : List (Str × Addr)) (fp : List Addr), NTs (X.blk s H scope (compEnvC scope cl C X.env) fp) ifs1 t1)
    (he : ∀ (s : Shared) (H : Hp) (C : Addr) (cl : List (Str × Addr)) (fp : List Addr), NE (X.blk s H scope (compEnvC scope cl C X.env) fp) EN elt m)
    (hv : ∀ i ∈ vs1, i ∈ own.map (·.2) := by decide) (hs : ∀ x, foldedSetIterable it X.env x = pure x := by intro _; rfl) (hs1 : ∀ env x, foldedSetIterable it1 env x = pure x := by intro _ _; rfl) : NE X E (.ListComp elt [⟨tg, it, ifs, 0⟩, ⟨tg1, it1, ifs1, 0⟩] scope pos) (mLc2 cb (own.map (·.2)) vs1 mi g t mi1 g1 t1 m) :=
  ⟨pe_imp (pe_lc2 (own := own) hc hN hi.pi ok hv (fun s H C cl fp => (hg s H C cl fp).pg) (fun s H C cl fp => (ht s H C cl fp).pt) (fun s H C cl fp => (hi1 s H C cl fp).pi) (fun s H C cl fp => (hg1 s H C cl fp).pg) (fun s H C cl fp => (ht1 s H C cl fp).pt) (fun s H C cl fp => (he s H C cl fp).pe) hs hs1) lc2_ok⟩
end
section
variable {C : Store} {QD : D → Store → Prop} {sl : Sl} {m : ME} {A : Type} {φ : A → D}
theorem w_lc2N {g : MT} {t : MG Bool} {gd : Gd} {acc : List D} {Q : List D → Store → Prop} (hg : okG gd C) (h : Q acc C) : W (lc2I g t m gd sl [] acc C) Q := by
  unfold lc2I
  rw [if_pos hg]
  exact W.ok h
theorem w_lc2C {g : MT} {t : MG Bool} {gd : Gd} {acc ds : List D} {d : D} {Q : List D → Store → Prop} (hg : okG gd C) (h : W (g d sl C) fun sl1 C1 => W (t sl1 C1) fun b C2 => if b = true then W (m sl1 C2) fun e C3 => acc.length < sizeLine ∧ W (lc2I g t m gd sl ds (acc ++ [e]) C3) Q else W (lc2I g t m gd sl ds acc C2) Q) : W (lc2I g t m gd sl (d :: ds) acc C) Q := by
  unfold lc2I
  rw [if_pos hg]
  refine W.bind (h.imp fun sl1 C1 h => W.bind (h.imp fun b C2 h => ?_))
  cases b with
  | false => exact h
  | true =>
    refine W.bind (W.imp h fun e C3 h => ?_)
    show W (if acc.length < sizeLine then _ else _) _
    rw [if_pos h.1]
    exact h.2
theorem w_mLc2 {c : Bool} {own vs1 : List Nat} {mi mi1 : MI} {g g1 : MT} {t t1 : MG Bool} (h : W (mi sl C) fun k C1 => W (lc2M vs1 g t mi1 g1 t1 m k.2 (wipeS sl own) k.1 [] C1) fun zs C2 => W (newL c zs C2) QD) : W (mLc2 c own vs1 mi g t mi1 g1 t1 m sl C) QD := W.bind (h.imp fun k C1 h => W.bind (W.calm h))
/-- each thing of the first gives a row of its own, and the store stays -/
theorem w_lc2A {l : List A} {vs1 : List Nat} {mi1 : MI} {g g1 : MT} {t1 : MG Bool} {gd : Gd} {f : A → List D} {Q : List D → Store → Prop} (hg : okG gd C)
    (step : ∀ (i : Nat) (a : A) (acc : List D), l[i]? = some a → acc.length = ((l.take i).flatMap f).length → W (g (φ a) sl C) fun sl1 C1 => W (mi1 sl1 C1) fun k C2 => W (lc2I g1 t1 m k.2 (wipeS sl1 vs1) k.1 acc C2) fun z C3 => z = acc ++ f a ∧ C3 = C)
    (q : Q (l.flatMap f) C) : W (lc2M vs1 g tTrue mi1 g1 t1 m gd sl (l.map φ) [] C) Q := by
  suffices h : ∀ (es pre : List A), l = pre ++ es → W (lc2M vs1 g tTrue mi1 g1 t1 m gd sl (es.map φ) (pre.flatMap f) C) Q from h l [] rfl
  intro es
  induction es with
  | nil =>
    intro pre e
    rw [List.append_nil] at e
    subst e
    show W (lc2M vs1 g tTrue mi1 g1 t1 m gd sl [] _ C) Q
    unfold lc2M
    rw [if_pos hg]
    exact W.ok q
  | cons a es ih =>
    intro pre e
    show W (lc2M vs1 g tTrue mi1 g1 t1 m gd sl (φ a :: es.map φ) _ C) Q
    unfold lc2M
    rw [if_pos hg]
    have ha : l[pre.length]? = some a := by rw [e, List.getElem?_append_right (Nat.le_refl _)]; simp
    have ht : l.take pre.length = pre := by rw [e]; simp
    refine W.bind ((step pre.length a (pre.flatMap f) ha (by rw [ht])).imp fun sl1 C1 h => W.bind (w_tTrue ?_))
    simp only [if_true]
    refine W.bind (h.imp fun k C2 h => W.bind (h.imp fun z C3 h => ?_))
    obtain ⟨rfl, rfl⟩ := h
    have := ih (pre ++ [a]) (by rw [e]; simp)
    rwa [List.flatMap_append, List.flatMap_singleton] at this
end
end Nv

namespace Nv
open PySem PySem.Spec PyProof.Rows L2
/-! x in l, of data that may nest -/
theorem units65 {k : Nat} {A : Around} (r : Room k A) : A.units + 65 < cLine := by
  have := r.un
  omega
def gInD (neg : Bool) (x y : D) (C : Store) : RE := match toP C x, toP C y with
  | some d, some (.list ds) => if (SeqAt.shaped d && SeqAt.shaped (.list ds)) = true then .ok (.bl (if neg then !(ds.any fun z => PyData.eqv z d) else ds.any fun z => PyData.eqv z d), C) else .no
  | _, _ => .no
section
variable {K : PySem.W.Frag} {mg : Str → Option Value} {E : XK}
theorem inDN : OpN K mg E (rInD K) (gInD false) := by
  intro B F r H C x y v u Q hr hx hy o
  unfold gInD at o
  split at o
  · rename_i p q e1 e2
    split at o
    · rename_i hs
      rw [Bool.and_eq_true] at hs
      exact ⟨p, q, toP_ok hr hx e1, toP_ok hr hy e2, hs.1, hs.2, out_ok (d := .bl (q.any fun z => PyData.eqv z p)) hr rfl o⟩
    · exact False.elim o
  · exact False.elim o
theorem notInDN : OpN K mg E (rNotInD K) (gInD true) := by
  intro B F r H C x y v u Q hr hx hy o
  unfold gInD at o
  split at o
  · rename_i p q e1 e2
    split at o
    · rename_i hs
      rw [Bool.and_eq_true] at hs
      exact ⟨p, q, toP_ok hr hx e1, toP_ok hr hy e2, hs.1, hs.2, out_ok (d := .bl (!q.any fun z => PyData.eqv z p)) hr rfl o⟩
    · exact False.elim o
  · exact False.elim o
end
section
variable {C : Store} {QD : D → Store → Prop}
theorem w_inD {neg : Bool} {x y : D} {d : PyData} {ds : List PyData} (e1 : toP C x = some d) (e2 : toP C y = some (.list ds)) (h1 : SeqAt.shaped d = true) (h2 : SeqAt.shaped (.list ds) = true) (q : QD (.bl (if neg then !(ds.any fun z => PyData.eqv z d) else ds.any fun z => PyData.eqv z d)) C) : W (gInD neg x y C) QD := by
  unfold gInD
  rw [e1, e2]
  show W (if (SeqAt.shaped d && SeqAt.shaped (.list ds)) = true then _ else _) QD
  rw [h1, h2]
  exact W.ok q
end
end Nv

namespace Nv
open PySem PySem.Spec PyProof.Rows L2
section
variable {K : PySem.W.Frag} {mg : Str → Option Value} {E : XK} {B F H : Hp} {r : List Addr} {C : Store} {Q : VK} {X : Cx} {a b c e o i value : Expr} {es : List Expr} {m ma mb mo mv mi : ME} {mas : MG (List D)} {pos p1 p2 p3 : Pos}
/-! xs.index(y), of flat things -/
def idxF (y : D) : List D → Option Nat
  | [] => none
  | d :: ds => if eqF d y = true then some 0 else (idxF y ds).map (· + 1)
theorem idxF_ok {y : D} {u : V} (k : Rep K F r y u) (g : flatD y = true) : ∀ {ds : List D} {vs : List V} {j : Nat}, Reps K F r ds vs → ds.all flatD = true → idxF y ds = some j →
    ∃ z, vs[j]? = some z ∧ eqV z u = true ∧ ∀ (m : Nat) (z' : V), m < j → vs[m]? = some z' → eqV z' u = false
  | [], _, _, _, _, e => by cases e
  | d :: ds, _, j, h, f, e => by
    obtain ⟨v, w, rfl, h1, h2⟩ := h
    rw [List.all_cons, Bool.and_eq_true] at f
    unfold idxF at e
    have hv := eqF_ok h1 k f.1 g
    split at e
    · rename_i he
      cases e
      exact ⟨v, rfl, by rw [hv]; exact he, fun m z' hm => by omega⟩
    · rename_i he
      cases ei : idxF y ds with
      | none => rw [ei] at e; cases e
      | some i =>
        rw [ei] at e
        cases e
        obtain ⟨z, q1, q2, q3⟩ := idxF_ok k g h2 f.2 ei
        refine ⟨z, by simpa using q1, q2, fun m z' hm hz => ?_⟩
        cases m with
        | zero =>
          cases hz
          rw [hv]
          exact eq_false_of_ne_true he
        | succ m => exact q3 m z' (Nat.lt_of_succ_lt_succ hm) (by simpa using hz)
def gIndex (x : D) (ys : List D) (C : Store) : RE := match lstOf C x, ys with
  | some ds, [y] => if (flatD y && ds.all flatD) = true then match idxF y ds with
      | some j => .ok (.int (j : Nat), C)
      | none => .no
    else .no
  | _, _ => .no
theorem indexN : MtN K mg E (rIndex K) gIndex := by
  intro B F r H C x v ds vs Q hr hx hd o
  unfold gIndex at o
  split at o
  · rename_i xs y e
    obtain ⟨a, zs, rfl, h1, h2⟩ := lstOf_ok hr hx e
    obtain ⟨u, w, rfl, h3, h4⟩ := hd
    cases (show w = [] from h4)
    split at o
    · rename_i f
      rw [Bool.and_eq_true] at f
      split at o
      · rename_i j ej
        obtain ⟨z, q1, q2, q3⟩ := idxF_ok h3 f.1 h2 f.2 ej
        exact ⟨a, zs, u, j, z, rfl, rfl, h1, flat_ok h3 f.1, flats_ok h2 f.2, q1, q2, q3, out_ok (d := .int (j : Nat)) hr rfl o⟩
      · exact False.elim o
    · exact False.elim o
  · exact False.elim o
/-! xs.insert(i, y), xs.extend(ys) -/
abbrev rIns : V → List V → Hp → VK → Prop := fun x vs H Q => ∃ (l : Addr) (xs : List V) (i : Int) (y : V), x = .ref l ∧ vs = [.int i, y] ∧ H l = some (.lst xs) ∧ xs.length < sizeLine ∧ 0 ≤ i ∧ i < 2 ^ 63 ∧ Q .non (upd H l (.lst (xs.take i.toNat ++ [y] ++ xs.drop i.toNat)))
def gInsert (x : D) (ds : List D) (C : Store) : RE := match cellOf C x, ds with
  | some (i, xs), [.int k, y] => if xs.length < sizeLine ∧ 0 ≤ k ∧ k < 2 ^ 63 then .ok (.non, C.set i (.lst (xs.take k.toNat ++ [y] ++ xs.drop k.toNat))) else .no
  | _, _ => .no
theorem insertN : MtN K mg E rIns gInsert := by
  intro B F r H C x v ds vs Q hr hx hd o
  unfold gInsert at o
  split at o
  · rename_i i xs k y e
    obtain ⟨a, zs, rfl, h1, h2, h3, h4⟩ := cellOf_ok hr hx e
    obtain ⟨u, w, rfl, h5, u2, w2, rfl, h6, h7⟩ := hd
    cases (show w2 = [] from h7)
    split at o
    · rename_i hl
      exact ⟨a, zs, k, u2, rfl, by rw [show u = V.int k from h5], h3, by rw [← h4.length]; exact hl.1, hl.2.1, hl.2.2, setc_ok (x := x) (v := .non) (ds := xs) (d := .non) hr h1 h2 (((h4.take _).append (.one h6)).append (h4.drop _)) rfl o⟩
    · exact False.elim o
  · exact False.elim o
def gExtend (x : D) (ds : List D) (C : Store) : RE := match cellOf C x, ds with
  | some (i, xs), [y] => match cellOf C y with
    | some (_, ys) => if xs.length + ys.length ≤ sizeLine then .ok (.non, C.set i (.lst (xs ++ ys))) else .no
    | none => .no
  | _, _ => .no
theorem extendN : MtN K mg E rExtend gExtend := by
  intro B F r H C x v ds vs Q hr hx hd o
  unfold gExtend at o
  split at o
  · rename_i i xs y e
    obtain ⟨a, zs, rfl, h1, h2, h3, h4⟩ := cellOf_ok hr hx e
    obtain ⟨u, w, rfl, h5, h6⟩ := hd
    cases (show w = [] from h6)
    split at o
    · rename_i j ys e2
      obtain ⟨a2, zs2, rfl, k1, k2, k3, k4⟩ := cellOf_ok hr h5 e2
      split at o
      · rename_i hl
        exact ⟨a, a2, zs, zs2, rfl, rfl, h3, k3, by rw [← h4.length, ← k4.length]; exact hl, setc_ok (x := x) (v := .non) (ds := xs) (d := .non) hr h1 h2 (h4.append k4) rfl o⟩
      · exact False.elim o
    · exact False.elim o
  · exact False.elim o
/-- xs.remove(k), of ints -/
def gRemove (x : D) (ds : List D) (C : Store) : RE := match cellOf C x, ds with
  | some (i, xs), [.int k] => match intsOf xs with
    | some ns => match idxF (.int k) xs with
      | some j => .ok (.non, C.set i (.lst ((ns.eraseIdx j).map D.int)))
      | none => .no
    | none => .no
  | _, _ => .no
theorem idxF_int {k : Int} : ∀ {ns : List Int} {j : Nat}, idxF (.int k) (ns.map D.int) = some j → ns[j]? = some k ∧ ∀ m : Nat, m < j → ns[m]? ≠ some k
  | [], _, e => by cases e
  | n :: ns, j, e => by
    rw [List.map_cons] at e
    unfold idxF at e
    split at e
    · rename_i he
      cases e
      have : n = k := by
        have : (n == k) = true := he
        simpa using this
      exact ⟨by simp [this], fun m hm => by omega⟩
    · rename_i he
      cases ei : idxF (.int k) (ns.map D.int) with
      | none => rw [ei] at e; cases e
      | some i =>
        rw [ei] at e
        cases e
        obtain ⟨q1, q2⟩ := idxF_int ei
        refine ⟨by simpa using q1, fun m hm => ?_⟩
        cases m with
        | zero =>
          intro z
          have z : n = k := by simpa using z
          apply he
          show (n == k) = true
          simp [z]
        | succ m => simpa using q2 m (Nat.lt_of_succ_lt_succ hm)
theorem removeN : MtN K mg E rRemI gRemove := by
  intro B F r H C x v ds vs Q hr hx hd o
  unfold gRemove at o
  split at o
  · rename_i i xs k e
    obtain ⟨a, zs, rfl, h1, h2, h3, h4⟩ := cellOf_ok hr hx e
    obtain ⟨u, w, rfl, h5, h6⟩ := hd
    cases (show w = [] from h6)
    split at o
    · rename_i ns en
      have en := intsOf_eq en
      subst en
      have ez := Reps.ints h4
      subst ez
      split at o
      · rename_i j ej
        obtain ⟨q1, q2⟩ := idxF_int ej
        exact ⟨a, ns, k, j, rfl, by rw [show u = V.int k from h5], h3, q1, q2, setc_ok (x := x) (v := .non) (ds := ns.map D.int) (d := .non) hr h1 h2 (Reps.ofInts _) rfl o⟩
      · exact False.elim o
    · exact False.elim o
  · exact False.elim o
/-! sorted(d): the keys, ints, rising -/
def intKeys : List Key → Option (List Int)
  | [] => some []
  | .inl i :: ks => (intKeys ks).map (i :: ·)
  | .inr _ :: _ => none
theorem intKeys_eq : ∀ {ks : List Key} {ns : List Int}, intKeys ks = some ns → ks = ns.map Sum.inl
  | [], ns, e => by cases e; rfl
  | .inl i :: ks, ns, e => by
    have e : (intKeys ks).map (i :: ·) = some ns := e
    cases ei : intKeys ks with
    | none => rw [ei] at e; cases e
    | some ms =>
      rw [ei] at e
      cases e
      rw [intKeys_eq ei]
      rfl
  | .inr _ :: ks, ns, e => by cases e
theorem intKeys_map : ∀ ns : List Int, intKeys (ns.map Sum.inl) = some ns
  | [] => rfl
  | n :: ns => by
    show (intKeys (ns.map Sum.inl)).map (n :: ·) = _
    rw [intKeys_map ns]
    rfl
def gSortedK (c : Bool) (x : D) (C : Store) : RE := match dkAt C x with
  | some (_, kvs) => match intKeys (kvs.map (·.1)) with
    | some ns => if ns.length < 64 then newL c ((sortI ns).map D.int) C else .no
    | none => .no
  | none => .no
abbrev rSortedDI : List V → Hp → VK → Prop := fun xs H Q => ∃ (a : Addr) (kvs : List (Key × V)) (ks : List Int), xs = [.ref a] ∧ Rd H a (.dK kvs) ∧ kvs.map (·.1) = ks.map Sum.inl ∧ ks.length < 64 ∧
  ∀ (ys : List Int) (p : Addr), ys.Perm ks → ys.Pairwise (· ≤ ·) → H p = none → Q (.ref p) (upd H p (.lst (ys.map V.int)))
theorem sortedKN {c : Bool} : CallN K mg E rSortedDI (on1 (gSortedK c)) := on1N fun B F r H C x v Q hr hx o => by
  unfold gSortedK at o
  split at o
  · rename_i n kvs e
    obtain ⟨a, ws, rfl, h1, h2, h3, h4, h5⟩ := dkAt_ok hr hx e
    split at o
    · rename_i ns en
      have en := intKeys_eq en
      split at o
      · rename_i hl
        refine ⟨a, ws, ns, rfl, .inl h3, h4.symm.trans en, hl, fun ms p h1 h2 hp => ?_⟩
        have e : ms = sortI ns := sorted_uniq (h1.trans (sortI_perm ns).symm) h2 (sortI_le ns)
        subst e
        exact newL_ok hr (Reps.ofInts _) o hp
      · exact False.elim o
    · exact False.elim o
  · exact False.elim o
end
/-! their steps -/
section
variable {QD : D → Store → Prop} {QS : Fl → Sl → Store → Prop} {sl : Sl} {C : Store}
theorem idxF_mem {k : Int} {l : List Int} (h : k ∈ l) : idxF (.int k) (l.map D.int) = some (l.idxOf k) := by
  induction l with
  | nil => cases h
  | cons a l ih =>
    rw [List.map_cons]
    unfold idxF
    rw [List.idxOf_cons]
    by_cases ha : a = k
    · subst ha
      have : eqF (.int a) (.int a) = true := by show (a == a) = true; simp
      rw [if_pos this]
      simp
    · have h1 : ¬ eqF (.int a) (.int k) = true := by show ¬ (a == k) = true; simpa using ha
      have h2 : (a == k) = false := by simpa using ha
      rcases List.mem_cons.mp h with e | h
      · exact absurd e.symm ha
      · rw [if_neg h1, ih h, h2]
        rfl
theorem flat_ints (l : List Int) : (l.map D.int).all flatD = true := by simp [flatD]
theorem w_index {k : Int} {l : List Int} {x : D} (hx : IsLst C x (l.map D.int)) (h : k ∈ l) (q : QD (.int (l.idxOf k : Nat)) C) : W (gIndex x [.int k] C) QD := by
  have e : lstOf C x = some (l.map D.int) := by
    cases hx with
    | f => rfl
    | c i ds h => exact lstAt_lst h
  refine W.of (a := .int (l.idxOf k : Nat)) (C := C) ?_ q
  unfold gIndex
  rw [e]
  simp only [flat_ints, idxF_mem h, flatD, Bool.and_self, if_true]
theorem w_sortedK {c : Bool} {k : Nat} {kvs : List (Key × D)} {ns : List Int} (hk : C[k]? = some (.dk kvs)) (he : kvs.map (·.1) = ns.map Sum.inl) (hl : ns.length < 64) (h : W (newL c ((sortI ns).map D.int) C) QD) : W (on1 (gSortedK c) [.cell k] C) QD := by
  show W (gSortedK c (.cell k) C) QD
  unfold gSortedK
  rw [dkAt_c hk]
  simp only [he, intKeys_map, if_pos hl]
  exact h
theorem w_insert {k : Nat} {ds : List D} {d : D} {i : Int} (hk : C[k]? = some (.lst ds)) (hl : ds.length < sizeLine) (h0 : 0 ≤ i) (h1 : i < 2 ^ 63) (h : QD .non (C.set k (.lst (ds.take i.toNat ++ [d] ++ ds.drop i.toNat)))) : W (gInsert (.cell k) [.int i, d] C) QD := by
  refine W.of (a := .non) (C := C.set k (.lst (ds.take i.toNat ++ [d] ++ ds.drop i.toNat))) ?_ h
  show (match (mutAt C k).map (fun ds => (k, ds)), [D.int i, d] with
    | some (i, xs), [.int k, y] => if xs.length < sizeLine ∧ 0 ≤ k ∧ k < 2 ^ 63 then R.ok (D.non, C.set i (.lst (xs.take k.toNat ++ [y] ++ xs.drop k.toNat))) else .no
    | _, _ => .no) = _
  rw [mutAt_lst hk]
  simp only [Option.map_some, if_pos (And.intro hl (And.intro h0 h1))]
theorem w_extend {k j : Nat} {ds es : List D} (hk : C[k]? = some (.lst ds)) (hj : C[j]? = some (.lst es)) (hl : ds.length + es.length ≤ sizeLine) (h : QD .non (C.set k (.lst (ds ++ es)))) : W (gExtend (.cell k) [.cell j] C) QD := by
  refine W.of (a := .non) (C := C.set k (.lst (ds ++ es))) ?_ h
  show (match (mutAt C k).map (fun ds => (k, ds)), [D.cell j] with
    | some (i, xs), [y] => match cellOf C y with
      | some (_, ys) => if xs.length + ys.length ≤ sizeLine then R.ok (D.non, C.set i (.lst (xs ++ ys))) else .no
      | none => .no
    | _, _ => .no) = _
  have e : cellOf C (.cell j) = some (j, es) := by
    show (mutAt C j).map (fun ds => (j, ds)) = _
    rw [mutAt_lst hj]
    rfl
  rw [mutAt_lst hk]
  simp only [Option.map_some, e, if_pos hl]
theorem w_remove {k : Nat} {l : List Int} {i : Int} (hk : C[k]? = some (.lst (l.map D.int))) (hm : i ∈ l) (h : QD .non (C.set k (.lst ((l.eraseIdx (l.idxOf i)).map D.int)))) : W (gRemove (.cell k) [.int i] C) QD := by
  refine W.of (a := .non) (C := C.set k (.lst ((l.eraseIdx (l.idxOf i)).map D.int))) ?_ h
  show (match (mutAt C k).map (fun ds => (k, ds)), [D.int i] with
    | some (i, xs), [.int k] => match intsOf xs with
      | some ns => match idxF (.int k) xs with
        | some j => R.ok (D.non, C.set i (.lst ((ns.eraseIdx j).map D.int)))
        | none => .no
      | none => .no
    | _, _ => .no) = _
  rw [mutAt_lst hk]
  simp only [Option.map_some, intsOf_map, idxF_mem hm]
end
end Nv

namespace Nv
open PySem PySem.Spec PyProof.Rows L2
/-! dicts whose keys are tuples that nest (whole numbers, truths, None) -/
mutual
def NkV (K : PySem.W.Frag) (H : Hp) : NestedKey → V → Prop
  | .none, v => v = .non
  | .num i, v => v = .int i ∨ ∃ b : Bool, v = .bl b ∧ i = if b = true then 1 else 0
  | .text x, v => v = .str x
  | .tup ks, v => ∃ a vs, v = .ref a ∧ SqT K H a vs ∧ NksV K H ks vs
def NksV (K : PySem.W.Frag) (H : Hp) : List NestedKey → List V → Prop
  | [], vs => vs = []
  | k :: ks, vs => ∃ v w, vs = v :: w ∧ NkV K H k v ∧ NksV K H ks w
end
section
variable {X : Cx} {pins : List (Addr × Obj)} {σ : L2.St} {H : Hp} {s : Shared} {a b : Addr} {k : NestedKey} {xs : List (NestedKey × Addr × V)}
mutual
theorem nk_is (I : L2.Inv X pins σ H s) : ∀ (k : NestedKey) {v : V} {u : Value}, NkV X.K H k v → RelV v u → NestedIs s.heap k u
  | .none, _, _, h, r => by
    cases (show _ = V.non from h)
    cases (show _ = Value.none from r)
    exact .none
  | .num i, _, _, h, r => by
    rcases h with rfl | ⟨b, rfl, e⟩
    · obtain ⟨t, rfl⟩ := r
      exact .int i t
    · cases (show _ = Value.bool b from r)
      exact .bool e
  | .text x, _, _, h, r => by
    cases (show _ = V.str x from h)
    obtain ⟨t, rfl⟩ := r
    exact .text x t
  | .tup ks, _, _, h, r => by
    obtain ⟨a, vs, rfl, h1, h2⟩ := h
    cases (show _ = Value.ref a from r)
    obtain ⟨its, rv, ⟨o, e1, e2, n, e3⟩, _⟩ := I.tuple h1
    exact .tup e1 e2 e3 (nks_is I ks h2 (by simpa using rv))
theorem nks_is (I : L2.Inv X pins σ H s) : ∀ (ks : List NestedKey) {vs : List V} {us : List Value}, NksV X.K H ks vs → Vals vs us → NestedAll s.heap ks us
  | [], _, _, h, r => by
    cases (show _ = [] from h)
    cases r
    exact .nil
  | k :: ks, _, _, h, r => by
    obtain ⟨v, w, rfl, h1, h2⟩ := h
    cases r with
    | cons r1 r2 => exact .cons (nk_is I k h1 r1) (nks_is I ks h2 r2)
end
def NkS (K : PySem.W.Frag) (H : Hp) (xs : List (NestedKey × Addr × V)) : Prop := ∀ x ∈ xs, NkV K H x.1 (.ref x.2.1) ∧ x.1.depth ≤ 8
abbrev NdR : List (NestedKey × Addr × V) → List (NestedKey × Addr × Value) → Prop := Paired fun x y => x.1 = y.1 ∧ x.2.1 = y.2.1 ∧ RelV x.2.2 y.2.2
theorem ent_eq {P : Program} {w : World} : ∀ {ys : List (NestedKey × Addr × Value)}, (∀ y ∈ ys, noTx y.1 = true) → ys.map (entryOfKey (nestedKind P w)) = ys.map entN
  | [], _ => rfl
  | y :: ys, h => by
    rw [List.map_cons, List.map_cons, ent_eq fun z hz => h z (List.mem_cons_of_mem _ hz)]
    congr 1
    show (⟨y.1.hash w, _, _⟩ : DictEntry) = _
    rw [hash0_eq w y.1 (h y List.mem_cons_self)]
    rfl
theorem NdR.all {Pr : NestedKey → Addr → Prop} : ∀ {xs : List (NestedKey × Addr × V)} {ys : List (NestedKey × Addr × Value)}, NdR xs ys → (∀ x ∈ xs, Pr x.1 x.2.1) → ∀ y ∈ ys, Pr y.1 y.2.1
  | _, _, .nil, _, _, h => nomatch h
  | _, _, .cons hxy r, hx, y, h => by
    rcases List.mem_cons.mp h with rfl | h
    · rw [← hxy.1, ← hxy.2.1]
      exact hx _ List.mem_cons_self
    · exact NdR.all r (fun x hx' => hx x (List.mem_cons_of_mem _ hx')) y h
theorem nd_of (I : L2.Inv X pins σ H s) (e : H a = some (ND a xs)) (hk : NkS X.K H xs) : (a == sysModules) = false ∧ xs.length ≤ sizeLine ∧ (∀ x ∈ xs, noTx x.1 = true) ∧ ∃ ys, NdR xs ys ∧ s.heap.DictOfH (nestedKind X.prog X.w) a ys := by
  obtain ⟨⟨lo, tx, hl, ys, r, o, es, ep, h1, h2, h3, h4, h5⟩, _, _⟩ := (show ObjOk X.prog X.w H s.heap a (ND a xs) from I.hok a _ e)
  refine ⟨lo, hl, tx, ys, r, o, es, ep, h1, h2, h3, ?_, ?_, h5⟩
  · rw [ent_eq (NdR.all (Pr := fun k _ => noTx k = true) r tx)]
    exact h4
  · exact NdR.all (Pr := fun k b => (nestedKind X.prog X.w).is s.heap k b) r fun x hx => ⟨nk_is I _ (hk x hx).1 rfl, (hk x hx).2⟩
def valN (xs : List (NestedKey × Addr × V)) (k : NestedKey) : Option V := (xs.find? fun x => decide (x.1 = k)).map (·.2.2)
theorem NdR.val (k : NestedKey) : ∀ {xs : List (NestedKey × Addr × V)} {ys : List (NestedKey × Addr × Value)}, NdR xs ys → RelO (valN xs k) ((atKey ys k).map (·.2))
  | _, _, .nil => trivial
  | x :: xs, y :: ys, .cons h r => by
    have ih := NdR.val k r
    unfold valN atKey at *
    rw [List.find?_cons, List.find?_cons]
    by_cases hk : x.1 = k
    · rw [decide_eq_true hk, decide_eq_true (h.1.symm.trans hk)]
      exact h.2.2
    · rw [decide_eq_false hk, decide_eq_false fun z => hk (h.1.trans z)]
      exact ih
def putN (xs : List (NestedKey × Addr × V)) (k : NestedKey) (b : Addr) (v : V) : List (NestedKey × Addr × V) :=
  if (valN xs k).isSome = true then xs.map (fun x => if x.1 = k then (x.1, x.2.1, v) else x) else xs ++ [(k, b, v)]
theorem NdR.mapPut {k : NestedKey} {v : V} {u : Value} (rv : RelV v u) : ∀ {xs : List (NestedKey × Addr × V)} {ys : List (NestedKey × Addr × Value)}, NdR xs ys → NdR (xs.map fun x => if x.1 = k then (x.1, x.2.1, v) else x) (ys.map (putAt k u))
  | _, _, .nil => .nil
  | x :: xs, y :: ys, .cons h r => by
    rw [List.map_cons, List.map_cons]
    refine .cons ?_ (NdR.mapPut rv r)
    unfold putAt
    by_cases hk : x.1 = k
    · rw [if_pos hk, if_pos (h.1.symm.trans hk)]
      exact ⟨h.1, h.2.1, rv⟩
    · rw [if_neg hk, if_neg fun z => hk (h.1.trans z)]
      exact h
theorem NdR.put {k : NestedKey} {v : V} {u : Value} (rv : RelV v u) {ys : List (NestedKey × Addr × Value)} (r : NdR xs ys) : NdR (putN xs k b v) (storedH ys k b u) := by
  have e : (valN xs k).isSome = (atKey ys k).isSome := by
    have := (r.val k).isSome_eq
    rwa [Option.isSome_map] at this
  unfold putN storedH
  rw [e]
  split
  · exact r.mapPut rv
  · exact Paired.snoc r ⟨rfl, rfl, rv⟩
theorem putN_length (k : NestedKey) (v : V) : (putN xs k b v).length ≤ xs.length + 1 := by
  unfold putN
  split <;> simp
theorem putN_all {Pr : NestedKey → Addr → Prop} {k : NestedKey} {v : V} (h : ∀ x ∈ xs, Pr x.1 x.2.1) (hk : Pr k b) : ∀ x ∈ putN xs k b v, Pr x.1 x.2.1 := by
  unfold putN
  split
  · intro x hx
    obtain ⟨y, hy, rfl⟩ := List.mem_map.mp hx
    have := h y hy
    split <;> exact this
  · intro x hx
    rcases List.mem_append.mp hx with hx | hx
    · exact h x hx
    · cases List.mem_singleton.mp hx
      exact hk
theorem nd_obj {P : Program} {w : World} {H' : Hp} {h' : Heap} {ys : List (NestedKey × Addr × Value)} (lo : (a == sysModules) = false) (tx : ∀ x ∈ xs, noTx x.1 = true) (hl : xs.length ≤ sizeLine) (r : NdR xs ys) (dd : h'.DictOfH (nestedKind P w) a ys) : ObjOk P w H' h' a (ND a xs) := by
  obtain ⟨o, es, ep, h1, h2, h3, h4, _, h5⟩ := dd
  rw [ent_eq (NdR.all (Pr := fun k _ => noTx k = true) r tx)] at h4
  exact ⟨⟨lo, tx, hl, ys, r, o, es, ep, h1, h2, h3, h4, h5⟩, ⟨o, h1⟩, fun hA hB ⟨lo', tx', hl', ys', r', o', es', ep', g1, g⟩ keep => ⟨lo', tx', hl', ys', r', o', es', ep', keep _ g1, g⟩⟩
end
/-- what the dict at a holds at the key y -/
def NdGet (K : PySem.W.Frag) (H : Hp) (a : Addr) (y : V) (o : Option V) : Prop := ∃ xs k b, H a = some (ND a xs) ∧ NkS K H xs ∧ y = .ref b ∧ NkV K H k y ∧ k.depth ≤ 8 ∧ o = valN xs k
def NdPut (K : PySem.W.Frag) (H : Hp) (a : Addr) (y v : V) (H' : Hp) : Prop := ∃ xs k b, H a = some (ND a xs) ∧ NkS K H xs ∧ y = .ref b ∧ NkV K H k y ∧ k.depth ≤ 8 ∧ noTx k = true ∧ xs.length < sizeLine ∧ H' = upd H a (ND a (putN xs k b v))
section
variable {X : Cx} {pins : List (Addr × Obj)} {σ : L2.St} {H : Hp} {s : Shared} {a : Addr} {y v : V} {u r : Value} {o : Option V} {A : Around} {E : Value → Shared → Prop}
theorem nd_room {P : Program} {w : World} (hu : A.units + 10 < cLine) : (nestedKind P w).room A.in1 := by
  show A.in1.units + 8 < cLine
  show A.units + 1 + 8 < cLine
  omega
theorem nd_typeIs (I : L2.Inv X pins σ H s) (g : NdGet X.K H a y o) : s.TypeIs (.ref a) "dict" := by
  obtain ⟨xs, k, b, e, hs, _⟩ := g
  obtain ⟨_, _, _, ys, _, dd⟩ := nd_of I e hs
  exact dd.typeIs
theorem nd_getItem {Q : Value → Shared → Prop} (hu : A.units + 10 < cLine) (I : L2.Inv X pins σ H s) (g : NdGet X.K H a y (some v)) (ry : RelV y u) (h : ∀ w' s', L2.Inv X pins σ H s' → RelV v w' → Q w' s') : wpAny (model X.prog X.w) A (getItem (.ref a) u) Q E s := by
  obtain ⟨xs, k, b, e, hs, rfl, hk, hd, l⟩ := g
  cases (show u = Value.ref b from ry)
  obtain ⟨lo, hl, tx, ys, rel, dd⟩ := nd_of I e hs
  obtain ⟨w', hw, rw'⟩ := RelO.some_of (v := v) (o := (atKey ys k).map (·.2)) (by rw [l]; exact rel.val k)
  obtain ⟨p, hp, hp2⟩ := Option.map_eq_some_iff.mp hw
  refine wpAny_getItem_heap (knd := nestedKind X.prog X.w) (nd_room hu) ⟨nk_is I k hk rfl, hd⟩ dd hp ?_
  rw [hp2]
  exact h w' _ (I.tok _) rw'
theorem nd_in {Q : Value → Shared → Prop} (hu : A.units + 10 < cLine) (I : L2.Inv X pins σ H s) (g : NdGet X.K H a y o) (ry : RelV y u) (h : ∀ s', L2.Inv X pins σ H s' → Q (.bool o.isSome) s') : wpAny (model X.prog X.w) A (compareOp .In u (.ref a)) Q E s := by
  obtain ⟨xs, k, b, e, hs, rfl, hk, hd, l⟩ := g
  cases (show u = Value.ref b from ry)
  obtain ⟨lo, hl, tx, ys, rel, dd⟩ := nd_of I e hs
  refine wpAny_in_heap (knd := nestedKind X.prog X.w) (nd_room hu) ⟨nk_is I k hk rfl, hd⟩ lo dd ?_
  have q := (rel.val k).isSome_eq
  rw [Option.isSome_map] at q
  rw [← q, ← l]
  exact h _ (I.tok _)
theorem nd_notIn {Q : Value → Shared → Prop} (hu : A.units + 10 < cLine) (I : L2.Inv X pins σ H s) (g : NdGet X.K H a y o) (ry : RelV y u) (h : ∀ s', L2.Inv X pins σ H s' → Q (.bool (!o.isSome)) s') : wpAny (model X.prog X.w) A (compareOp .NotIn u (.ref a)) Q E s := by
  obtain ⟨xs, k, b, e, hs, rfl, hk, hd, l⟩ := g
  cases (show u = Value.ref b from ry)
  obtain ⟨lo, hl, tx, ys, rel, dd⟩ := nd_of I e hs
  refine wpAny_notIn_heap (knd := nestedKind X.prog X.w) (nd_room hu) ⟨nk_is I k hk rfl, hd⟩ lo dd ?_
  have q := (rel.val k).isSome_eq
  rw [Option.isSome_map] at q
  rw [← q, ← l]
  exact h _ (I.tok _)
theorem nd_get2 {Q : Value → Shared → Prop} {z : V} {x : Value} (hu : A.units + 10 < cLine) (I : L2.Inv X pins σ H s) (g : NdGet X.K H a y o) (ry : RelV y u) (rz : RelV z x) (h : ∀ w' s', L2.Inv X pins σ H s' → RelV (o.getD z) w' → Q w' s') : wpAny (model X.prog X.w) A (call (.builtin "dict.get") [.ref a, u, x]) Q E s := by
  obtain ⟨xs, k, b, e, hs, rfl, hk, hd, l⟩ := g
  cases (show u = Value.ref b from ry)
  obtain ⟨lo, hl, tx, ys, rel, dd⟩ := nd_of I e hs
  refine call_meetsIn PySem.F.slot_dict_get dd.typeIs PySem.F.entry_dict_get (PySem.F.args_dict_get_3 _ _ _) (meetsH_dict_get_default (nestedKind X.prog X.w) a b lo x) ⟨nd_room hu, k, ys, ⟨nk_is I k hk rfl, hd⟩, dd, h _ _ (I.tok _) ?_⟩
  have q := rel.val k
  rw [← l] at q
  cases o with
  | none =>
    cases ho : (atKey ys k).map (·.2) with
    | none => exact rz
    | some w => rw [ho] at q; exact False.elim q
  | some v =>
    cases ho : (atKey ys k).map (·.2) with
    | none => rw [ho] at q; exact False.elim q
    | some w => rw [ho] at q; exact q
theorem nd_setItem {H' : Hp} {Q : Unit → Shared → Prop} (hu : A.units + 10 < cLine) (I : L2.Inv X pins σ H s) (g : NdPut X.K H a y v H') (ry : RelV y u) (rv : RelV v r) (h : ∀ s', L2.Inv X pins σ H' s' → Q () s') : wpAny (model X.prog X.w) A (setItem (.ref a) u r) Q E s := by
  obtain ⟨xs, k, b, e, hs, rfl, hk, hd, ht, hl, rfl⟩ := g
  cases (show u = Value.ref b from ry)
  obtain ⟨lo, hl0, tx, ys, rel, dd⟩ := nd_of I e hs
  have hz : ys.length ≤ sizeLine := by rw [← Paired.length rel]; exact hl0
  refine wpAny_setItem_heap (knd := nestedKind X.prog X.w) (hsz := hz) (nd_room hu) ⟨nk_is I k hk rfl, hd⟩ dd fun h' dd' hs' => h _ ?_
  have he : ∃ q, h'.get? a = some q := let ⟨q, _, _, hq, _⟩ := dd'; ⟨q, hq⟩
  have hp := putN_length (xs := xs) (b := b) k v
  exact d_write I (by rw [e]; exact True.intro) hs' he (nd_obj lo (putN_all (Pr := fun k _ => noTx k = true) tx ht) (by omega) (rel.put rv) dd')
end
section
variable {X : Cx} {o i e f value : Expr} {pos pos' tpos cpos apos : Pos} {td ty tv tx : TE}
theorem pe_ndnew : PE X (.Dict [] [] pos) (fun _ H Q => ∀ p, H p = none → Q (.ref p) (upd H p (ND p []))) := ⟨fun pins s σ H Q I h =>
  wpAny_Dict_empty ⟨.ref s.heap.objs.size, _, I.laid (a := s.heap.objs.size) (o := ND s.heap.objs.size []) (t' := s.toks) (fun _ _ q => Heap.get?_push_of_some _ q) (Nat.le_refl _)
    (nd_obj (P := X.prog) (w := X.w) (beq_eq_false_iff_ne.mpr (Ne.symm (Nat.ne_of_lt I.big))) (fun _ h => nomatch h) (Nat.zero_le _) .nil (Heap.DictOfH.new s.heap)), rfl, h _ (I.hok.fresh (Nat.le_refl _))⟩⟩
theorem pe_ndget (hu : X.A.units + 10 < cLine) (ho : PE X o td) (hi : PE X i ty) (hs : NoSl i) : PE X (.Subscript o i pos) (fun σ H Q => td σ H fun x H1 => ty σ H1 fun y H2 => ∃ a v, x = .ref a ∧ NdGet X.K H2 a y (some v) ∧ Q v H2) := by
  refine ⟨fun pins s σ H Q I h => ?_⟩
  refine subD_of PySem.F.slot_dict_getitem.lookup hs (thn (ho.run pins s σ H _ I h) fun u s1 ⟨x, H1, I1, rx, q1⟩ => thn (hi.run pins s1 σ H1 _ I1 q1) fun iv s2 ⟨y, H2, I2, ry, a, v, ex, g, q2⟩ => ?_)
  subst ex
  obtain rfl : u = Value.ref a := rx
  exact ⟨nd_typeIs I2 g, nd_getItem hu I2 g ry fun w' s3 I3 rw' => ⟨v, H2, I3, rw', q2⟩⟩
theorem pc_ndin (hu : X.A.units + 10 < cLine) (hi : PE X i ty) (ho : PE X o td) : PC X .In i o (fun σ H Q => ty σ H fun y H1 => td σ H1 fun x H2 => ∃ a o, x = .ref a ∧ NdGet X.K H2 a y o ∧ Q (.bl o.isSome) H2) := by
  refine ⟨fun pins s σ H Q I h => ?_⟩
  refine thn (hi.run pins s σ H _ I h) fun iv s1 ⟨y, H1, I1, ry, q1⟩ => thn (ho.run pins s1 σ H1 _ I1 q1) fun u s2 ⟨x, H2, I2, rx, a, ov, ex, g, q2⟩ => ?_
  subst ex
  obtain rfl : u = Value.ref a := rx
  exact nd_in hu I2 g ry fun s3 I3 => ⟨.bl ov.isSome, H2, I3, rfl, q2⟩
theorem pc_ndnotin (hu : X.A.units + 10 < cLine) (hi : PE X i ty) (ho : PE X o td) : PC X .NotIn i o (fun σ H Q => ty σ H fun y H1 => td σ H1 fun x H2 => ∃ a o, x = .ref a ∧ NdGet X.K H2 a y o ∧ Q (.bl (!o.isSome)) H2) := by
  refine ⟨fun pins s σ H Q I h => ?_⟩
  refine thn (hi.run pins s σ H _ I h) fun iv s1 ⟨y, H1, I1, ry, q1⟩ => thn (ho.run pins s1 σ H1 _ I1 q1) fun u s2 ⟨x, H2, I2, rx, a, ov, ex, g, q2⟩ => ?_
  subst ex
  obtain rfl : u = Value.ref a := rx
  exact nd_notIn hu I2 g ry fun s3 I3 => ⟨.bl (!ov.isSome), H2, I3, rfl, q2⟩
theorem ps_ndput (hu : X.A.units + 10 < cLine) (ho : PE X o td) (hi : PE X i ty) (hv : PE X value tv) (hs : swapsWith value (some (.Subscript o i pos')) pos.line X.env = pure false) :
    PS X (.Assign [.Subscript o i pos'] value pos) (fun D σ H => tv σ H fun v H1 => td σ H1 fun x H2 => ty σ H2 fun y H3 => ∃ a H4, x = .ref a ∧ NdPut X.K H3 a y v H4 ∧ D.nx σ H4) := by
  refine ⟨fun pins s σ H D I h => ?_⟩
  refine wpAny_Assign_Subscript (thn (hv.run pins s σ H _ I h) fun r s1 ⟨v, H1, I1, rv, q1⟩ => thn (ho.run pins s1 σ H1 _ I1 q1) fun u s2 ⟨x, H2, I2, rx, q2⟩ => thn (hi.run pins s2 σ H2 _ I2 q2) fun iv s3 ⟨y, H3, I3, ry, a, H4, ex, g, q3⟩ => ?_) hs
  subst ex
  obtain rfl : u = Value.ref a := rx
  exact nd_setItem hu I3 g ry rv fun s4 I4 => ⟨σ, H4, I4, q3⟩
theorem nd_noDict {pins : List (Addr × Obj)} {σ : L2.St} {H : Hp} {s : Shared} {a : Addr} {xs : List (NestedKey × Addr × V)} (I : L2.Inv X pins σ H s) (e : H a = some (ND a xs)) : s.TypeIs (.ref a) "dict" ∧ ∀ b, Value.ref a = .ref b → ∃ ob, s.heap.get? b = some ob ∧ ob.dict = none := by
  obtain ⟨⟨lo, tx, hl, ys, r, o, es, ep, h1, h2, h3, h4, h5⟩, _, _⟩ := (show ObjOk X.prog X.w H s.heap a (ND a xs) from I.hok a _ e)
  exact ⟨⟨o, h1, h2.1⟩, fun b q => by cases q; exact ⟨o, h1, h2.2.1⟩⟩
theorem pe_ndget2 (hu : X.A.units + 10 < cLine) (ho : PE X o td) (he : PE X e ty) (hf : PE X f tx) (m : M2 X o "get" apos e f cpos) :
    PE X (.Call (.Attribute o "get" apos) [e, f] [] cpos) (fun σ H Q => td σ H fun x H1 => ∃ a, x = .ref a ∧ (∃ xs, H1 a = some (ND a xs)) ∧ ty σ H1 fun y H2 => tx σ H2 fun z H3 => ∃ o, NdGet X.K H3 a y o ∧ Q (o.getD z) H3) := by
  refine ⟨fun pins s σ H Q I h => ?_⟩
  refine wpAny_Call_method m.base m.few m.line PySem.F.plainAttrs_dict PySem.F.slot_dict_get PySem.F.type_dict_get (thn (ho.run pins s σ H _ I h) fun u s1 ⟨x, H1, I1, rx, a, ex, ⟨xs, d⟩, q1⟩ => ?_)
  subst ex
  obtain rfl : u = Value.ref a := rx
  obtain ⟨t1, t2⟩ := nd_noDict I1 d
  refine ⟨t1, t2, ?_⟩
  rw [m.trees]
  refine Calls.callWith_builtin rfl (Calls.evalArgs_plain (Calls.spliced_cons (thn (he.run pins s1 σ H1 _ I1 q1) fun iv s2 ⟨y, H2, I2, ry, q2⟩ =>
    Calls.spliced_cons (thn (hf.run pins s2 σ H2 _ I2 q2) fun fv s3 ⟨z, H3, I3, rz, ov, g, q3⟩ => Calls.spliced_nil ?_))))
  exact nd_get2 hu I3 g ry rz fun w' s4 I4 rw' => ⟨_, H3, I4, rw', q3⟩
end
/-! a display of such keys -/
def putNs (acc xs : List (NestedKey × Addr × V)) : List (NestedKey × Addr × V) := xs.foldl (fun acc x => putN acc x.1 x.2.1 x.2.2) acc
theorem putNs_length : ∀ (xs acc : List (NestedKey × Addr × V)), (putNs acc xs).length ≤ acc.length + xs.length
  | [], acc => Nat.le_refl _
  | x :: xs, acc => by
    have h1 := putNs_length xs (putN acc x.1 x.2.1 x.2.2)
    have h2 := putN_length (xs := acc) (b := x.2.1) x.1 x.2.2
    show (putNs (putN acc x.1 x.2.1 x.2.2) xs).length ≤ _
    rw [List.length_cons]
    omega
theorem putNs_all {Pr : NestedKey → Addr → Prop} : ∀ (xs acc : List (NestedKey × Addr × V)), (∀ x ∈ acc, Pr x.1 x.2.1) → (∀ x ∈ xs, Pr x.1 x.2.1) → ∀ x ∈ putNs acc xs, Pr x.1 x.2.1
  | [], _, h, _ => h
  | y :: xs, acc, h, hx => putNs_all xs _ (putN_all h (hx y List.mem_cons_self)) fun x hm => hx x (List.mem_cons_of_mem _ hm)
theorem NdR.puts : ∀ {xs : List (NestedKey × Addr × V)} {zs : List (NestedKey × Addr × Value)} {acc : List (NestedKey × Addr × V)} {ys : List (NestedKey × Addr × Value)}, NdR xs zs → NdR acc ys → NdR (putNs acc xs) (storedAllH ys zs)
  | _, _, _, _, .nil, r => r
  | x :: xs, z :: zs, acc, ys, .cons h t, r => by
    show NdR (putNs (putN acc x.1 x.2.1 x.2.2) xs) (storedAllH (storedH ys z.1 z.2.1 z.2.2) zs)
    rw [← h.1, ← h.2.1]
    exact NdR.puts t (r.put h.2.2)
theorem carriesN {P : Program} {w : World} {h : Heap} : ∀ {ps : List (V × V)} {vs : List (Value × Value)} {xs : List (NestedKey × Addr × V)}, VV ps vs → ps = xs.map (fun x => (V.ref x.2.1, x.2.2)) → (∀ x ∈ xs, (nestedKind P w).is h x.1 x.2.1) →
    ∃ zs, NdR xs zs ∧ CarriesH (nestedKind P w) h vs zs
  | _, _, [], .nil, _, _ => ⟨[], .nil, trivial⟩
  | _, _, _ :: _, .nil, e, _ => nomatch e
  | _, _, [], .cons _ _, e, _ => nomatch e
  | p :: ps, q :: vs, x :: xs, .cons h1 t, e, hk => by
    rw [List.map_cons, List.cons.injEq] at e
    obtain ⟨e1, e2⟩ := e
    subst e1
    obtain ⟨zs, r, c⟩ := carriesN (xs := xs) t e2 fun y hy => hk y (List.mem_cons_of_mem _ hy)
    obtain ⟨q1, q2⟩ := q
    cases (show q1 = Value.ref x.2.1 from h1.1)
    exact ⟨(x.1, x.2.1, q2) :: zs, .cons ⟨rfl, rfl, h1.2⟩ r, rfl, rfl, hk x List.mem_cons_self, c⟩
def tNDisp (K : PySem.W.Frag) (trs : List (TE × TE)) : TE := fun σ H Q => ∀ p, H p = none → tPairs trs σ (upd H p (ND p [])) fun ps H2 => H2 p = some (ND p []) ∧ ∃ xs : List (NestedKey × Addr × V), ps = xs.map (fun x => (V.ref x.2.1, x.2.2)) ∧ NkS K H2 xs ∧ (∀ x ∈ xs, noTx x.1 = true) ∧ xs.length ≤ 15 ∧ Q (.ref p) (upd H2 p (ND p (putNs [] xs)))
theorem pe_nddisp {X : Cx} {pos : Pos} {keys : List (Option Expr)} {values : List Expr} {trs : List (TE × TE)} (hu : X.A.units + 10 < cLine) (h : PPs X pos keys values trs) (hall : keys.all (·.isSome) = true) (hl : keys.length = values.length) (h0 : keys ≠ [])
    (h15 : keys.length ≤ 15) : PE X (.Dict keys values pos) (tNDisp X.K trs) := by
  refine ⟨fun pins s σ H Q I q => ?_⟩
  have hn := I.hok.fresh (Nat.le_refl s.heap.objs.size)
  have lo : (s.heap.objs.size == sysModules) = false := beq_eq_false_iff_ne.mpr (Ne.symm (Nat.ne_of_lt I.big))
  have I1 := I.laid (a := s.heap.objs.size) (o := ND s.heap.objs.size []) (h' := s.heap.push { cls := .type "dict", data := .dict #[] }) (t' := s.toks) (fun _ _ q => Heap.get?_push_of_some _ q) (Nat.le_refl _)
    (nd_obj (P := X.prog) (w := X.w) lo (fun _ h => nomatch h) (Nat.zero_le _) .nil (Heap.DictOfH.new s.heap))
  have hpl := pairTrees_length keys values X.env pos hall hl
  have hr : (nestedKind X.prog X.w).room X.A := by show X.A.units + 8 < cLine; omega
  have hp0 : pairTrees keys values X.env pos ≠ [] := fun he => h0 (List.length_eq_zero_iff.mp (by rw [he] at hpl; exact hpl.symm))
  rw [arm_eval_Dict, zip_pairTrees keys values X.env pos hall hl, dictDisplay_pairs _ hp0 (by rw [hpl]; omega)]
  refine wpAny_bind (wpAny_standAt (wpAny_bind (wpAny_subDictH (knd := nestedKind X.prog X.w) (Q := fun d s' => wpAny (model X.prog X.w) X.A (pure (Value.ref d)) _ _ s') hr (by rw [hpl]; exact h15) ?_)))
  refine thn (h.run pins _ σ _ _ I1 (q _ hn)) fun ws s2 ⟨ps, H2, I2, rel, e, xs, ep, nk, tx, l15, q2⟩ => ?_
  obtain ⟨_, _, _, ys0, r0, dd⟩ := nd_of I2 e (fun _ h => nomatch h)
  cases r0
  obtain ⟨zs, rz, c⟩ := carriesN (P := X.prog) (w := X.w) (h := s2.heap) rel ep fun x hx => ⟨nk_is I2 _ (nk x hx).1 rfl, (nk x hx).2⟩
  refine ⟨zs, c, dd, fun h' tk dd' hs => wpAny_pure ⟨.ref s.heap.objs.size, _, ?_, rfl, q2⟩⟩
  have hz := putNs_length xs []
  have he : ∃ q, h'.get? s.heap.objs.size = some q := let ⟨q, _, _, hq, _⟩ := dd'; ⟨q, hq⟩
  refine d_write I2 (by rw [e]; exact True.intro) hs he (nd_obj lo (putNs_all (Pr := fun k _ => noTx k = true) xs [] (fun _ h => nomatch h) tx) ?_ (rz.puts .nil) dd')
  rw [sizeLine_eq]
  rw [List.length_nil] at hz
  omega
end Nv

namespace Nv
open PySem PySem.Spec PyProof.Rows L2
section
variable {K : PySem.W.Frag} {mg : Str → Option Value} {E : XK} {B F H : Hp} {r : List Addr} {C : Store} {Q : VK} {X : Cx} {a b e o i f value : Expr} {es : List Expr} {m ma mb mo mv mi mz : ME} {mas : MG (List D)} {pos p1 p2 p3 : Pos}
mutual
theorem rep_nk (hF : Same F H) : ∀ (d : D) {k : NestedKey} {v : V}, keyN d = some k → Rep K F r d v → NkV K H k v
  | .non, _, _, e, h => by cases e; exact h
  | .bl b, _, _, e, h => by cases e; exact .inr ⟨b, h, rfl⟩
  | .int i, _, _, e, h => by cases e; exact .inl h
  | .tup ds, k, _, e, h => by
    have e : (keysN ds).map NestedKey.tup = some k := e
    cases g : keysN ds with
    | none => rw [g] at e; cases e
    | some ks =>
      rw [g] at e
      cases e
      obtain ⟨a, vs, rfl, h1, h2⟩ := h
      exact ⟨a, vs, rfl, Same.tup hF h1, reps_nk hF ds g h2⟩
  | .str _, _, _, e, _ => nomatch e
  | .lst _, _, _, e, _ => nomatch e
  | .cell _, _, _, e, _ => nomatch e
  | .edct, _, _, e, _ => nomatch e
  | .fn _, _, _, e, _ => nomatch e
  | .exc _ _ _, _, _, e, _ => nomatch e
theorem reps_nk (hF : Same F H) : ∀ (ds : List D) {ks : List NestedKey} {vs : List V}, keysN ds = some ks → Reps K F r ds vs → NksV K H ks vs
  | [], _, _, e, h => by cases e; exact h
  | d :: ds, ks, _, e, h => by
    have e : (keyN d).bind (fun k => (keysN ds).map (k :: ·)) = some ks := e
    cases g : keyN d with
    | none => rw [g] at e; cases e
    | some k =>
      rw [g, Option.bind_some] at e
      cases g2 : keysN ds with
      | none => rw [g2] at e; cases e
      | some ks' =>
        rw [g2] at e
        cases e
        obtain ⟨v, w, rfl, h1, h2⟩ := h
        exact ⟨v, w, rfl, rep_nk hF d g h1, reps_nk hF ds g2 h2⟩
end
def dnAt (C : Store) : D → Option (Nat × List (NestedKey × D))
  | .cell i => match C[i]? with
    | some (.dn kvs) => some (i, kvs)
    | _ => none
  | _ => none
/-- a key that is a tuple -/
def keyT (d : D) : Option NestedKey := match d with
  | .tup _ => match keyN d with
    | some k => if k.depth ≤ 8 then some k else none
    | none => none
  | _ => none
theorem keyT_ok {d : D} {k : NestedKey} {v : V} (hF : Same F H) (e : keyT d = some k) (h : Rep K F r d v) : ∃ b, v = .ref b ∧ NkV K H k v ∧ k.depth ≤ 8 ∧ noTx k = true ∧ keyN d = some k := by
  unfold keyT at e
  split at e
  · split at e
    · rename_i k' ek
      split at e
      · rename_i hd
        cases e
        obtain ⟨a, vs, rfl, h1, h2⟩ := id h
        exact ⟨a, rfl, rep_nk hF _ ek h, hd, keyN_tx _ ek, ek⟩
      · cases e
    · cases e
  · cases e
abbrev wsN (xs : List (NestedKey × Addr × V)) : List (NestedKey × V) := xs.map fun x => (x.1, x.2.2)
theorem wsN_val (k : NestedKey) : ∀ xs : List (NestedKey × Addr × V), valV (wsN xs) k = valN xs k
  | [] => rfl
  | x :: xs => by
    have ih := wsN_val k xs
    unfold valV valN at *
    show ((((x.1, x.2.2) : NestedKey × V) :: wsN xs).find? _).map _ = _
    rw [List.find?_cons, List.find?_cons]
    by_cases hk : x.1 = k
    · simp only [hk, decide_true]
      rfl
    · simp only [hk, decide_false]
      exact ih
theorem wsN_put (k : NestedKey) (p : Addr) (v : V) (xs : List (NestedKey × Addr × V)) : wsN (putN xs k p v) = putK (wsN xs) k v := by
  have e : ∀ xs : List (NestedKey × Addr × V), (valN xs k).isSome = (wsN xs).any fun kv => decide (kv.1 = k) := fun xs => by
    induction xs with
    | nil => rfl
    | cons x xs ih =>
      unfold valN at ih ⊢
      rw [List.find?_cons]
      show _ = (decide (x.1 = k) || (wsN xs).any fun kv => decide (kv.1 = k))
      by_cases hk : x.1 = k
      · rw [decide_eq_true hk]
        rfl
      · rw [decide_eq_false hk, Bool.false_or, ← ih]
  have e := e xs
  unfold putN putK
  rw [e]
  split
  · unfold wsN
    rw [List.map_map, List.map_map]
    refine List.map_congr_left fun x _ => ?_
    show ((if x.1 = k then (x.1, x.2.1, v) else x).1, (if x.1 = k then (x.1, x.2.1, v) else x).2.2) = if x.1 = k then (x.1, v) else (x.1, x.2.2)
    split <;> rfl
  · unfold wsN
    rw [List.map_append]
    rfl
theorem dnAt_ok {x : D} {v : V} {n : Nat} {kvs : List (NestedKey × D)} (hr : Rel K B F r H C) (hx : Rep K F r x v) (e : dnAt C x = some (n, kvs)) :
    ∃ a xs, v = .ref a ∧ r[n]? = some a ∧ F a = none ∧ H a = some (ND a xs) ∧ kvs.map (·.1) = (wsN xs).map (·.1) ∧ Reps K F r (kvs.map (·.2)) ((wsN xs).map (·.2)) ∧ NkS K H xs ∧ ∀ x ∈ xs, ∃ d, keyN d = some x.1 ∧ x.1.depth ≤ 8 ∧ Rep K F r d (.ref x.2.1) := by
  unfold dnAt at e
  split at e
  · split at e
    · rename_i ks ec
      cases e
      obtain ⟨a, rfl, ha⟩ := hx
      obtain ⟨h1, xs, h2, h3, h4, h5⟩ := hr.cells _ _ a ec ha
      refine ⟨a, xs, rfl, ha, h1, h2, ?_, ?_, fun x hx => ?_, h5⟩
      · rw [h3]
        simp [wsN]
      · rw [show (wsN xs).map (·.2) = xs.map (·.2.2) from by simp [wsN]]
        exact h4
      · obtain ⟨d, k1, k2, k3⟩ := h5 x hx
        exact ⟨rep_nk hr.froz d k1 k3, k2⟩
    · cases e
  · cases e
/-- {} that will have such keys -/
def mDNewN : ME := fun _ C => .ok (.cell C.length, C ++ [.dn []])
theorem ne_dnewN : NE X E (.Dict [] [] pos) mDNewN := ⟨pe_imp pe_ndnew fun s H Q q => by
    obtain ⟨B, F, r, sl, C, hr, hs, o⟩ := q
    intro p hp
    refine o F (r ++ [p]) _ _ (.refl _) (Ex.app r _) (hr.alloc hp ⟨hr.freeF hp, [], upd_same, rfl, rfl, fun _ h => nomatch h⟩) ⟨p, rfl, ?_⟩
    rw [← hr.len, List.getElem?_append_right (Nat.le_refl _)]
    simp⟩
theorem dnCell {p : Addr} {xs : List (NestedKey × Addr × V)} {kvs : List (NestedKey × D)} (hn : F p = none) (hp : H p = some (ND p xs)) (h1 : kvs.map (·.1) = (wsN xs).map (·.1)) (h2 : Reps K F r (kvs.map (·.2)) ((wsN xs).map (·.2))) (h3 : ∀ x ∈ xs, ∃ d, keyN d = some x.1 ∧ x.1.depth ≤ 8 ∧ Rep K F r d (.ref x.2.1)) : CellOk K F r H p (.dn kvs) := by
  refine ⟨hn, xs, hp, ?_, ?_, h3⟩
  · rw [h1]
    simp [wsN]
  · rw [show xs.map (·.2.2) = (wsN xs).map (·.2) from by simp [wsN]]
    exact h2
/-- d[k] -/
def mDGetN (mo mi : ME) : ME := fun sl C => (mo sl C).bind fun p => (mi sl p.2).bind fun q => match dnAt q.2 p.1, keyT q.1 with
  | some (_, kvs), some k => match valD kvs k with
    | some d => .ok (d, q.2)
    | none => .no
  | _, _ => .no
theorem ne_dgetN (hu : X.A.units + 64 < cLine) (ho : NE X E o mo) (hi : NE X E i mi) (hs : NoSl i := by intro _ _; rfl) : NE X E (.Subscript o i pos) (mDGetN mo mi) :=
  ⟨pe_imp (pe_ndget (show X.A.units + 10 < cLine by omega) ho.pe hi.pe hs) fun s H Q q => by
    obtain ⟨B, F, r, sl, C, hr, hs, o⟩ := q
    refine ⟨B, F, r, sl, C, hr, hs, Out.bind (P := Rep X.K) o fun x C1 F1 r1 H1 v e1 e2 hr1 hx o1 => ?_⟩
    refine ⟨B, F1, r1, sl, C1, hr1, hs.mono e1 e2, Out.bind (P := Rep X.K) o1 fun y C2 F2 r2 H2 u e3 e4 hr2 hy o2 => ?_⟩
    have hx2 := hx.mono e3 e4
    simp only at o2
    split at o2
    · rename_i n kvs k ed ek
      split at o2
      · rename_i d ev
        obtain ⟨a, xs, rfl, h1, h2, h3, h4, h5, h6, h7⟩ := dnAt_ok hr2 hx2 ed
        obtain ⟨b, rfl, k1, k2, k3, k4⟩ := keyT_ok hr2.froz ek hy
        obtain ⟨w, g1, g2⟩ := val_ok h4 h5 ev
        rw [wsN_val] at g1
        exact ⟨a, w, rfl, ⟨xs, k, b, h3, h6, rfl, k1, k2, g1.symm⟩, out_ok hr2 g2 o2⟩
      · exact False.elim o2
    · exact False.elim o2⟩
/-- k in d, not in d -/
def mDInN (neg : Bool) (mi mo : ME) : ME := fun sl C => (mi sl C).bind fun q => (mo sl q.2).bind fun p => match dnAt p.2 p.1, keyT q.1 with
  | some (_, kvs), some k => .ok (.bl (if neg then !(valD kvs k).isSome else (valD kvs k).isSome), p.2)
  | _, _ => .no
theorem dinN_ok {neg : Bool} {s : L2.St} {H : Hp} {Q : VK} (q : LG (Rep X.K) X.K X.mg E (mDInN neg mi mo) s H Q) : LG (Rep X.K) X.K X.mg E mi s H fun y H1 => LG (Rep X.K) X.K X.mg E mo s H1 fun x H2 => ∃ a o, x = .ref a ∧ NdGet X.K H2 a y o ∧ Q (.bl (if neg then !o.isSome else o.isSome)) H2 := by
  obtain ⟨B, F, r, sl, C, hr, hs, o⟩ := q
  refine ⟨B, F, r, sl, C, hr, hs, Out.bind (P := Rep X.K) o fun x C1 F1 r1 H1 v e1 e2 hr1 hx o1 => ?_⟩
  refine ⟨B, F1, r1, sl, C1, hr1, hs.mono e1 e2, Out.bind (P := Rep X.K) o1 fun y C2 F2 r2 H2 u e3 e4 hr2 hy o2 => ?_⟩
  have hx2 := hx.mono e3 e4
  simp only at o2
  split at o2
  · rename_i n kvs k ed ek
    obtain ⟨a, xs, rfl, h1, h2, h3, h4, h5, h6, h7⟩ := dnAt_ok hr2 hy ed
    obtain ⟨b, rfl, k1, k2, k3, k4⟩ := keyT_ok hr2.froz ek hx2
    refine ⟨a, valN xs k, rfl, ⟨xs, k, b, h3, h6, rfl, k1, k2, rfl⟩, ?_⟩
    rw [← wsN_val, ← val_none h4]
    exact out_ok (d := .bl (if neg then !(valD kvs k).isSome else (valD kvs k).isSome)) hr2 rfl o2
  · exact False.elim o2
theorem ne_dinN (hu : X.A.units + 64 < cLine) (hi : NE X E i mi) (ho : NE X E o mo) (hk : behindInMarks .In o = false := by rfl) : NE X E (.Compare i [.In] [o] pos) (mDInN false mi mo) :=
  ⟨pe_imp (pe_cmp (pc_ndin (show X.A.units + 10 < cLine by omega) hi.pe ho.pe) hk) fun _ _ _ q => dinN_ok (neg := false) q⟩
theorem ne_dninN (hu : X.A.units + 64 < cLine) (hi : NE X E i mi) (ho : NE X E o mo) (hk : behindInMarks .NotIn o = false := by rfl) : NE X E (.Compare i [.NotIn] [o] pos) (mDInN true mi mo) :=
  ⟨pe_imp (pe_cmp (pc_ndnotin (show X.A.units + 10 < cLine by omega) hi.pe ho.pe) hk) fun _ _ _ q => dinN_ok (neg := true) q⟩
theorem nt_dinN (hu : X.A.units + 64 < cLine) (hi : NE X E i mi) (ho : NE X E o mo) (hk : behindInMarks .In o = false := by rfl) : NT X E (.Compare i [.In] [o] pos) (mT (mDInN false mi mo)) :=
  ⟨pt_imp (pt_cmp (pc_ndin (show X.A.units + 10 < cLine by omega) hi.pe ho.pe) hk) (test fun _ _ _ q => dinN_ok (neg := false) q)⟩
theorem nt_dninN (hu : X.A.units + 64 < cLine) (hi : NE X E i mi) (ho : NE X E o mo) (hk : behindInMarks .NotIn o = false := by rfl) : NT X E (.Compare i [.NotIn] [o] pos) (mT (mDInN true mi mo)) :=
  ⟨pt_imp (pt_cmp (pc_ndnotin (show X.A.units + 10 < cLine by omega) hi.pe ho.pe) hk) (test fun _ _ _ q => dinN_ok (neg := true) q)⟩
/-- d.get(k, z) -/
def mDGet2N (mo mi mz : ME) : ME := fun sl C => (mo sl C).bind fun p => match dnAt p.2 p.1 with
  | some _ => (mi sl p.2).bind fun q => (mz sl q.2).bind fun t => match dnAt t.2 p.1, keyT q.1 with
    | some (_, kvs), some k => .ok ((valD kvs k).getD t.1, t.2)
    | _, _ => .no
  | none => .no
theorem val_optN {kvs : List (NestedKey × D)} {ws : List (NestedKey × V)} {k : NestedKey} {z : D} {zv : V} (h4 : kvs.map (·.1) = ws.map (·.1)) (h5 : Reps K F r (kvs.map (·.2)) (ws.map (·.2))) (hz : Rep K F r z zv) : Rep K F r ((valD kvs k).getD z) ((valV ws k).getD zv) := by
  cases ev : valD kvs k with
  | none =>
    have := val_none (k := k) h4
    rw [ev] at this
    cases ew : valV ws k with
    | none => exact hz
    | some w => rw [ew] at this; cases this
  | some d =>
    obtain ⟨w, g1, g2⟩ := val_ok h4 h5 ev
    rw [g1]
    exact g2
theorem ne_dget2N {apos : Pos} (hu : X.A.units + 64 < cLine) (ho : NE X E o mo) (hi : NE X E i mi) (hz : NE X E f mz) (m : M2 X o "get" apos i f pos := by exact ⟨rfl, rfl, rfl, rfl⟩) : NE X E (.Call (.Attribute o "get" apos) [i, f] [] pos) (mDGet2N mo mi mz) :=
  ⟨pe_imp (pe_ndget2 (show X.A.units + 10 < cLine by omega) ho.pe hi.pe hz.pe m) fun s H Q q => by
    obtain ⟨B, F, r, sl, C, hr, hs, o⟩ := q
    refine ⟨B, F, r, sl, C, hr, hs, Out.bind (P := Rep X.K) o fun x C1 F1 r1 H1 v e1 e2 hr1 hx o1 => ?_⟩
    simp only at o1
    split at o1
    case h_2 => exact False.elim o1
    rename_i p0 ed0
    obtain ⟨n0, kvs0⟩ := p0
    obtain ⟨a, xs0, rfl, _, _, h30, _⟩ := dnAt_ok hr1 hx ed0
    refine ⟨a, rfl, ⟨_, h30⟩, B, F1, r1, sl, C1, hr1, hs.mono e1 e2, Out.bind (P := Rep X.K) o1 fun y C2 F2 r2 H2 u e3 e4 hr2 hy o2 => ?_⟩
    refine ⟨B, F2, r2, sl, C2, hr2, (hs.mono e1 e2).mono e3 e4, Out.bind (P := Rep X.K) o2 fun z C3 F3 r3 H3 t e5 e6 hr3 hz3 o3 => ?_⟩
    have hx3 := (hx.mono e3 e4).mono e5 e6
    have hy3 := hy.mono e5 e6
    simp only at o3
    split at o3
    · rename_i n kvs k ed ek
      obtain ⟨a2, xs, ea, h1, h2, h3, h4, h5, h6, h7⟩ := dnAt_ok hr3 hx3 ed
      cases ea
      obtain ⟨b, rfl, k1, k2, k3, k4⟩ := keyT_ok hr3.froz ek hy3
      refine ⟨valN xs k, ⟨xs, k, b, h3, h6, rfl, k1, k2, rfl⟩, ?_⟩
      rw [← wsN_val]
      exact out_ok hr3 (val_optN h4 h5 hz3) o3
    · exact False.elim o3⟩
/-- d[k] = v -/
def sDPutN (mv mo mi : ME) : MS := fun sl C => (mv sl C).bind fun t => (mo sl t.2).bind fun p => (mi sl p.2).bind fun q => match dnAt q.2 p.1, keyT q.1 with
  | some (n, kvs), some k => if kvs.length < sizeLine then .ok ((.nx, sl), q.2.set n (.dn (putD kvs k t.1))) else .no
  | _, _ => .no
theorem putN_keys {k : NestedKey} {p : Addr} {v : V} {xs : List (NestedKey × Addr × V)} {d : D} (hd : keyN d = some k ∧ k.depth ≤ 8 ∧ Rep K F r d (.ref p)) (h : ∀ x ∈ xs, ∃ d, keyN d = some x.1 ∧ x.1.depth ≤ 8 ∧ Rep K F r d (.ref x.2.1)) :
    ∀ x ∈ putN xs k p v, ∃ d, keyN d = some x.1 ∧ x.1.depth ≤ 8 ∧ Rep K F r d (.ref x.2.1) := putN_all (Pr := fun k b => ∃ d, keyN d = some k ∧ k.depth ≤ 8 ∧ Rep K F r d (.ref b)) h ⟨d, hd⟩
theorem ns_dputN (hu : X.A.units + 64 < cLine) (hv : NE X E value mv) (ho : NE X E o mo) (hi : NE X E i mi) (hs : swapsWith value (some (.Subscript o i p2)) pos.line X.env = pure false := by rfl) :
    NS X E (.Assign [.Subscript o i p2] value pos) (sDPutN mv mo mi) :=
  ⟨ps_imp (ps_ndput (show X.A.units + 10 < cLine by omega) ho.pe hi.pe hv.pe hs) fun De s H q => by
    obtain ⟨B, F, r, sl, C, hr, hs, o⟩ := q
    refine ⟨B, F, r, sl, C, hr, hs, OutS.bind (P := Rep X.K) o fun d C0 F0 r0 H0 z k1 k2 hr0 hd o0 => ?_⟩
    refine ⟨B, F0, r0, sl, C0, hr0, hs.mono k1 k2, OutS.bind (P := Rep X.K) o0 fun x C1 F1 r1 H1 v e1 e2 hr1 hx o1 => ?_⟩
    refine ⟨B, F1, r1, sl, C1, hr1, (hs.mono k1 k2).mono e1 e2, OutS.bind (P := Rep X.K) o1 fun y C2 F2 r2 H2 u e3 e4 hr2 hy o2 => ?_⟩
    have hx2 := hx.mono e3 e4
    have hd2 := (hd.mono e1 e2).mono e3 e4
    simp only at o2
    split at o2
    · rename_i n kvs k ed ek
      split at o2
      · rename_i hl
        obtain ⟨a, xs, rfl, h1, h2, h3, h4, h5, h6, h7⟩ := dnAt_ok hr2 hx2 ed
        obtain ⟨b, rfl, g1, g2, g3, g4⟩ := keyT_ok hr2.froz ek hy
        have hlen := congrArg List.length h4
        rw [List.length_map, List.length_map, List.length_map] at hlen
        refine ⟨a, _, rfl, ⟨xs, k, b, h3, h6, rfl, g1, g2, g3, by omega, rfl⟩, OutS.next o2 (hr2.write (o := ND a (putN xs k b z)) h1 h2 (dnCell h2 upd_same ?_ ?_ (putN_keys ⟨g4, g2, hy⟩ h7))) (((hs.mono k1 k2).mono e1 e2).mono e3 e4)⟩
        · rw [wsN_put]
          exact putD_keys h4
        · rw [wsN_put]
          exact putD_reps h4 h5 hd2
      · exact False.elim o2
    · exact False.elim o2⟩
/-! displays -/
def dpM : List (ME × ME) → MG (List (D × D))
  | [] => fun _ C => .ok ([], C)
  | (mk, mv) :: rs => fun sl C => (mk sl C).bind fun p => (mv sl p.2).bind fun q => (dpM rs sl q.2).bind fun z => .ok ((p.1, q.1) :: z.1, z.2)
inductive NPs (X : Cx) (E : XK) : List (Option Expr) → List Expr → List (ME × ME) → Prop
  | nil : NPs X E [] [] []
  | cons {k v : Expr} {ks : List (Option Expr)} {vs : List Expr} {mk mv : ME} {rs : List (ME × ME)} (hk : NE X E k mk) (hv : NE X E v mv) (hr : NPs X E ks vs rs) : NPs X E (some k :: ks) (v :: vs) ((mk, mv) :: rs)
abbrev PRP (K : PySem.W.Frag) : PR (List (D × D)) (List (V × V)) := fun F r ds ps => Reps K F r (ds.map (·.1)) (ps.map (·.1)) ∧ Reps K F r (ds.map (·.2)) (ps.map (·.2))
abbrev trN (X : Cx) (E : XK) (rs : List (ME × ME)) : List (TE × TE) := rs.map fun p => (LG (Rep X.K) X.K X.mg E p.1, LG (Rep X.K) X.K X.mg E p.2)
theorem NPs.pps {ks : List (Option Expr)} {vs : List Expr} {rs : List (ME × ME)} (h : NPs X E ks vs rs) : PPs X pos ks vs (trN X E rs) := by
  induction h with
  | nil => exact pps_nil
  | cons hk hv hr ih => exact pps_cons hk.pe hv.pe ih
theorem NPs.sh {ks : List (Option Expr)} {vs : List Expr} {rs : List (ME × ME)} (h : NPs X E ks vs rs) : ks.all (·.isSome) = true ∧ ks.length = vs.length := by
  induction h with
  | nil => exact ⟨rfl, rfl⟩
  | cons hk hv hr ih => exact ⟨by simpa using ih.1, by simp [ih.2]⟩
theorem tPairs_of {s : L2.St} {sl : Sl} : ∀ (rs : List (ME × ME)) {B F : Hp} {r : List Addr} {H : Hp} {C : Store} {Q : List (V × V) → Hp → Prop}, Rel X.K B F r H C → Sls X.K F r sl s → Out (PRP X.K) X.K X.mg E B F r (dpM rs sl C) Q → tPairs (trN X E rs) s H Q
  | [], B, F, r, H, C, Q, hr, hs, o => o F r H [] (.refl _) (.refl _) hr ⟨rfl, rfl⟩
  | (mk, mv) :: rs, B, F, r, H, C, Q, hr, hs, o => by
    refine ⟨B, F, r, sl, C, hr, hs, Out.bind (P := Rep X.K) o fun x C1 F1 r1 H1 v e1 e2 hr1 hx o1 => ?_⟩
    refine ⟨B, F1, r1, sl, C1, hr1, hs.mono e1 e2, Out.bind (P := Rep X.K) o1 fun y C2 F2 r2 H2 u e3 e4 hr2 hy o2 => ?_⟩
    refine tPairs_of rs hr2 ((hs.mono e1 e2).mono e3 e4) (Out.bind (P := PRP X.K) o2 fun z C3 F3 r3 H3 ps e5 e6 hr3 hz o3 => ?_)
    exact o3 F3 r3 H3 _ (.refl _) (.refl _) hr3 ⟨.cons ((hx.mono e3 e4).mono e5 e6) hz.1, .cons (hy.mono e5 e6) hz.2⟩
/-- keys that nest -/
def ndKeys : List (D × D) → Option (List (NestedKey × D))
  | [] => some []
  | (k, v) :: r => (keyT k).bind fun k => (ndKeys r).map ((k, v) :: ·)
def putDs {κ : Type} [DecidableEq κ] (acc kvs : List (κ × D)) : List (κ × D) := kvs.foldl (fun acc kv => putD acc kv.1 kv.2) acc
theorem ndKeys_ok (hF : Same F H) : ∀ {ds : List (D × D)} {ps : List (V × V)} {kvs : List (NestedKey × D)}, PRP K F r ds ps → ndKeys ds = some kvs → ∃ xs : List (NestedKey × Addr × V), ps = xs.map (fun x => (V.ref x.2.1, x.2.2)) ∧ kvs.map (·.1) = (wsN xs).map (·.1) ∧ Reps K F r (kvs.map (·.2)) ((wsN xs).map (·.2)) ∧
    ∀ x ∈ xs, NkV K H x.1 (.ref x.2.1) ∧ x.1.depth ≤ 8 ∧ noTx x.1 = true ∧ ∃ d, keyN d = some x.1 ∧ Rep K F r d (.ref x.2.1)
  | [], ps, _, h, e => by
    cases e
    have : ps = [] := by simpa using (show ps.map (·.1) = [] from h.1)
    subst this
    exact ⟨[], rfl, rfl, rfl, fun _ h => nomatch h⟩
  | (k, v) :: ds, [], _, h, e => by
    obtain ⟨_, _, z, _⟩ := (show Reps K F r (k :: ds.map (·.1)) [] from h.1)
    cases z
  | (k, v) :: ds, p :: ps, kvs, h, e => by
    have e : (keyT k).bind (fun k => (ndKeys ds).map ((k, v) :: ·)) = some kvs := e
    obtain ⟨u, us, e1, h1, h2⟩ := (show Reps K F r (k :: ds.map (·.1)) (p.1 :: ps.map (·.1)) from h.1)
    obtain ⟨w, ws, e2, h3, h4⟩ := (show Reps K F r (v :: ds.map (·.2)) (p.2 :: ps.map (·.2)) from h.2)
    rw [List.cons.injEq] at e1 e2
    obtain ⟨e11, e12⟩ := e1
    obtain ⟨e21, e22⟩ := e2
    subst e12 e22
    cases hk : keyT k with
    | none => rw [hk] at e; cases e
    | some kk =>
      rw [hk, Option.bind_some] at e
      cases hn : ndKeys ds with
      | none => rw [hn] at e; cases e
      | some kvs' =>
        rw [hn] at e
        cases e
        obtain ⟨xs, q1, q2, q3, q4⟩ := ndKeys_ok hF ⟨h2, h4⟩ hn
        obtain ⟨b, rfl, k1, k2, k3, k4⟩ := keyT_ok hF hk h1
        refine ⟨(kk, b, w) :: xs, ?_, ?_, .cons h3 q3, fun x hx => ?_⟩
        · rw [List.map_cons, ← q1]
          obtain ⟨p1, p2⟩ := p
          simp only at e11 e21
          rw [e11, e21]
        · show kk :: kvs'.map (·.1) = kk :: (wsN xs).map (·.1)
          rw [q2]
        · rcases List.mem_cons.mp hx with rfl | hx
          · exact ⟨k1, k2, k3, k, k4, h1⟩
          · exact q4 x hx
theorem putNs_ok : ∀ (xs acc : List (NestedKey × Addr × V)) (kvs kacc : List (NestedKey × D)), kvs.map (·.1) = (wsN xs).map (·.1) → Reps K F r (kvs.map (·.2)) ((wsN xs).map (·.2)) → kacc.map (·.1) = (wsN acc).map (·.1) → Reps K F r (kacc.map (·.2)) ((wsN acc).map (·.2)) →
    (putDs kacc kvs).map (·.1) = (wsN (putNs acc xs)).map (·.1) ∧ Reps K F r ((putDs kacc kvs).map (·.2)) ((wsN (putNs acc xs)).map (·.2))
  | [], acc, [], kacc, _, _, h3, h4 => ⟨h3, h4⟩
  | [], _, _ :: _, _, h, _, _, _ => nomatch h
  | _ :: _, _, [], _, h, _, _, _ => nomatch h
  | x :: xs, acc, kv :: kvs, kacc, h1, h2, h3, h4 => by
    rw [List.map_cons, wsN, List.map_cons, List.map_cons, List.cons.injEq] at h1
    obtain ⟨v, vs, e, g1, g2⟩ := (show Reps K F r (kv.2 :: kvs.map (·.2)) (x.2.2 :: (wsN xs).map (·.2)) from h2)
    rw [List.cons.injEq] at e
    obtain ⟨e1, e2⟩ := e
    subst e1 e2
    have a1 : kv.1 = x.1 := h1.1
    have key := putNs_ok xs (putN acc x.1 x.2.1 x.2.2) kvs (putD kacc kv.1 kv.2) h1.2 g2 (by rw [wsN_put, a1]; exact putD_keys h3) (by rw [wsN_put, a1]; exact putD_reps h3 h4 g1)
    exact key
def mNDisp (rs : List (ME × ME)) : ME := fun sl C => (dpM rs sl C).bind fun p => match ndKeys p.1 with
  | some kvs => if kvs.length ≤ 15 then .ok (.cell p.2.length, p.2 ++ [.dn (putDs [] kvs)]) else .no
  | none => .no
theorem ne_ndisp {ks : List (Option Expr)} {vs : List Expr} {rs : List (ME × ME)} (hu : X.A.units + 64 < cLine) (h : NPs X E ks vs rs) (h0 : ks ≠ [] := by simp) (h15 : ks.length ≤ 15 := by decide) : NE X E (.Dict ks vs pos) (mNDisp rs) :=
  ⟨pe_imp (pe_nddisp (show X.A.units + 10 < cLine by omega) h.pps h.sh.1 h.sh.2 h0 h15) fun s H Q q => by
    obtain ⟨B, F, r, sl, C, hr, hs, o⟩ := q
    intro p hp
    refine tPairs_of rs (hr.aside (o := ND p []) hp) hs ?_
    have hB : B p = none := Same.free hr.base hp
    unfold mNDisp at o
    cases hd : dpM rs sl C with
    | ok z =>
      obtain ⟨ds, C2⟩ := z
      rw [hd, R.bind_ok] at o
      simp only at o
      intro F' r' H' ps e1 e2 hr' hps
      split at o
      · rename_i kvs ek
        split at o
        · rename_i hl
          have hH : H' p = some (ND p []) := hr'.base p _ upd_same
          obtain ⟨xs, q1, q2, q3, q4⟩ := ndKeys_ok hr'.froz hps ek
          have hlen := congrArg List.length q2
          rw [List.length_map, List.length_map, List.length_map] at hlen
          refine ⟨hH, xs, q1, fun x hx => ⟨(q4 x hx).1, (q4 x hx).2.1⟩, fun x hx => (q4 x hx).2.2.1, by omega, ?_⟩
          have hr2 := hr'.asideSet (u := ND p (putNs [] xs))
          have hFp : F' p = none := hr'.apart p _ upd_same
          obtain ⟨g1, g2⟩ := putNs_ok xs [] kvs [] q2 q3 rfl rfl
          have hc : CellOk X.K F' (r' ++ [p]) (upd H' p (ND p (putNs [] xs))) p (.dn (putDs [] kvs)) := dnCell hFp upd_same g1 (g2.mono (.refl _) (Ex.app r' _)) (putNs_all (Pr := fun k b => ∃ d, keyN d = some k ∧ k.depth ≤ 8 ∧ Rep X.K F' (r' ++ [p]) d (.ref b)) xs [] (fun _ h => nomatch h) fun x hx => let ⟨d, k1, k2⟩ := (q4 x hx).2.2.2; ⟨d, k1, (q4 x hx).2.1, k2.mono (.refl _) (Ex.app r' _)⟩)
          refine o F' (r' ++ [p]) _ _ e1 (e2.trans (Ex.app r' _)) (hr2.asideCell hB hc) ⟨p, rfl, ?_⟩
          rw [← hr'.len, List.getElem?_append_right (Nat.le_refl _)]
          simp
        · exact False.elim o
      · exact False.elim o
    | ex x Cx =>
      rw [hd, R.bind_ex] at o
      intro F' r' H' a' k1 k2 k3 k4
      have k5 := (k3.asideFreeze hB).1
      have k6 := o _ r' H' a' (k1.trans (k3.asideFreeze hB).2) k2 k5 k4
      split
      · rename_i hx
        rw [hx] at k6
        exact k6
      · rename_i f d hx
        rw [hx] at k6
        exact fun dx v hd hv => k6 dx v ((k3.asideFreeze hB).2 dx _ hd) (hv.mono (k3.asideFreeze hB).2 (.refl _))
    | no => rw [hd] at o; exact o⟩
/-- keys that are flat -/
def fkKeys : List (D × D) → Option (List (Key × D))
  | [] => some []
  | (k, v) :: r => (keyOf k).bind fun k => (fkKeys r).map ((k, v) :: ·)
theorem fkKeys_ok : ∀ {ds : List (D × D)} {ps : List (V × V)} {kvs : List (Key × D)}, PRP K F r ds ps → fkKeys ds = some kvs → ∃ ws : List (Key × V), ps = ws.map (fun kv => (kV kv.1, kv.2)) ∧ kvs.map (·.1) = ws.map (·.1) ∧ Reps K F r (kvs.map (·.2)) (ws.map (·.2))
  | [], ps, _, h, e => by
    cases e
    have : ps = [] := by simpa using (show ps.map (·.1) = [] from h.1)
    subst this
    exact ⟨[], rfl, rfl, rfl⟩
  | (k, v) :: ds, [], _, h, e => by
    obtain ⟨_, _, z, _⟩ := (show Reps K F r (k :: ds.map (·.1)) [] from h.1)
    cases z
  | (k, v) :: ds, p :: ps, kvs, h, e => by
    have e : (keyOf k).bind (fun k => (fkKeys ds).map ((k, v) :: ·)) = some kvs := e
    obtain ⟨u, us, e1, h1, h2⟩ := (show Reps K F r (k :: ds.map (·.1)) (p.1 :: ps.map (·.1)) from h.1)
    obtain ⟨w, ws, e2, h3, h4⟩ := (show Reps K F r (v :: ds.map (·.2)) (p.2 :: ps.map (·.2)) from h.2)
    rw [List.cons.injEq] at e1 e2
    obtain ⟨e11, e12⟩ := e1
    obtain ⟨e21, e22⟩ := e2
    subst e12 e22
    cases hk : keyOf k with
    | none => rw [hk] at e; cases e
    | some kk =>
      rw [hk, Option.bind_some] at e
      cases hn : fkKeys ds with
      | none => rw [hn] at e; cases e
      | some kvs' =>
        rw [hn] at e
        cases e
        obtain ⟨xs, q1, q2, q3⟩ := fkKeys_ok ⟨h2, h4⟩ hn
        refine ⟨(kk, w) :: xs, ?_, ?_, .cons h3 q3⟩
        · rw [List.map_cons, ← q1]
          obtain ⟨p1, p2⟩ := p
          simp only at e11 e21
          rw [e11, e21, keyOf_ok h1 hk]
        · show kk :: kvs'.map (·.1) = kk :: xs.map (·.1)
          rw [q2]
theorem mergeK_ok : ∀ (ws acc : List (Key × V)) (kvs kacc : List (Key × D)), kvs.map (·.1) = ws.map (·.1) → Reps K F r (kvs.map (·.2)) (ws.map (·.2)) → kacc.map (·.1) = acc.map (·.1) → Reps K F r (kacc.map (·.2)) (acc.map (·.2)) →
    (putDs kacc kvs).map (·.1) = (mergeK acc ws).map (·.1) ∧ Reps K F r ((putDs kacc kvs).map (·.2)) ((mergeK acc ws).map (·.2))
  | [], acc, [], kacc, _, _, h3, h4 => ⟨h3, h4⟩
  | [], _, _ :: _, _, h, _, _, _ => nomatch h
  | _ :: _, _, [], _, h, _, _, _ => nomatch h
  | x :: xs, acc, kv :: kvs, kacc, h1, h2, h3, h4 => by
    rw [List.map_cons, List.map_cons, List.cons.injEq] at h1
    obtain ⟨v, vs, e, g1, g2⟩ := (show Reps K F r (kv.2 :: kvs.map (·.2)) (x.2 :: xs.map (·.2)) from h2)
    rw [List.cons.injEq] at e
    obtain ⟨e1, e2⟩ := e
    subst e1 e2
    have a1 : kv.1 = x.1 := h1.1
    have key := mergeK_ok xs (putK acc x.1 x.2) kvs (putD kacc kv.1 kv.2) h1.2 g2 (by rw [a1]; exact putD_keys h3) (by rw [a1]; exact putD_reps h3 h4 g1)
    exact key
def mKDisp (rs : List (ME × ME)) : ME := fun sl C => (dpM rs sl C).bind fun p => match fkKeys p.1 with
  | some kvs => if kvs.length ≤ 15 then .ok (.cell p.2.length, p.2 ++ [.dk (putDs [] kvs)]) else .no
  | none => .no
theorem ne_kdisp {ks : List (Option Expr)} {vs : List Expr} {rs : List (ME × ME)} (h : NPs X E ks vs rs) (h0 : ks ≠ [] := by simp) (h15 : ks.length ≤ 15 := by decide) : NE X E (.Dict ks vs pos) (mKDisp rs) :=
  ⟨pe_imp (pe_disp h.pps h.sh.1 h.sh.2 h0 h15) fun s H Q q => by
    obtain ⟨B, F, r, sl, C, hr, hs, o⟩ := q
    intro p hp
    refine tPairs_of rs (hr.aside (o := .dK []) hp) hs ?_
    have hB : B p = none := Same.free hr.base hp
    unfold mKDisp at o
    cases hd : dpM rs sl C with
    | ok z =>
      obtain ⟨ds, C2⟩ := z
      rw [hd, R.bind_ok] at o
      simp only at o
      intro F' r' H' ps e1 e2 hr' hps
      split at o
      · rename_i kvs ek
        split at o
        · rename_i hl
          have hH : H' p = some (.dK []) := hr'.base p _ upd_same
          obtain ⟨ws, q1, q2, q3⟩ := fkKeys_ok hps ek
          have hlen := congrArg List.length q2
          rw [List.length_map, List.length_map] at hlen
          refine ⟨hH, ws, q1, by omega, ?_⟩
          have hr2 := hr'.asideSet (u := .dK (mergeK [] ws))
          have hFp : F' p = none := hr'.apart p _ upd_same
          obtain ⟨g1, g2⟩ := mergeK_ok ws [] kvs [] q2 q3 rfl rfl
          have hc : CellOk X.K F' (r' ++ [p]) (upd H' p (.dK (mergeK [] ws))) p (.dk (putDs [] kvs)) := ⟨hFp, _, upd_same, g1, g2.mono (.refl _) (Ex.app r' _)⟩
          refine o F' (r' ++ [p]) _ _ e1 (e2.trans (Ex.app r' _)) (hr2.asideCell hB hc) ⟨p, rfl, ?_⟩
          rw [← hr'.len, List.getElem?_append_right (Nat.le_refl _)]
          simp
        · exact False.elim o
      · exact False.elim o
    | ex x Cx =>
      rw [hd, R.bind_ex] at o
      intro F' r' H' a' k1 k2 k3 k4
      have k5 := (k3.asideFreeze hB).1
      have k6 := o _ r' H' a' (k1.trans (k3.asideFreeze hB).2) k2 k5 k4
      split
      · rename_i hx
        rw [hx] at k6
        exact k6
      · rename_i f d hx
        rw [hx] at k6
        exact fun dx v hd hv => k6 dx v ((k3.asideFreeze hB).2 dx _ hd) (hv.mono (k3.asideFreeze hB).2 (.refl _))
    | no => rw [hd] at o; exact o⟩
end
/-! their steps -/
section
variable {QD : D → Store → Prop} {QS : Fl → Sl → Store → Prop} {sl : Sl} {C : Store} {m mo mi mv mz : ME}
theorem dnAt_c {i : Nat} {kvs : List (NestedKey × D)} (h : C[i]? = some (.dn kvs)) : dnAt C (.cell i) = some (i, kvs) := by unfold dnAt; simp only [h]
theorem w_dnewN (h : QD (.cell C.length) (C ++ [.dn []])) : W (mDNewN sl C) QD := W.ok h
theorem w_dgetN (h : W (mo sl C) fun x C1 => W (mi sl C1) fun y C2 => ∃ i kvs k d, x = .cell i ∧ C2[i]? = some (.dn kvs) ∧ keyT y = some k ∧ valD kvs k = some d ∧ QD d C2) : W (mDGetN mo mi sl C) QD :=
  W.bind (h.imp fun x C1 h => W.bind (h.imp fun y C2 h => by
    obtain ⟨i, kvs, k, d, rfl, h1, h2, h3, q⟩ := h
    simp only [dnAt_c h1, h2, h3]
    exact W.ok q))
theorem w_dinN {neg : Bool} (h : W (mi sl C) fun y C1 => W (mo sl C1) fun x C2 => ∃ i kvs k, x = .cell i ∧ C2[i]? = some (.dn kvs) ∧ keyT y = some k ∧ QD (.bl (if neg then !(valD kvs k).isSome else (valD kvs k).isSome)) C2) : W (mDInN neg mi mo sl C) QD :=
  W.bind (h.imp fun y C1 h => W.bind (h.imp fun x C2 h => by
    obtain ⟨i, kvs, k, rfl, h1, h2, q⟩ := h
    simp only [dnAt_c h1, h2]
    exact W.ok q))
theorem w_dget2N (h : W (mo sl C) fun x C1 => ∃ i kvs0, x = .cell i ∧ C1[i]? = some (.dn kvs0) ∧ W (mi sl C1) fun y C2 => W (mz sl C2) fun z C3 => ∃ kvs k, C3[i]? = some (.dn kvs) ∧ keyT y = some k ∧ QD ((valD kvs k).getD z) C3) : W (mDGet2N mo mi mz sl C) QD :=
  W.bind (h.imp fun x C1 h => by
    obtain ⟨i, kvs0, rfl, h0, h⟩ := h
    simp only [dnAt_c h0]
    exact W.bind (h.imp fun y C2 h => W.bind (h.imp fun z C3 h => by
      obtain ⟨kvs, k, h1, h2, q⟩ := h
      simp only [dnAt_c h1, h2]
      exact W.ok q)))
theorem w_dputN (h : W (mv sl C) fun d C0 => W (mo sl C0) fun x C1 => W (mi sl C1) fun y C2 => ∃ i kvs k, x = .cell i ∧ C2[i]? = some (.dn kvs) ∧ keyT y = some k ∧ kvs.length < sizeLine ∧ QS .nx sl (C2.set i (.dn (putD kvs k d)))) : WS (sDPutN mv mo mi sl C) QS :=
  W.bindS (h.imp fun d C0 h => W.bindS (h.imp fun x C1 h => W.bindS (h.imp fun y C2 h => by
    obtain ⟨i, kvs, k, rfl, h1, h2, h3, q⟩ := h
    simp only [dnAt_c h1, h2, if_pos h3]
    exact WS.ok q)))
theorem w_dpNil {Q : List (D × D) → Store → Prop} (h : Q [] C) : W (dpM [] sl C) Q := W.ok h
theorem w_dpCons {Q : List (D × D) → Store → Prop} {rs : List (ME × ME)} (h : W (mi sl C) fun k C1 => W (mv sl C1) fun v C2 => W (dpM rs sl C2) fun z C3 => Q ((k, v) :: z) C3) : W (dpM ((mi, mv) :: rs) sl C) Q :=
  W.bind (h.imp fun _ _ h => W.bind (h.imp fun _ _ h => W.bind (h.imp fun _ _ h => W.ok h)))
theorem w_nDisp {rs : List (ME × ME)} (h : W (dpM rs sl C) fun ps C1 => ∃ kvs, ndKeys ps = some kvs ∧ kvs.length ≤ 15 ∧ QD (.cell C1.length) (C1 ++ [.dn (putDs [] kvs)])) : W (mNDisp rs sl C) QD :=
  W.bind (h.imp fun ps C1 h => by
    obtain ⟨kvs, h1, h2, q⟩ := h
    simp only [h1, if_pos h2]
    exact W.ok q)
theorem w_kDisp {rs : List (ME × ME)} (h : W (dpM rs sl C) fun ps C1 => ∃ kvs, fkKeys ps = some kvs ∧ kvs.length ≤ 15 ∧ QD (.cell C1.length) (C1 ++ [.dk (putDs [] kvs)])) : W (mKDisp rs sl C) QD :=
  W.bind (h.imp fun ps C1 h => by
    obtain ⟨kvs, h1, h2, q⟩ := h
    simp only [h1, if_pos h2]
    exact W.ok q)
end
end Nv

namespace Nv
open PySem PySem.Spec PyProof.Rows L2
/-! set(a list of whole numbers), and such a set in order -/
section
variable {P : Program} {w : World} {Ar : Around} {Ex : Value → Shared → Prop} {st : Shared}
abbrev frSet (w : World) : Obj := { cls := .type "set", dict := none, data := .set #[] 0 (.fresh 0 0 (!w.params.followText "set-order")) }
set_option maxHeartbeats 8000000 in
theorem set_of_list {b : Addr} {zs : Array Value} (ks : List Int) {Qv : Value → Shared → Prop} (calm : Ar.handled = none) (isl : st.heap.IsList b zs) (inz : IntsAre zs.toList ks) (few : ks.length + 1 < scanBound)
    (done : ∀ (g : Heap) (tk c : Nat), SetR w g st.heap.objs.size (fun j => decide (j ∈ ks)) c → c ≤ ks.length → (∀ x o, st.heap.get? x = some o → g.get? x = some o) → Qv (.ref st.heap.objs.size) { st with heap := g, toks := tk }) :
    wpAny (model P w) Ar (call (.type "set") [.ref b]) Qv Ex st := by
  have zsz : zs.size = ks.length := by rw [← Array.length_toList]; exact IntsAre.length inz
  obtain ⟨c0, tl0, mro0⟩ := PySem.F.called_set.mro
  have made0 := PySem.F.called_set.made
  have sub0 := PySem.F.called_set.sub
  refine wpAny_call (codeAny_of_tree (?_ : wpAny _ _ (callAny (.type "set") _) _ _ _))
  refine wpAny_pure ⟨Code.quiet_builtin _ (by decide +kernel), codeAny_builtin PySem.F.entry_type_call (?_ : _)⟩
  rw [Around.under_plain (weight_type_call_type "set" [.ref b] []) rfl]
  have n1 := PySem.F.called_set.notType
  have n2 := PySem.F.called_set.canCreate
  have n3 := PySem.F.typeCall_set_1 (.ref b)
  repeat (any_goals (first | wp_step | assumption))
  refine codeAny_mono (code_set_led1 (.ref b) (E := Ex) (Q₁ := fun ob s1 => ob = .ref st.heap.objs.size ∧ s1 = { st with heap := st.heap.push (frSet w) }) ⟨rfl, rfl⟩) fun res s1 hres => ?_
  cases res with
  | error z => exact hres
  | ok fl =>
    cases fl with
    | ret ob =>
      obtain ⟨rfl, rfl⟩ := hres
      have at0 : (st.heap.push (frSet w)).get? st.heap.objs.size = some (frSet w) := Heap.get?_push_size _ rfl
      have ty0 : Shared.TypeIs { st with heap := st.heap.push (frSet w) } (.ref st.heap.objs.size) "set" := ⟨_, at0, rfl⟩
      have lk0 := PySem.F.called_set.init.lookup
      have bd0 := PySem.F.called_set.init.bind (.ref st.heap.objs.size)
      repeat (any_goals (first | wp_step | assumption))
      refine codeAny_mono (codeAny_call_builtin (R := wants (fun v s2 => v = .none ∧ ∃ g tk c, s2 = { st with heap := g, toks := tk } ∧ SetR w g st.heap.objs.size (fun j => decide (j ∈ ks)) c ∧ c ≤ ks.length ∧ (∀ x o, st.heap.get? x = some o → g.get? x = some o)) Ex)
        PySem.F.called_set.init.plain PySem.F.entry_set_init (check_set_init_1 ty0 ?_)) fun res2 s2 hres2 => ?_
      · obtain ⟨lo, hlo, lc, ln, ld⟩ := isl
        obtain ⟨lcls, ldict, ldata, lslots⟩ := lo
        simp only at lc ld
        subst lc
        subst ld
        have at1 : (st.heap.push (frSet w)).get? b = some { cls := .type "list", dict := ldict, data := .seq zs ln, slots := lslots } := Heap.get?_push_of_some _ hlo
        have sb1 := PySem.F.sub_list_set
        have sb2 := PySem.F.sub_list_frozenset
        have sb3 : (Value.type "list" == Value.type "dict") = false := by decide
        have il1 : (st.heap.push (frSet w)).IsList b zs := ⟨_, at1, rfl, ln, rfl⟩
        unfold Builtin.«set.__init__» Builtin.Frozenset.updateFrom noKeywords
        generalize eit : pyIter = itf
        wp_walk
        subst eit
        refine wpAny_pyIter_list il1 (?_ : _)
        refine wpAny_bind (wpAny_runValue (?_ : _))
        have blt : b < st.heap.objs.size := Heap.lt_size hlo
        have calm3 : Ar.in1.in1.in1.handled = none := by simp [calm]
        have psz : (st.heap.push (frSet w)).objs.size = st.heap.objs.size + 1 := Heap.size_push ..
        have bne : b ≠ (st.heap.push (frSet w)).objs.size := psz ▸ Nat.ne_of_lt (Nat.lt_succ_of_lt blt)
        have sne : st.heap.objs.size ∉ [(st.heap.push (frSet w)).objs.size, b] := by
          rw [psz]
          simp only [List.mem_cons, List.not_mem_nil, or_false, not_or]
          exact ⟨Nat.ne_of_lt (Nat.lt_succ_self _), Nat.ne_of_gt blt⟩
        have vals : ∀ (i : Nat) (v : Value), zs[i]? = some v → ∃ k t, ks[i]? = some k ∧ v = .int k t := fun i v hv => by
          obtain ⟨hi0, _⟩ := Array.getElem?_eq_some_iff.mp hv
          have hi : i < ks.length := by omega
          obtain ⟨t, e⟩ := PyProof.Rows.IntsAre.int_at inz i v ((Array.getElem?_toList ..).trans hv)
          exact ⟨ks[i], t, List.getElem?_eq_getElem hi, by rw [e, List.getD_eq_getElem?_getD, List.getElem?_eq_getElem hi]; rfl⟩
        refine set_update_ints ((Walks.list calm3 _ b bne zs).toS) st.heap.objs.size sne ks zsz few vals (zs.size - 0) 0 _ (by omega) (Nat.zero_le _) ⟨⟨_, Heap.get?_push_size _ rfl, rfl, rfl⟩, il1.push _⟩ ?start ?stop
        case start =>
          exact ⟨0, Nat.le_refl 0, setR_new_at (Heap.get?_push_of_some _ at0)⟩
        case stop =>
          intro s' c mv hc hS
          obtain ⟨g, gg, gd, tk, go⟩ := s'
          cases (show gg = st.gens from mv.gens)
          cases (show gd = st.drawn from mv.drawn)
          cases (show go = st.os from mv.os)
          show wpAny _ _ _ _ _ _
          refine wpAny_pure (?_ : _)
          show wpAny _ _ (ret Value.none) _ _ _
          refine wpAny_pure ⟨rfl, g, tk, c, rfl, hS, by omega, fun x o e => ?_⟩
          have xlt : x < st.heap.objs.size := Heap.lt_size e
          refine mv.heap x o ?_ (Heap.get?_push_of_some _ (Heap.get?_push_of_some _ e))
          simp only [List.mem_cons, List.not_mem_nil, or_false, not_or]
          exact ⟨Nat.ne_of_lt xlt, psz ▸ Nat.ne_of_lt (Nat.lt_succ_of_lt xlt)⟩
      · cases res2 with
        | error z => exact hres2
        | ok fl2 =>
          cases fl2 with
          | ret v =>
            obtain ⟨rfl, g, tk, c, rfl, hS, hc, keep⟩ := hres2
            repeat (any_goals (first | wp_step | assumption))
            exact done _ _ _ hS hc keep
          | _ => exact hres2.elim
    | _ => exact hres.elim
/-- a set's members in order -/
theorem sorted_of_set {b : Addr} {S : Int → Bool} {n : Nat} {Qv : Value → Shared → Prop} (R : SetR w st.heap b S n) (calm : Ar.handled = none)
    (done : ∀ s' p (out : Array Value) (c : Nat) (ks : List Int), (∀ x o, st.heap.get? x = some o → s'.heap.get? x = some o) → s'.gens = st.gens → s'.os = st.os → st.heap.objs.size ≤ p →
      s'.heap.get? p = some (seqObj "list" out c) → IntsAre out.toList ks → ks.Pairwise (· < ·) → (∀ k, k ∈ ks ↔ S k = true) → ks.length = n → Qv (.ref p) s') :
    wpAny (model P w) Ar (call (.builtin "sorted") [.ref b]) Qv Ex st := by
  obtain ⟨o, es, ep, t, at0, ex0, da0, good, nd0, mem0, few0, fit0, sz0, ris0, led0⟩ := R
  refine Calls.call_function_entry kind_sorted plain_sorted entry_sorted (args_sorted1 _) (?_ : _)
  unfold Builtin.«sorted»
  refine wpAny_bind (m := checkCount "sorted" 1 1 _) (wpAny_pure (?_ : _))
  refine wpAny_bind (collect_set (A := Ar.in1) calm ⟨o, at0, ex0.1, da0⟩ fit0 few0 ris0 led0 fun s1 vs keep1 low1 gen1 os1 perm1 => ?_)
  have vsl : vs.length = n := by rw [perm1.length_eq, List.length_map, Array.length_toList, sz0]
  have few1 : vs.length ≤ sizeLine := by
    have : es.size < 4096 := few0
    rw [vsl, sizeLine_eq]
    omega
  have intv : ∀ v ∈ vs, ∃ k tk, v = Value.int k tk := fun v hv => by
    obtain ⟨e, he, q⟩ := List.mem_map.mp (perm1.mem_iff.mp hv)
    obtain ⟨k, tk, h1, _⟩ := good e he
    exact ⟨k, tk, q ▸ h1⟩
  have ints1 : IntsAre vs (vs.map SrtO.iv) := SrtO.ints_iv intv
  have keyiv : ∀ e ∈ es.toList, L2.keyOf e = SrtO.iv e.2 := fun e he => by
    obtain ⟨k, tk, h1, _⟩ := good e he
    rw [show L2.keyOf e = Builtin.Re.reRawOf e.2 from rfl, h1]
    rfl
  have perm2 : (vs.map SrtO.iv).Perm (es.toList.map L2.keyOf) := by
    have q := perm1.map SrtO.iv
    rw [List.map_map] at q
    rw [List.map_congr_left (fun e he => keyiv e he : ∀ e ∈ es.toList, L2.keyOf e = (SrtO.iv ∘ fun x => x.2) e)]
    exact q
  refine wpAny_bind (wpAny_newList (?_ : _) few1)
  have at1 : (s1.heap.push (seqObj "list" vs.toArray 0)).get? s1.heap.objs.size = some (seqObj "list" vs.toArray 0) := Heap.get?_push_size _ rfl
  refine wpAny_bind (wpAny_holding (wpAny_call_entry slot_list_sort ⟨_, at1, rfl⟩ entry_list_sort
    (SrtO.list_sort_ord SrtO.swo_int at1 few1 (fun h2 => SrtO.ints_sortable ints1 h2) fun out srt stb => ⟨_, rfl, ?_⟩) (args_list_sort _)))
  obtain ⟨q1, q2, q3⟩ := SrtO.ints_out ints1 srt stb
  obtain ⟨c, hc⟩ := sortedHeap_at (vs := vs) (out := out.toArray) at1
  have perm3 : (out.map SrtO.iv).Perm (es.toList.map L2.keyOf) := q2.trans perm2
  have nd3 := perm3.nodup_iff.mpr nd0
  refine wpAny_pure ⟨_, rfl, done _ s1.heap.objs.size out.toArray c (out.map SrtO.iv) (fun x u e => ?_) gen1 os1 low1 hc q1 ?_ (fun k => by rw [perm3.mem_iff, ← mem0 k]) ?_⟩
  · have q := keep1 x u e
    have xlt := Heap.lt_size q
    show (sortedHeap (s1.heap.push (seqObj "list" vs.toArray 0)) s1.heap.objs.size vs out.toArray).get? x = some u
    rw [sortedHeap_old (Nat.ne_of_lt xlt) (size_push' .. ▸ Nat.lt_succ_of_lt xlt)]
    exact Heap.get?_push_of_some _ q
  · exact lt_of_le_nodup _ q3 nd3
  · rw [perm3.length_eq, List.length_map, Array.length_toList, sz0]
end
section
variable {X : Cx}
def rSetI (K : PySem.W.Frag) (w : World) : List V → Hp → VK → Prop := fun xs H Q => ∃ (l : Addr) (ns : List Int), xs = [V.ref l] ∧ SqL K H l (ns.map V.int) ∧ ns.length ≤ 4000 ∧ ∀ p c, H p = none → Q (.ref p) (upd H p (SiO w p (fun j => decide (j ∈ ns)) c))
theorem call_setI (hc : X.calm = true) : CallR X (.type "set") (rSetI X.K X.w) := fun pins s σ H xs us Q I r h => by
  obtain ⟨l, ns, rfl, hq, hl, q⟩ := h
  obtain ⟨u, rfl, ru⟩ := vals1 r
  cases ru
  obtain ⟨its, rv, pl, hz⟩ := I.list hq
  refine set_of_list ns (I.ok.hd hc) pl.isList (by simpa using ints_are rv) (by show ns.length + 1 < 4096; omega) fun h' tk c hS hcl hk => ?_
  exact ⟨.ref _, _, I.laid (a := s.heap.objs.size) (o := SiO X.w s.heap.objs.size (fun j => decide (j ∈ ns)) c) (t' := tk) (fun b o e => hk b o e) (Nat.le_refl _) (siO_new hS), rfl, q _ c (I.hok.fresh (Nat.le_refl _))⟩
def rSortS (w : World) : List V → Hp → VK → Prop := fun xs H Q => ∃ a S n, xs = [V.ref a] ∧ H a = some (SiO w a S n) ∧ ∀ (p : Addr) (ns : List Int), ns.Pairwise (· < ·) → (∀ k, k ∈ ns ↔ S k = true) → H p = none → Q (.ref p) (upd H p (.lst (ns.map V.int)))
theorem call_sortS (hc : X.calm = true) : CallR X (.builtin "sorted") (rSortS X.w) := fun pins s σ H xs us Q I r h => by
  obtain ⟨a, S, n, rfl, ha, q⟩ := h
  obtain ⟨u, rfl, ru⟩ := vals1 r
  cases ru
  have R := siO_get I ha
  have hn : n < 4096 := by
    obtain ⟨_, es, _, _, _, _, _, _, _, _, few0, _, sz0, _⟩ := id R
    have : es.size < 4096 := few0
    omega
  refine sorted_of_set R (I.ok.hd hc) fun s' p out c ns k g o hp hg hi hs hm hl => ?_
  have hlen : (ns.map V.int).length ≤ sizeLine := by rw [List.length_map, hl, sizeLine_eq]; omega
  have hnp : H p = none := I.hok.fresh hp
  have J : Inv X pins σ (upd H p (.lst (ns.map V.int))) { s with heap := s'.heap, gens := s'.gens, drawn := s'.drawn, toks := s'.toks } :=
    I.call (ch := []) (Un.laid k hp hnp) (I.hok.laid k hp ⟨hlen, out.toList, c, vals_of_ints hi, by simpa using hg⟩) (by rw [g]; exact I.bare) (fun _ z => nomatch z)
  have es : s' = { s with heap := s'.heap, gens := s'.gens, drawn := s'.drawn, toks := s'.toks } := by
    cases s'
    cases s
    cases o
    rfl
  rw [es]
  exact ⟨.ref p, _, J, rfl, q p ns hs hm hnp⟩
end
section
variable {K : PySem.W.Frag} {mg : Str → Option Value} {E : XK} {X : Cx} {a tg it elt : Expr} {ma : ME} {pos p1 p2 q1 : Pos}
/-- the unlike numbers of a list, rising -/
def uniqI (ns : List Int) : List Int := sortI (ns.foldl addI [])
theorem addI_mem' {acc : List Int} {k x : Int} : x ∈ addI acc k ↔ x ∈ acc ∨ x = k := by
  unfold addI
  split
  · rename_i h
    obtain ⟨y, hy, e⟩ := List.any_eq_true.mp h
    have e : y = k := by simpa using e
    subst e
    exact ⟨.inl, fun h => h.elim id fun e => e ▸ hy⟩
  · simp
theorem addI_nd' {acc : List Int} {k : Int} (h : acc.Nodup) : (addI acc k).Nodup := by
  unfold addI
  split
  · exact h
  · rename_i hk
    refine List.nodup_append.mpr ⟨h, by simp, fun a ha b hb e => hk ?_⟩
    cases List.mem_singleton.mp hb
    exact List.any_eq_true.mpr ⟨a, ha, by simp [e]⟩
theorem foldI_mem : ∀ (ns acc : List Int) (x : Int), x ∈ ns.foldl addI acc ↔ x ∈ acc ∨ x ∈ ns
  | [], acc, x => by simp
  | n :: ns, acc, x => by
    rw [List.foldl_cons, foldI_mem ns, addI_mem', List.mem_cons, or_assoc]
theorem foldI_nd : ∀ (ns acc : List Int), acc.Nodup → (ns.foldl addI acc).Nodup
  | [], _, h => h
  | n :: ns, acc, h => foldI_nd ns _ (addI_nd' h)
theorem sortI_lt {ns : List Int} (h : ns.Nodup) : (sortI ns).Pairwise (· < ·) := by
  have hd := (sortI_perm ns).nodup_iff.mpr h
  exact ((sortI_le ns).and hd).imp fun {a b} ⟨h1, h2⟩ => by omega
theorem uniqI_lt (ns : List Int) : (uniqI ns).Pairwise (· < ·) := sortI_lt (foldI_nd ns [] .nil)
theorem uniqI_mem {ns : List Int} {x : Int} : x ∈ uniqI ns ↔ x ∈ ns := by
  unfold uniqI
  rw [(sortI_perm _).mem_iff, foldI_mem]
  simp
def gSortSet (c : Bool) (x : D) (C : Store) : RE := match (lstOf C x).bind intsOf with
  | some ns => if ns.length ≤ 4000 then newL c ((uniqI ns).map D.int) C else .no
  | none => .no
theorem sortset_ok {w : World} {c : Bool} : CallN K mg E (fun xs H Q => rSetI K w xs H fun v H1 => rSortS w [v] H1 Q) (on1 (gSortSet c)) := on1N fun B F r H C x v Q hr hx o => by
  unfold gSortSet at o
  split at o
  · rename_i ns e
    split at o
    · rename_i hl
      cases el : lstOf C x with
      | none => rw [el] at e; cases e
      | some ds =>
        rw [el, Option.bind_some] at e
        obtain ⟨b, vs, rfl, h1, h2⟩ := lstOf_ok hr hx el
        have ed := intsOf_eq e
        subst ed
        have ev : vs = ns.map V.int := h2.ints
        subst ev
        refine ⟨b, ns, rfl, h1, hl, fun p c' hp => ⟨p, _, _, rfl, upd_same, fun p2 ms h3 h4 hp2 => ?_⟩⟩
        have em : ms = uniqI ns := sortI_uniq h3 (uniqI_lt ns) fun k => by rw [h4, uniqI_mem]; simp
        subst em
        exact newL_ok (hr.junk hp) (Reps.ofInts _) o hp2
    · exact False.elim o
  · exact False.elim o
theorem ne_sortSet {c : Bool} (hsrt : X.mg "sorted" = none) (hset : X.mg "set" = none) (hc : X.calm = true) (ha : NE X E a ma) (hg : Gl X "sorted" := by rfl) (hg2 : Gl X "set" := by rfl)
    (hs : starEach [a] X.env = (false, eval a X.env) :: starEach [] X.env := by rfl) (hpl : (backTo q1 (starEach [] X.env)).any (·.1) = false := by rfl)
    (hs2 : starEach [Expr.Call (.Name "set" p2) [a] [] q1] X.env = (false, eval (.Call (.Name "set" p2) [a] [] q1) X.env) :: starEach [] X.env := by rfl) (hpl2 : (backTo pos (starEach [] X.env)).any (·.1) = false := by rfl) :
    NE X E (.Call (.Name "sorted" p1) [.Call (.Name "set" p2) [a] [] q1] [] pos) (mCB (on1 (gSortSet c)) (aCons ma aNil)) :=
  ⟨pe_imp (pe_callB (call_sortS hc) hg hsrt boot_sorted (pa_cons (pe_callTy (call_setI hc) hg2 hset PyProof.Rows.boot_set (na_cons ha na_nil hs).pa (by decide) (by decide) hs hpl) pa_nil hs2) (by decide) (by decide) hs2 hpl2) fun s H Q q => args sortset_ok s H Q q⟩
open Classical in
noncomputable def gSortSc (c : Bool) (acc : List Int) (C : Store) : RE := if acc.Nodup then newL c ((sortI acc).map D.int) C else .no
theorem ne_sortSc {c : Bool} {ifs : List Expr} {scope : Scope} (own : List (Str × Nat)) {mi : MI} {g : MT} {t : MG Bool} {m : ME} (hsrt : X.mg "sorted" = none) (hc : X.calm = true) (hN : X.N.Nodup) (hi : NI X E tg it mi) (ok : BlkOk X.N X.env.scope scope own)
    (hg : ∀ (s : Shared) (H : Hp) (C : Addr) (cl : List (Str × Addr)) (fp : List Addr), NG (X.blk s H scope (compEnvC scope cl C X.env) fp) EN (own.map (·.2)) tg g)
    (ht : ∀ (s : Shared) (H : Hp) (C : Addr) (cl : List (Str × Addr)) (fp : List Addr), NTs (X.blk s H scope (compEnvC scope cl C X.env) fp) ifs t)
    (he : ∀ (s : Shared) (H : Hp) (C : Addr) (cl : List (Str × Addr)) (fp : List Addr), NE (X.blk s H scope (compEnvC scope cl C X.env) fp) EN elt m)
    (hs : ∀ x, foldedSetIterable it X.env x = pure x := by intro _; rfl) (hgl : Gl X "sorted" := by rfl)
    (hst : starEach [Expr.SetComp elt [⟨tg, it, ifs, 0⟩] scope p2] X.env = (false, eval (.SetComp elt [⟨tg, it, ifs, 0⟩] scope p2) X.env) :: starEach [] X.env := by rfl) (hpl : (backTo pos (starEach [] X.env)).any (·.1) = false := by rfl) :
    NE X E (.Call (.Name "sorted" p1) [.SetComp elt [⟨tg, it, ifs, 0⟩] scope p2] [] pos) (mSc (gSortSc c) (own.map (·.2)) mi g t m) :=
  ⟨pe_imp (pe_callB (call_sortS hc) hgl hsrt boot_sorted (pa_cons (pe_si (own := own) (wi := LI X.K X.mg E mi) (g := LT (own.map (·.2)) X.K X.mg EN g) (tt := LG PB X.K X.mg EN t) (te := LG (Rep X.K) X.K X.mg EN m) hc hN hi.pi ok (fun s H C cl fp => (hg s H C cl fp).pg) (fun s H C cl fp => (ht s H C cl fp).pt) (fun s H C cl fp => (he s H C cl fp).pe) hs) pa_nil hst) (by decide) (by decide) hst hpl) fun s H Q q => by
    exact sc_ok (X := X) (Q := Q) (Q2 := fun v H1 => rSortS X.w [v] H1 Q) (fun B F r H C acc p hB hr hp o => by
      unfold gSortSc at o
      split at o
      · rename_i hd
        obtain ⟨k1, k2⟩ := hr.asideFreeze hB
        refine ⟨p, _, _, rfl, hp, fun p2 ms h3 h4 hp2 => ?_⟩
        have em : ms = sortI acc := sortI_uniq h3 (sortI_lt hd) fun k => by rw [h4, (sortI_perm _).mem_iff, List.any_eq_true]; simp
        subst em
        exact newL_ok k1 (Reps.ofInts _) (Out.mono o k2 (.refl r)) hp2
      · exact False.elim o) q⟩
end
section
variable {QD : D → Store → Prop} {C : Store}
theorem w_sortSet {c : Bool} {x : D} {l : List Int} (hx : IsLst C x (l.map D.int)) (hl : l.length ≤ 4000) (q : W (newL c ((uniqI l).map D.int) C) QD) : W (on1 (gSortSet c) [x] C) QD := by
  have e : lstOf C x = some (l.map D.int) := by
    cases hx with
    | f => rfl
    | c k ds h => exact lstAt_lst h
  show W (gSortSet c x C) QD
  unfold gSortSet
  rw [e, Option.bind_some, intsOf_map]
  simp only [if_pos hl]
  exact q
theorem w_sortSc {c : Bool} {l : List Int} (q : W (newL c ((uniqI l).map D.int) C) QD) : W (gSortSc c (l.foldl addI []) C) QD := by
  unfold gSortSc
  rw [if_pos (foldI_nd l [] .nil)]
  exact q
end
end Nv

namespace Nv
open PySem PySem.Spec PyProof.Rows L2
/-! own errors: made, raised -/
section
variable {X : Cx} {e : Expr} {es : List Expr} {ta : TA} {p1 p2 pos : Pos}
/-- an own class whose __init__ is the one of ValueError -/
structure BaseX (K : PySem.W.Frag) (R : Addr) : Prop where
  rd : PySem.W.readsIn K R (.type "type") = true
  ga : PySem.W.specialIn K (.ref R) "__getattribute__" = some (some (.builtin "type.__getattribute__"))
  ini : PySem.W.findCls K (.ref R) (.type "type") "__init__" = some (.val (.builtin "ValueError.__init__"))
theorem pe_baseInit {pl : Sem Bool} {rx : Str} {R : Addr} (T0 : BaseX X.K R) (hm : X.mg rx = some (.ref R)) (hg : Gl X rx) (hdb : (rx == ("__debug__" : Str)) = false) (ha : PA X (e :: es) ta)
    (hc : eval (.Call (.Attribute (.Name rx p1) "__init__" p2) (e :: es) [] pos) X.env = (do
      let ov ← eval (.Name rx p1) X.env
      standAt p2.atName
      let (f, first) ← holding [ov] (getMethod ov "__init__" pl)
      callWith pos f first (backTo pos (starEach (e :: es) X.env)) (backToKw pos (keywordEach [] X.env))) := by rfl)
    (he : starEach (e :: es) X.env = (false, eval e X.env) :: starEach es X.env := by rfl) (hpl : (backTo pos (starEach es X.env)).any (·.1) = false := by rfl) :
    PE X (.Call (.Attribute (.Name rx p1) "__init__" p2) (e :: es) [] pos) (tVeI X.K ta) := by
  refine ⟨fun pins s σ H Q I h => ?_⟩
  refine PySem.W.methodCall_KW (ld_glob I hg hm ?_ hdb) hc
  refine PySem.W.method_cls I.kIn T0.ga (PySem.W.cls_value I.kIn T0.rd T0.ini (by decide +kernel) ?_)
  show wpAny _ _ (callWith pos (Value.builtin "ValueError.__init__") [] (backTo pos (starEach (e :: es) X.env)) []) _ _ _
  refine PyProof.Rows.callWith_method1 (thn (ha.run pos pins _ σ H _ (I.tok _) h) fun us s1 z => ?_) he hpl
  obtain ⟨vs, H1, I1, r1, a, C, ws, ev, hl, T, ea, q⟩ := z
  subst ev
  cases r1 with
  | @cons _ u0 _ ur ra rw' =>
    obtain rfl : u0 = Value.ref a := ra
    have hlen : ur.length ≤ sizeLine := by
      rw [← Paired.length rw', sizeLine_eq]
      omega
    exact oinit_ok T I1 ea hlen fun s' J => ⟨.non, H1, J, rfl, q⟩
/-- what such an __init__ promises: the one field is set -/
def spI (K : PySem.W.Frag) (C : Addr) (f : Str) : Sp := fun vs H Q _ => ∃ (a : Addr) (v : V), vs = [.ref a, v] ∧ OexC K C ∧ PySem.W.findIn K (.ref C) f = some none ∧ H a = some (exo a C none) ∧
  ∀ dx, H dx = none → dx ≠ a → Q .non (upd (upd H dx (exd dx [(f, v)])) a (exo a C (some dx)))
theorem spI_len {K : PySem.W.Frag} {C : Addr} {f : Str} : ∀ vs H Q E, spI K C f vs H Q E → vs.length = 2 := by
  intro vs H Q E h
  obtain ⟨a, v, rfl, _⟩ := h
  rfl
theorem spI_read {K : PySem.W.Frag} {C : Addr} {f m g1 g2 : Str} {vs : List V} {H : Hp} {Q : VK} {E : XK} {De : Ends} (h : spI K C f vs H Q E) (hq : ∀ s H', De.nx s H' → De.nx s H') (hn : ∀ s H', Q .non H' → De.nx s H') :
    tDrop (tVeI K (tCons (tVar 0) (tCons (tC (.str m)) tNil))) { De with nx := fun s H' => tOst K f (tVar 0) (tVar 1) De s H' } (start [g1, g2] vs) H := by
  obtain ⟨a, v, rfl, T, nf, ea, q⟩ := h
  refine ⟨.ref a, rfl, a, C, [.str m], rfl, by simp, T, ea, ?_⟩
  refine ⟨v, rfl, .ref a, rfl, a, C, rfl, T, nf, .inl ⟨ea, fun dx n ne => hn _ _ (q dx n ne)⟩⟩
end
/-! mirrors -/
def sRaise1 (x f : Str) (m : ME) : MS := fun sl C => (m sl C).bind fun p => .ex ⟨x, some (f, p.1)⟩ p.2
def sRaise0 (x : Str) : MS := fun _ C => .ex ⟨x, none⟩ C
/-- what the written part says of such a class, and of its __init__ -/
structure ErrI (P : Program) (w : World) (K : PySem.W.Frag) (mg : Str → Option Value) (base : Heap) (x f : Str) (C : Addr) : Prop where
  at_ : mg x = some (.ref C)
  ox : OexC K C
  nf : PySem.W.findIn K (.ref C) f = some none
  ini : ∃ (fI : Addr) (fd : FuncData), PySem.W.findIn K (.ref C) "__init__" = some (some (.ref fI)) ∧ PySem.W.typeIn K (.ref fI) = some (.type "function") ∧ FnOk P w K mg base CX0 1 fI fd ["self", f] (spI K C f) ∧ Binds K fd ["self", f] []
/-- what must be known of a class whose errors are looked into -/
structure ErrL (K : PySem.W.Frag) (mg : Str → Option Value) (x f : Str) (C : Addr) : Prop where
  at_ : mg x = some (.ref C)
  xf : xfB K C = true
  nf : PySem.W.findIn K (.ref C) f = some none
/-- all of it; rx: the class that the except clause names -/
def ErrX (P : Program) (w : World) (K : PySem.W.Frag) (mg : Str → Option Value) (base : Heap) (x f rx : Str) : Prop :=
  ∃ C R : Addr, ErrI P w K mg base x f C ∧ ErrL K mg x f C ∧ ExcC K C ∧ mg rx = some (.ref R) ∧ PySem.W.exmOne K (.ref C) (.ref R) = some true ∧ PySem.W.kitOne K (.ref C) (.type "ValueError") = some true
theorem errX_mk {P : Program} {w : World} {K : PySem.W.Frag} {mg : Str → Option Value} {base : Heap} {x f rx : Str} {C S fI : Addr} {fd : FuncData} (gC : mg x = some (.ref C)) (ox : OexC K C) (nf : PySem.W.findIn K (.ref C) f = some none) (iC : PySem.W.findIn K (.ref C) "__init__" = some (some (.ref fI)))
    (tI : PySem.W.typeIn K (.ref fI) = some (.type "function")) (F : FnOk P w K mg base CX0 1 fI fd ["self", f] (spI K C f)) (hb : Binds K fd ["self", f] []) (ga : PySem.W.findIn K (.ref C) "__getattribute__" = some (some (.builtin "BaseException.__getattribute__"))) (gg : PySem.W.findIn K (.ref C) "__getattr__" = some none)
    (eC : PySem.W.subIn K (.ref C) (.type "BaseException") = some true) (hC : PySem.W.hasDictIn K C = true) (xa : PySem.W.findIn K (.ref C) "__class__" = some (some (.builtin "object.__class__"))) (xn : PySem.W.specialIn K (.builtin "object.__class__") "__get__" = some (some (.builtin "getset_descriptor.__get__")))
    (xt : PySem.W.takesIn K (.builtin "object.__class__") = some true) (xm : PySem.W.mroIn K C (.type "object") = some true) (gS : mg rx = some (.ref S)) (s1 : PySem.W.subIn K (.ref S) (.type "BaseException") = some true) (s2 : PySem.W.hasDictIn K S = true) (s3 : PySem.W.typeIn K (.ref S) = some (.type "type"))
    (s4 : PySem.W.subIn K (.ref C) (.ref S) = some true) (tv : PySem.W.subIn K (.ref C) (.type "ValueError") = some true) : ErrX P w K mg base x f rx := by
  refine ⟨C, S, ⟨gC, ox, nf, fI, fd, iC, tI, F, hb⟩, ⟨gC, ?_, nf⟩, ⟨ga, gg, eC, hC, xa, xn, xt, xm⟩, gS, PySem.W.exm_ref s1 s2 s3 s4, ?_⟩
  · unfold xfB
    rw [decide_eq_true ga, decide_eq_true gg, decide_eq_true eC, hC]
    rfl
  · show (if ((Value.ref C : Value) == .type "ValueError") = true then some true else PySem.W.kitCls K (.ref C) (.type "ValueError")) = some true
    rw [if_neg (fun z => by have z := beq_iff_eq.mp z; cases z)]
    show (if PySem.W.kitMeta "ValueError" = true then PySem.W.subIn K (.ref C) (.type "ValueError") else none) = some true
    rw [if_pos (by decide +kernel)]
    exact tv
section
variable {X : Cx} {E : XK} {e : Expr} {m : ME} {p pos rp : Pos} {x f rx : Str} {C : Addr}
theorem ns_raiseX (h : ErrX X.prog X.w X.K X.mg X.base x f rx) (hr : Room 2 X.A) (hc : X.calm = true) (tk : L2.Takes X (fun cls d _ H => E cls d H)) (he : NE X E e m) (hg : Gl X x := by rfl) (hdb : (x == ("__debug__" : Str)) = false := by decide)
    (hst : starEach [e] X.env = (false, eval e X.env) :: starEach [] X.env := by rfl) (hpl : (backTo pos (starEach [] X.env)).any (·.1) = false := by rfl) :
    NS X E (.Raise (some (.Call (.Name x p) [e] [] pos)) none rp) (sRaise1 x f m) := by
  obtain ⟨C, R, T, _⟩ := h
  obtain ⟨fI, fd, iC, tI, F1, hb⟩ := T.ini
  refine ⟨ps_imp (L2.ps_raise hc tk (pmk_oex (ds := []) (dvs := []) T.ox iC tI F1 hr hb .nil pass0 hg T.at_ (pa_cons he.pe pa_nil (hs := hst)) hdb hst hpl)) fun De s H q => ?_⟩
  obtain ⟨B, F, r, sl, C0, hr, hs, o⟩ := q
  refine ⟨B, F, r, sl, C0, hr, hs, OutS.bind (P := Rep X.K) o fun d C1 F1 r1 H1 v e1 e2 hr1 hx o1 => ?_⟩
  refine ⟨by simp, fun a ha => ⟨a, v, rfl, T.ox, T.nf, upd_same, fun dx hdx hne => ⟨rfl, dx, [(f, v)], upd_same, ?_, ?_, ?_⟩⟩⟩
  · rw [upd_ne hne]
    exact upd_same
  · rw [upd_ne hne] at hdx
    exact hdx
  · rw [upd_ne hne] at hdx
    have eq : upd (del (upd (upd (upd H1 a (exo a C none)) dx (exd dx [(f, v)])) a (exo a C (some dx))) a) dx (.xd [(f, v)]) = upd H1 dx (.xd [(f, v)]) := by
      funext b
      by_cases hb : b = dx
      · subst hb
        rw [upd_same, upd_same]
      · rw [upd_ne hb, upd_ne hb]
        by_cases hba : b = a
        · subst hba
          rw [del_same, ha]
        · rw [del_ne hba, upd_ne hba, upd_ne hb, upd_ne hba]
    rw [eq]
    have sF : Same F1 (upd F1 dx (.xd [(f, v)])) := same_new (hr1.freeF hdx)
    exact o1 _ r1 _ C sF (.refl _) (hr1.freeze hdx) T.at_ dx v upd_same (hx.mono sF (.refl _))
/-- an own class without __init__ -/
structure Err0 (K : PySem.W.Frag) (mg : Str → Option Value) (x : Str) (C : Addr) : Prop where
  at_ : mg x = some (.ref C)
  ex : PySem.W.excIn K C [.type "ValueError", .type "Exception", .type "BaseException", .type "object"] "ValueError.__new__" = true
  kp : PySem.W.keepIn K (.ref C) = true
  sb : PySem.W.subIn K (.ref C) (.type "BaseException") = some true
  ty : PySem.W.typeIn K (.ref C) = some (.type "type")
theorem ns_raise0 {t : Str} {j : Nat} {p2 : Pos} (T : Err0 X.K X.mg x C) (hc : X.calm = true) (tk : L2.Takes X (fun cls d _ H => E cls d H)) (hg : Gl X x := by rfl) (hdb : (x == ("__debug__" : Str)) = false := by decide) :
    NS X E (.Raise (some (.Call (.Name x p) [.Constant (.str t) j p2] [] pos)) none rp) (sRaise0 x) := by
  refine ⟨ps_imp (L2.ps_raise hc tk (L2.pmk_own PySem.F.excBase_ValueError T.ex T.at_ T.kp (raises_own T.sb T.ty) hg hdb)) fun De s H q => ?_⟩
  obtain ⟨B, F, r, sl, C0, hr, hs, o⟩ := q
  have o : XOk X.K X.mg E B F r ⟨x, none⟩ C0 := o
  exact o F r H C (.refl _) (.refl _) hr T.at_
end
/-! what may raise inside a try: the wish knows the slots -/
def XT : XK := fun _ _ _ => True
theorem xok_T {K : PySem.W.Frag} {mg : Str → Option Value} {B F : Hp} {r : List Addr} {x : Exn} {C : Store} : XOk K mg XT B F r x C := by
  intro F' r' H' a _ _ _ _
  obtain ⟨c, fl⟩ := x
  cases fl with
  | none => exact True.intro
  | some p => exact fun _ _ _ _ => True.intro
theorem Out.bindT {K : PySem.W.Frag} {mg : Str → Option Value} {E : XK} {B F : Hp} {r : List Addr} {S T S2 T2 : Type} {P : PR S T} {P2 : PR S2 T2} {o : R (S × Store)} {k : S × Store → R (S2 × Store)} {Q : T2 → Hp → Prop} {Q' : T → Hp → Prop} (h : Out P2 K mg E B F r (o.bind k) Q)
    (hk : ∀ (a : S) (C1 : Store) (F1 : Hp) (r1 : List Addr) (H1 : Hp) (b : T), Same F F1 → Ex r r1 → Rel K B F1 r1 H1 C1 → P F1 r1 a b → Out P2 K mg E B F1 r1 (k (a, C1)) Q → Q' b H1) : Out P K mg XT B F r o Q' := by
  cases o with
  | ok p =>
    obtain ⟨a, C1⟩ := p
    exact fun F' r' H' b h1 h2 h3 h4 => hk a C1 F' r' H' b h1 h2 h3 h4 (Out.mono h h1 h2)
  | ex x C => exact xok_T
  | no => exact h
theorem OutS.bindT {K : PySem.W.Frag} {mg : Str → Option Value} {E : XK} {B F : Hp} {r : List Addr} {De : Ends} {S T : Type} {P : PR S T} {o : R (S × Store)} {k : S × Store → RS} {Q : T → Hp → Prop} (h : OutS K mg E B F r (o.bind k) De)
    (hk : ∀ (a : S) (C1 : Store) (F1 : Hp) (r1 : List Addr) (H1 : Hp) (b : T), Same F F1 → Ex r r1 → Rel K B F1 r1 H1 C1 → P F1 r1 a b → OutS K mg E B F1 r1 (k (a, C1)) De → Q b H1) : Out P K mg XT B F r o Q := by
  cases o with
  | ok p =>
    obtain ⟨a, C1⟩ := p
    exact fun F' r' H' b h1 h2 h3 h4 => hk a C1 F' r' H' b h1 h2 h3 h4 (OutS.mono h h1 h2)
  | ex x C => exact xok_T
  | no => exact h
abbrev wAt0 (W : WX) (s : L2.St) : XK := fun cls d H => W cls d s H
def LX (K : PySem.W.Frag) (mg : Str → Option Value) (W : WX) (m : ME) : TE := fun s H Q => ∃ B F r sl C, Rel K B F r H C ∧ Sls K F r sl s ∧ Out (Rep K) K mg (wAt0 W s) B F r (m sl C) Q
def LSX (K : PySem.W.Frag) (mg : Str → Option Value) (W : WX) (m : MS) : TS := fun De s H => ∃ B F r sl C, Rel K B F r H C ∧ Sls K F r sl s ∧ OutS K mg (wAt0 W s) B F r (m sl C) De
structure NEx (X : Cx) (W : WX) (e : Expr) (m : ME) : Prop where
  pe : PE X e (LX X.K X.mg W m)
structure NSx (X : Cx) (W : WX) (st : Stmt) (m : MS) : Prop where
  ps : PS X st (LSX X.K X.mg W m)
structure NSsx (X : Cx) (W : WX) (st : List Stmt) (m : MS) : Prop where
  ps : PSs X st (LSX X.K X.mg W m)
section
variable {X : Cx} {W : WX} {k : Nat} {f : Addr} {fd : FuncData} {ps : List Str} {sp : Sp} {x : Str} {p p1 pos : Pos} {e c : Expr} {es : List Expr} {t : TA} {m : ME} {mas : MG (List D)} {st : Stmt} {xs ys : List Stmt} {u u1 u2 : MS} {mt : MG Bool}
theorem run_fnGS {pins : List (Addr × Obj)} {σ : L2.St} {H : Hp} {s : Shared} {Q : VK} {us : List Value} {vs : List V} (F : FnG X.prog X.w X.K X.mg X.base k f fd ps sp) (hr : Room k X.A) (hgd : X.A.guards = some []) (hb : L2.Binds X.K fd ps [])
    (hx : PassesAt (L2.CX X.prog X.w) X σ (wAt0 W σ)) (I : L2.Inv X pins σ H s) (r : Vals vs us) (h : sp vs H Q (wAt0 W σ)) : wpAny (model X.prog X.w) X.A (call (.ref f) us) (EP X pins σ Q) X.xe s := by
  have hl : (us ++ []).length = ps.length := by
    rw [List.append_nil, ← r.length]
    exact F.len _ _ _ _ h
  have hb1 := hb s us I.kIn hl
  rw [List.append_nil] at hb1
  refine wpAny_call (codeAny_mono (F.run X.A X.stack s H ⟨us, []⟩ us vs Q (wAt0 W σ) hr hgd I.env0 hb1 r h) fun r s' hq => ?_)
  cases r with
  | error z => exact hx pins H s z s' I hq
  | ok fl =>
    cases fl with
    | ret u => exact I.after hq
    | next => exact False.elim hq
    | brk => exact False.elim hq
    | cont => exact False.elim hq
theorem nex_cal {n : Nat} {mf : MF} (h : Cal X.prog X.w X.K X.mg X.base x k n mf) (hr : Room k X.A) (hgd : X.A.guards = some []) (tk : L2.Takes X W) (ha : NA X XT (e :: es) mas) (hg : Gl X x := by rfl) (hdb : (x == ("__debug__" : Str)) = false := by decide)
    (he : starEach (e :: es) X.env = (false, eval e X.env) :: starEach es X.env := by rfl) (hpl : (backTo pos (starEach es X.env)).any (·.1) = false := by rfl) : NEx X W (.Call (.Name x p1) (e :: es) [] pos) (mF n mf mas) := by
  obtain ⟨f, fd, ps, F, hm, hk, hb⟩ := h
  refine ⟨⟨fun pins s σ H Q I q => ?_⟩⟩
  refine wpAny_Call_Name_kw (ld_glob I hg hm ?_ hdb)
  obtain ⟨B, F0, r, sl, C, hr0, hs, o⟩ := q
  refine PySem.W.callWith_K (h₀ := X.base) I.ok.mod.kin hk (thn (ha.pa.run pos pins s σ H (fun vs H1 => spN X.K X.mg n mf vs H1 Q (wAt0 W σ)) I ⟨B, F0, r, sl, C, hr0, hs, Out.bindT (P := Reps X.K) o fun xs C1 F1 r1 H1 vs e1 e2 hr1 hx o1 => ?_⟩) fun us s1 z => ?_) he hpl
  · simp only at o1
    split at o1
    · rename_i hl
      exact ⟨B, F1, r1, C1, xs, hr1, hx, hl, o1⟩
    · exact False.elim o1
  · obtain ⟨vs, H1, I1, r1, q1⟩ := z
    exact ⟨I1.kIn, run_fnGS F hr hgd hb (passAt tk σ) I1 r1 q1⟩
theorem nsx_expr (he : NEx X W e m) (hs : swapsWith e none pos.line X.env = pure false := by rfl) : NSx X W (.Expr e pos) (sDrop m) := ⟨ps_imp (ps_expr he.pe hs) fun De s H q => by
    obtain ⟨B, F, r, sl, C, hr, hs, o⟩ := q
    refine ⟨B, F, r, sl, C, hr, hs, OutS.bind (P := Rep X.K) o fun x C1 F1 r1 H1 v e1 e2 hr1 hx o1 => ?_⟩
    exact OutS.next o1 hr1 (hs.mono e1 e2)⟩
theorem nsx_set (i : Nat) (hN : X.N.Nodup) (hx : X.N[i]? = some x) (hl : Loc X.env.scope x) (he : NEx X W e m) (hs : swapsWith e (some (.Name x p1)) pos.line X.env = pure false := by rfl)
    (hf : X.fn x = true ∨ X.env.scope.names.lookup x = some .local := by first | exact .inl rfl | exact .inr rfl) : NSx X W (.Assign [.Name x p1] e pos) (sAsg m (gmN i)) :=
  ⟨ps_imp (ps_set hN hx hl he.pe hs hf) fun De s H q => by
    obtain ⟨B, F, r, sl, C, hr, hs, o⟩ := q
    refine ⟨B, F, r, sl, C, hr, hs, OutS.bind (P := Rep X.K) o fun x C1 F1 r1 H1 v e1 e2 hr1 hx o1 => ?_⟩
    exact OutS.next o1 hr1 ((hs.mono e1 e2).set hx i)⟩
theorem nsx_if (hc : NT X XT c mt) (ha : NSsx X W xs u1) (hb : NSsx X W ys u2) : NSx X W (.If c xs ys pos) (sIf mt u1 u2) := ⟨ps_imp (ps_if hc.pt ha.ps hb.ps) fun De s H q => by
    obtain ⟨B, F, r, sl, C, hr, hs, o⟩ := q
    refine ⟨B, F, r, sl, C, hr, hs, OutS.bindT (P := PB) o fun x C1 F1 r1 H1 v e1 e2 hr1 hx o1 => ?_⟩
    subst hx
    cases x with
    | true =>
      rw [if_pos rfl] at o1 ⊢
      exact ⟨B, F1, r1, sl, C1, hr1, hs.mono e1 e2, o1⟩
    | false =>
      rw [if_neg Bool.false_ne_true] at o1 ⊢
      exact ⟨B, F1, r1, sl, C1, hr1, hs.mono e1 e2, o1⟩⟩
theorem nssx_one (h : NSx X W st u) : NSsx X W [st] u := ⟨pss_one h.ps⟩
theorem nssx_nil : NSsx X W [] sNil := ⟨pss_imp pss_nil fun De s H q => by
    obtain ⟨B, F, r, sl, C, hr, hs, o⟩ := q
    exact OutS.next o hr hs⟩
end
/-! the try -/
def sTry (mb : MS) (hm : Exn → MS) : MS := fun sl C => match mb sl C with
  | .ex x C' => hm x sl C'
  | o => o
/-- what the suite may take for granted of the error that it holds -/
def HeldOk (K : PySem.W.Frag) (mg : Str → Option Value) (F : Hp) (r : List Addr) (H : Hp) (x : Exn) (a : Addr) (d : Option Addr) : Prop :=
  mg x.cls = some (.ref a) ∧ match x.fld with
    | none => d = none
    | some (f, dd) => ∃ (dx : Addr) (v : V), d = some dx ∧ F dx = some (.xd [(f, v)]) ∧ Rep K F r dd v
section
variable {X : Cx} {E : XK} {x n : Str} {c : Value} {i : Nat} {body suite : List Stmt} {b₀ : Stmt} {np pos pos' : Pos} {ts : Addr → Value → Option Addr → TS} {mb : MS} {hm : Exn → MS}
theorem ns_try_as (hs : X.stack = X.env :: X.outer) (hf : X.env.frame = some X.env.locals) (hN : X.N.Nodup) (hi : X.N[i]? = some n) (hln : X.env.kindOf n = some .local) (hc : Names X x c) (tk : L2.Takes X (fun cls d _ H => E cls d H))
    (hb : ∀ (W : WX) (pn : List (Addr × Obj)) (xe : Value → Shared → Prop), L2.Takes (X.tr pn xe) W → NSsx (X.tr pn xe) W body mb)
    (hsu : ∀ (a : Addr) (oe : Obj) (cls : Value) (d : Option Addr) (pn : List (Addr × Obj)), Zc cls d oe → (∃ vs, oe.data = .fields vs) → PSs (X.suite a ((a, oe) :: pn)) (b₀ :: suite) (ts a cls d))
    (hread : ∀ (De : Ends) (B F : Hp) (r : List Addr) (H : Hp) (y : Exn) (C : Store) (sl : Sl) (s : L2.St) (a : Addr) (d : Option Addr), Rel X.K B F r H C → Sls X.K F r sl s → OutS X.K X.mg E B F r (hm y sl C) De → HeldOk X.K X.mg F r H y a d →
      wAs X.K c i ts (fun cls d _ H => E cls d H) De (.ref a) d s H) :
    NS X E (.Try body [.ExceptHandler (some (.Name x np)) (some n) (b₀ :: suite) pos'] [] [] pos) (sTry mb hm) :=
  ⟨ps_imp (L2.ps_try_as (tb := fun W => LSX X.K X.mg W mb) hs hf hN hi hln hc tk (fun W pn xe h _ => (hb W pn xe h).ps) hsu) fun De s H q => by
    obtain ⟨B, F, r, sl, C, hr, hsl, o⟩ := q
    refine ⟨B, F, r, sl, C, hr, hsl, ?_⟩
    unfold sTry at o
    cases hm0 : mb sl C with
    | ok p =>
      rw [hm0] at o
      exact o
    | no =>
      rw [hm0] at o
      exact o
    | ex y C' =>
      rw [hm0] at o
      have o : OutS X.K X.mg E B F r (hm y sl C') De := o
      intro F' r' H' a k1 k2 k3 k4
      have hs' := hsl.mono k1 k2
      have o' := OutS.mono o k1 k2
      cases hfl : y.fld with
      | none => exact hread De B F' r' H' y C' sl s a none k3 hs' o' ⟨k4, by rw [hfl]⟩
      | some p =>
        obtain ⟨f, dd⟩ := p
        intro dx v e1 e2
        exact hread De B F' r' H' y C' sl s a (some dx) k3 hs' o' ⟨k4, by rw [hfl]; exact ⟨dx, v, rfl, e1, e2⟩⟩⟩
end
/-! what an except suite does with the error that it holds -/
section
variable {X : Cx} {E : XK} {x f y n rx : Str} {C : Addr} {i j : Nat} {body : List Stmt} {np p1 p2 p3 p4 pos pos' : Pos} {mb : MS}
/-- y = n.f -/
def hmFld (x f : Str) (i j : Nat) : Exn → MS := fun e sl C => match e.fld with
  | some (g, d) => if e.cls = x ∧ g = f ∧ i < sl.length then .ok ((.nx, (sl.set j (some d)).set i none), C) else .no
  | none => .no
theorem set_swap {A : Type} {l : List A} {i j : Nat} {a b c : A} (h : i ≠ j) : ((l.set i a).set j b).set i c = (l.set j b).set i c := by
  rw [List.set_comm _ _ h, List.set_set]
theorem ns_try_fldX (i j : Nat) (h : ErrX X.prog X.w X.K X.mg X.base x f rx) (hs : X.stack = X.env :: X.outer) (hf : X.env.frame = some X.env.locals) (hN : X.N.Nodup) (hi : X.N[i]? = some n) (hln : X.env.kindOf n = some .local) (hj : X.N[j]? = some y) (hlj : Loc X.env.scope y) (hij : i ≠ j)
    (tk : L2.Takes X (fun cls d _ H => E cls d H)) (hb : ∀ (W : WX) (pn : List (Addr × Obj)) (xe : Value → Shared → Prop), L2.Takes (X.tr pn xe) W → NSsx (X.tr pn xe) W body mb)
    (hg : Gl X rx := by rfl) (hdb : (rx == ("__debug__" : Str)) = false := by decide) (hv : Vis X.env.scope n := by first | exact Or.inl rfl | exact Or.inr (Or.inl rfl) | exact Or.inr (Or.inr rfl)) (hnd : (n == ("__debug__" : Str)) = false := by decide) (hnc : (n == ("__classdict__" : Str)) = false := by decide)
    (hab : attributeBase (.Name n p2) f X.env (eval (.Name n p2) X.env) = eval (.Name n p2) X.env := by rfl) (hsw : swapsWith (.Attribute (.Name n p2) f p3) (some (.Name y p1)) p4.line X.env = pure false := by rfl)
    (hfn : X.fn y = true ∨ X.env.scope.names.lookup y = some .local := by first | exact .inl rfl | exact .inr rfl) :
    NS X E (.Try body [.ExceptHandler (some (.Name rx np)) (some n) [.Assign [.Name y p1] (.Attribute (.Name n p2) f p3) p4] pos'] [] [] pos) (sTry mb (hmFld x f i j)) := by
  obtain ⟨C, R, _, T, TI, gR, te, tv⟩ := h
  refine ns_try_as (i := i) (c := .ref R) (ts := fun a cls d => tAsg (tXf a cls d C f (tVar i)) (gName j)) hs hf hN hi hln ⟨hg, hdb, .inl gR⟩ tk hb (fun a oe cls d pn hz hfs => ?_) (fun De B F r H z C0 sl s a d hr hsl o hh => ?_)
  · exact pss_one (ps_set hN hj hlj (pe_xf (xfB_ok T.xf) T.nf hz hfs (pe_var hi hv hnd hnc) hab) hsw hfn)
  · obtain ⟨ha, hfl⟩ := hh
    unfold hmFld at o
    cases hf0 : z.fld with
    | none =>
      rw [hf0] at o
      exact False.elim o
    | some q =>
      obtain ⟨g, dd⟩ := q
      rw [hf0] at o hfl
      obtain ⟨dx, v, rfl, e1, e2⟩ := hfl
      have e1 := hr.froz dx _ e1
      simp only at o
      split at o
      · rename_i hc
        obtain ⟨c1, rfl, c3⟩ := hc
        rw [c1, T.at_] at ha
        cases ha
        refine ⟨true, te, fun _ a' ha' => ?_, fun z => Bool.noConfusion z⟩
        have hlen : i < s.length := by rw [hsl.1]; exact c3
        refine ⟨.ref a', by rw [List.getElem?_set_self hlen], rfl, rfl, dx, [(g, v)], v, rfl, e1, by simp [List.lookup], ?_⟩
        show De.nx (((s.set i (some (.ref a'))).set j (some v)).set i none) H
        rw [set_swap hij]
        have h1 : Sls X.K F r (sl.set j (some dd)) (s.set j (some v)) := hsl.set e2 j
        exact OutS.next o hr (Sls.wipe h1 [i])
      · exact False.elim o
/-- isinstance(n, c) -/
def rIsED (K : PySem.W.Frag) (C a : Addr) (cls : Value) (d : Option Addr) : List V → Hp → VK → Prop := fun xs H Q => ∃ (c : V) (cv : Value) (b : Bool) (dx : Addr) (fs : List (Str × V)), xs = [.ref a, c] ∧ cls = .ref C ∧ (∀ u, RelV c u → u = cv) ∧ PySem.W.kitOne K (.ref C) cv = some b ∧ d = some dx ∧ H dx = some (.xd fs) ∧ Q (.bl b) H
theorem call_isED {a : Addr} {oe : Obj} {cls : Value} {d : Option Addr} {pn : List (Addr × Obj)} (T : ExcC X.K C) (hz : Zc cls d oe) (hf : ∃ vs, oe.data = .fields vs) : CallR (X.suite a ((a, oe) :: pn)) (.builtin "isinstance") (rIsED X.K C a cls d) := by
  intro pins s σ H xs us Q I r h
  obtain ⟨c, cv, b, dx, fs, rfl, rfl, hcv, e, rfl, hdx, q⟩ := h
  cases r with
  | cons rx rr =>
    cases rr with
    | cons rt rr =>
      cases rr
      cases rx
      have ec := hcv _ rt
      subst ec
      obtain ⟨hget, _⟩ := I.pin (a, oe) (List.mem_append.mpr (.inl List.mem_cons_self))
      obtain ⟨vs, hv⟩ := hf
      have hx : ObjOk X.prog X.w H s.heap dx (.xd fs) := I.hok dx _ hdx
      obtain ⟨mA, hns, hr⟩ := hx
      obtain ⟨od, ho, hl⟩ := lookIn_ns hns
      have J : PySem.W.InstAt s.heap a oe C (some od) := ⟨hget, hz.1, by unfold PySem.W.notCls; rw [hv] <;> rfl, by rw [hz.2]; exact ho⟩
      obtain ⟨cdD, hcD, _⟩ := PySem.W.any_some T.hd
      exact PySem.W.kia_one (PySem.W.kitx_exc (by rw [hcD]; rfl) T.hg T.hk T.hs T.ha T.hn T.ht T.hm) I.kIn J e (fun z => nomatch z) fun tk => ⟨.bl b, H, I.kept (t' := tk) fun _ _ z => z, rfl, q⟩
end
/-! y = (w, n.f) if isinstance(n, x) and isinstance(n, ValueError) else o -/
section
variable {X : Cx} {E : XK} {x f y n rx w o : Str} {i j : Nat} {body : List Stmt} {np p1 p2 p3 p4 p5 p6 p7 p8 p9 p10 p11 p12 p13 p14 p15 q1 q2 pos pos' : Pos} {k1 k2 k3 : Nat} {mb : MS}
def hmPick (x f w : Str) (i j : Nat) : Exn → MS := fun e sl C => match e.fld with
  | some (g, d) => if e.cls = x ∧ g = f ∧ i < sl.length then .ok ((.nx, (sl.set j (some (.tup [.str w, d]))).set i none), C) else .no
  | none => .no
theorem ns_try_pickX (i j : Nat) (h : ErrX X.prog X.w X.K X.mg X.base x f rx) (hve : X.mg "ValueError" = none) (his : X.mg "isinstance" = none)
    (hs : X.stack = X.env :: X.outer) (hf : X.env.frame = some X.env.locals) (hN : X.N.Nodup) (hi : X.N[i]? = some n) (hln : X.env.kindOf n = some .local) (hj : X.N[j]? = some y) (hlj : Loc X.env.scope y) (hij : i ≠ j)
    (tk : L2.Takes X (fun cls d _ H => E cls d H)) (hb : ∀ (W : WX) (pn : List (Addr × Obj)) (xe : Value → Shared → Prop), L2.Takes (X.tr pn xe) W → NSsx (X.tr pn xe) W body mb)
    (hg : Gl X rx := by rfl) (hgx : Gl X x := by rfl) (hgv : Gl X "ValueError" := by rfl) (hgi : Gl X "isinstance" := by rfl) (hdb : (rx == ("__debug__" : Str)) = false := by decide) (hdx : (x == ("__debug__" : Str)) = false := by decide)
    (hv : Vis X.env.scope n := by first | exact Or.inl rfl | exact Or.inr (Or.inl rfl) | exact Or.inr (Or.inr rfl)) (hnd : (n == ("__debug__" : Str)) = false := by decide) (hnc : (n == ("__classdict__" : Str)) = false := by decide)
    (hab : attributeBase (.Name n p9) f X.env (eval (.Name n p9) X.env) = eval (.Name n p9) X.env := by rfl)
    (hsw : swapsWith (.IfExp (.BoolOp .And [.Call (.Name "isinstance" p1) [.Name n p2, .Name x p3] [] p4, .Call (.Name "isinstance" p5) [.Name n p6, .Name "ValueError" p7] [] p8] p13) (.Tuple [.Constant (.str w) k1 p10, .Attribute (.Name n p9) f p11] k2 p12) (.Constant (.str o) k3 p14) p15) (some (.Name y np)) pos.line X.env = pure false := by rfl)
    (hs1 : starEach [.Name n p2, .Name x p3] X.env = (false, eval (.Name n p2) X.env) :: starEach [.Name x p3] X.env := by rfl) (hs2 : starEach [.Name x p3] X.env = (false, eval (.Name x p3) X.env) :: starEach [] X.env := by rfl)
    (hs3 : starEach [.Name n p6, .Name "ValueError" p7] X.env = (false, eval (.Name n p6) X.env) :: starEach [.Name "ValueError" p7] X.env := by rfl) (hs4 : starEach [.Name "ValueError" p7] X.env = (false, eval (.Name "ValueError" p7) X.env) :: starEach [] X.env := by rfl)
    (hs5 : starEach [.Constant (.str w) k1 p10, .Attribute (.Name n p9) f p11] X.env = (false, eval (.Constant (.str w) k1 p10) X.env) :: starEach [.Attribute (.Name n p9) f p11] X.env := by rfl) (hs6 : starEach [.Attribute (.Name n p9) f p11] X.env = (false, eval (.Attribute (.Name n p9) f p11) X.env) :: starEach [] X.env := by rfl)
    (hl1 : (backTo p4 (starEach [.Name x p3] X.env)).any (·.1) = false := by rfl) (hl2 : (backTo p8 (starEach [.Name "ValueError" p7] X.env)).any (·.1) = false := by rfl)
    (hw1 : ∀ whole, isTrue (.Call (.Name "isinstance" p1) [.Name n p2, .Name x p3] [] p4) X.env whole = (do let v ← whole; standAt p4; holding [v] (truthy v)) := by intro _; rfl)
    (hw2 : ∀ whole, isTrue (.Call (.Name "isinstance" p5) [.Name n p6, .Name "ValueError" p7] [] p8) X.env whole = (do let v ← whole; standAt p8; holding [v] (truthy v)) := by intro _; rfl)
    (hfn : X.fn y = true ∨ X.env.scope.names.lookup y = some .local := by first | exact .inl rfl | exact .inr rfl) :
    NS X E (.Try body [.ExceptHandler (some (.Name rx q1)) (some n) [.Assign [.Name y np] (.IfExp (.BoolOp .And [.Call (.Name "isinstance" p1) [.Name n p2, .Name x p3] [] p4, .Call (.Name "isinstance" p5) [.Name n p6, .Name "ValueError" p7] [] p8] p13) (.Tuple [.Constant (.str w) k1 p10, .Attribute (.Name n p9) f p11] k2 p12) (.Constant (.str o) k3 p14) p15) pos] pos'] [] [] q2) (sTry mb (hmPick x f w i j)) := by
  obtain ⟨C, R, _, T, TI, gR, te, tv⟩ := h
  refine ns_try_as (i := i) (c := .ref R) (ts := fun a cls d => tAsg (tIf (tAnd (tB (tCB (rIsED X.K C a cls d) (tCons (tVar i) (tCons (tC (.ref C)) tNil)))) (tB (tCB (rIsED X.K C a cls d) (tCons (tVar i) (tCons (tC (.ty "ValueError")) tNil)))))
      (tTup (tCons (tC (.str w)) (tCons (tXf a cls d C f (tVar i)) tNil))) (tC (.str o))) (gName j)) hs hf hN hi hln ⟨hg, hdb, .inl gR⟩ tk hb (fun a oe cls d pn hz hfs => ?_) (fun De B F r H z C0 sl s a d hr hsl o' hh => ?_)
  · refine pss_one (ps_set hN hj hlj (pe_ifExp (PW.pt (pw_and (pt_val (pe_callB (call_isED TI hz hfs) hgi his PyProof.Rows.Boot.«isinstance» (pa_cons (pe_var hi hv hnd hnc) (pa_cons (pe_glob hgx T.at_ rfl hdx) pa_nil (hs := hs2)) (hs := hs1)) (by decide) (by decide) hs1 hl1) hw1)
      (pw_and1 (pt_val (pe_callB (call_isED TI hz hfs) hgi his PyProof.Rows.Boot.«isinstance» (pa_cons (pe_var hi hv hnd hnc) (pa_cons (pe_bltn hgv hve PyProof.Rows.Boot.«ValueError» rfl) pa_nil (hs := hs4)) (hs := hs3)) (by decide) (by decide) hs3 hl2) hw2))))
      (pe_tup (pa_cons pe_str (pa_cons (pe_xf (xfB_ok T.xf) T.nf hz hfs (pe_var hi hv hnd hnc) hab) pa_nil (hs := hs6)) (hs := hs5))) pe_str) hsw hfn)
  · obtain ⟨ha, hfl⟩ := hh
    unfold hmPick at o'
    cases hf0 : z.fld with
    | none =>
      rw [hf0] at o'
      exact False.elim o'
    | some q =>
      obtain ⟨g, dd⟩ := q
      rw [hf0] at o' hfl
      obtain ⟨dx, v, rfl, e1, e2⟩ := hfl
      have e1 := hr.froz dx _ e1
      simp only at o'
      split at o'
      · rename_i hc
        obtain ⟨c1, rfl, c3⟩ := hc
        rw [c1, T.at_] at ha
        cases ha
        refine ⟨true, te, fun _ a' ha' => ?_, fun z => Bool.noConfusion z⟩
        have hlen : i < s.length := by rw [hsl.1]; exact c3
        have hget : (s.set i (some (V.ref a')))[i]? = some (some (.ref a')) := by rw [List.getElem?_set_self hlen]
        refine ⟨.ref a', hget, ?_⟩
        refine ⟨.ref C, .ref C, true, dx, [(g, v)], rfl, rfl, fun u hu => hu, by unfold PySem.W.kitOne; rw [if_pos (by simp)], rfl, e1, true, rfl, ?_⟩
        dsimp only
        rw [if_pos rfl]
        refine ⟨.ref a', hget, ?_⟩
        refine ⟨.ty "ValueError", .type "ValueError", true, dx, [(g, v)], rfl, rfl, fun u hu => hu, tv, rfl, e1, true, rfl, ?_⟩
        dsimp only
        rw [if_pos rfl]
        refine ⟨.ref a', hget, rfl, rfl, dx, [(g, v)], v, rfl, e1, by simp [List.lookup], by rw [sizeLine_eq]; simp, fun p hp => ?_⟩
        show De.nx (((s.set i (some (.ref a'))).set j (some (.ref p))).set i none) (upd H p (.tup [.str w, v]))
        rw [set_swap hij]
        have hF := hr.freeF hp
        have sF : Same F (upd F p (.tup [.str w, v])) := same_new hF
        have hrep : Rep X.K (upd F p (.tup [.str w, v])) r (.tup [.str w, dd]) (.ref p) := ⟨p, _, rfl, .inl (.inl upd_same), ⟨_, _, rfl, rfl, _, _, rfl, e2.mono sF (.refl _), rfl⟩⟩
        have h1 : Sls X.K (upd F p (.tup [.str w, v])) r (sl.set j (some (.tup [.str w, dd]))) (s.set j (some (.ref p))) := Sls.set (hsl.mono sF (.refl _)) hrep j
        exact o' (upd F p (.tup [.str w, v])) r (upd H p (.tup [.str w, v])) sF (.refl _) (hr.freeze hp) _ (Sls.wipe h1 [i])
      · exact False.elim o'
end
end Nv

namespace Nv
open PySem PySem.Spec PyProof.Rows L2
/-! an error that is kept beyond its suite: except R as n: y = n -/
section
variable {X : Cx} {pins : List (Addr × Obj)} {σ : L2.St} {H : Hp} {s : Shared}
/-- an object that the def did not find at its start is told of from now on -/
theorem inv_track {a : Addr} {o : HO} (I : Inv X pins σ H s) (h0 : X.s_0.heap.get? a = none) (hn : H a = none) (nL : a ≠ X.env.locals) (nC : ∀ x c, X.env.cells.lookup x = some c → c ≠ a) (np : ∀ p ∈ X.pn ++ pins, p.1 ≠ a) (new : ObjOk X.prog X.w (upd H a o) s.heap a o) :
    Inv X pins σ (upd H a o) s where
  ok := I.ok
  os := I.os
  bare := I.bare
  base := {
    keep := I.base.keep
    slot := I.base.slot
    free := fun b u e n hq => by
      have hb : b ≠ a := fun z => by
        rw [z, h0] at e
        cases e
      rw [upd_ne hb]
      exact I.base.free b u e n hq
    there := I.base.there
    tups := fun b xs e => by
      have k := I.base.tups b xs e
      rw [upd_ne (ne_of_none k hn)]
      exact k
    frzs := fun b u v e => by
      have k := I.base.frzs b u v e
      rw [upd_ne (ne_of_none k hn)]
      exact k
    tbls := fun b ps e => by
      obtain ⟨more, k⟩ := I.base.tbls b ps e
      exact ⟨more, by rw [upd_ne (ne_of_none k hn)]; exact k⟩ }
  loc := I.loc
  cell := I.cell
  free := by
    rw [upd_ne (Ne.symm nL)]
    exact I.free
  freeC := fun x c e => by
    rw [upd_ne (nC x c e)]
    exact I.freeC x c e
  pin := fun p hp => by
    obtain ⟨k1, k2, k3, k4, k5⟩ := I.pin p hp
    exact ⟨k1, by rw [upd_ne (np p hp)]; exact k2, k3, k4, k5⟩
  hok := fun b u e => by
    by_cases hb : b = a
    · subst hb
      rw [upd_same] at e
      cases e
      exact new
    · rw [upd_ne hb] at e
      exact (I.hok b u e).stay (fun _ _ _ k => k) (fun c k => by rw [upd_ne (ne_of_none k hn)]; exact k) fun c xs k => by rw [upd_ne (ne_of_none k hn)]; exact k
  len := I.len
theorem exc_told {P : Program} {w : World} {H : Hp} {h : Heap} {a C : Addr} {d : Option Addr} (e : excφ a C d h) : ObjOk P w H h a (.ext (excφ a C d)) := by
  obtain ⟨oe, q1, q2, q3, vs, q4⟩ := e
  exact ⟨⟨oe, q1, q2, q3, vs, q4⟩, ⟨oe, q1⟩, fun h1 h2 z k => by
    obtain ⟨oe, r1, r2, r3, vs, r4⟩ := z
    exact ⟨oe, k _ r1, r2, r3, vs, r4⟩⟩
end
/-- what such a clause wishes of an error of the body -/
def wKeep (K : PySem.W.Frag) (c : Value) (i j : Nat) (De : Ends) : WX := fun cls d σ H =>
  PySem.W.exmOne K cls c = some true ∧ ∃ C : Addr, cls = .ref C ∧ ∀ a, H a = none → De.nx (((σ.set i (some (.ref a))).set j (some (.ref a))).set i none) (upd H a (.ext (excφ a C d)))
section
variable {X : Cx} {x n y : Str} {c : Value} {i j : Nat} {body : List Stmt} {np p1 p2 p3 pos pos' : Pos} {tb : WX → TS}
theorem ps_keep (hs : X.stack = X.env :: X.outer) (hf : X.env.frame = some X.env.locals) (hN : X.N.Nodup) (hi : X.N[i]? = some n) (hln : X.env.kindOf n = some .local) (hj : X.N[j]? = some y) (hlj : Loc X.env.scope y) (hc : Names X x c) (hex : X.ex = [])
    (hv : Vis X.env.scope n) (hnd : (n == ("__debug__" : Str)) = false) (hnc : (n == ("__classdict__" : Str)) = false) (hsw : swapsWith (.Name n p2) (some (.Name y p1)) p3.line X.env = pure false) (hfn : X.fn y = true ∨ X.env.scope.names.lookup y = some .local)
    (hb : ∀ (W : WX) (pn : List (Addr × Obj)) (xe : Value → Shared → Prop), L2.Takes (X.tr pn xe) W → PassesOwn (model X.prog X.w) X.A X.env xe → PSs (X.tr pn xe) body (tb W)) :
    PS X (.Try body [.ExceptHandler (some (.Name x np)) (some n) [.Assign [.Name y p1] (.Name n p2) p3] pos'] [] [] pos) (fun De σ H => tb (wKeep X.K c i j De) De σ H) := by
  refine ⟨fun pins s σ H De I h => ?_⟩
  have okX := I.ok
  have frX : X.A.frames = some (X.env :: X.outer) := okX.frames.trans (by rw [hs])
  have locN : Loc X.env.scope n := .inl hln
  refine wpAny_Try_except (wpAny_mono ((hb (wKeep X.K c i j De) (X.pn ++ pins) (fun e t1 => wpAny (model X.prog X.w) X.A (noteFrame e X.env) (fun _ t2 => wpAny (model X.prog X.w) X.A (setFlight e none) (fun _ t3 =>
    wpAny (model X.prog X.w) X.A (handleBy e X.env [.ExceptHandler (some (.Name x np)) (some n) [.Assign [.Name y p1] (.Name n p2) p3] pos']) (SP X pins De) X.xe t3) X.xe t2) X.xe t1) (fun u s' xx => ?_) PassesOwn.looking).run [] s σ H De (I.toTry _) h) (fun f s1 hsp => ?_) fun e s1 he => he)
  · obtain ⟨a, B, sI, pins', σ', H', cls, d, rfl, J', nb, up, sky, na, os, ag, hb1, C, rfl, keepq⟩ := xx
    have J : Inv X pins σ' H' sI := J'.ofTry okX
    have skyX : Sky B (X.env :: X.outer) a (Zc (.ref C) d) X.env.locals s'.heap := hs ▸ sky
    show wpAny (model X.prog X.w) X.A (noteFrame (.ref a) X.env) _ _ _
    refine Sky.land Zc.steady frX hf skyX fun h3 fl3 up3 => ?_
    have J3 : Inv X pins σ' H' { s' with heap := h3 } := J.landed nb fl3.1 (up.trans up3) os ag
    obtain ⟨oe3, vs3, he3, hz3, hd3⟩ := fl3.there
    have offF : a ∉ frs (X.env :: X.outer) := fun hm => by
      obtain ⟨_, o', e', hnf⟩ := fl3.2.2.1.mem hm
      rw [he3] at e'
      cases e'
      exact hnf _ hd3
    have nL : a ≠ X.env.locals := fun z => offF (List.mem_filterMap.mpr ⟨X.env, List.mem_cons_self, by rw [hf, z]⟩)
    have nF : a ∉ X.fs := fun hm => by
      obtain ⟨e, he, q⟩ := List.mem_filterMap.mp hm
      exact offF (List.mem_filterMap.mpr ⟨e, List.mem_cons_of_mem _ he, q⟩)
    have offI : sI.heap.get? a = none := by
      cases e : sI.heap.get? a with
      | none => rfl
      | some o =>
        have q := nb a o e (by rw [hs]; exact offF)
        rw [fl3.2.1] at q
        cases q
    have S3 := J3.suite he3 hd3 na nL nF
    refine wpAny_handleBy_cons (codeAny_handlers_test ?_) (fun q => by cases q)
    have LT : PySem.W.Looks (model X.prog X.w) h3 (typeOf (.ref a)) (.ref C) := fun A Q E t k q => wpAny_typeOf_ref (k _ _ he3) (by rw [hz3.1]; exact q)
    have LM := PySem.W.exm_one (M := model X.prog X.w) (J3.kIn) LT hb1
    have asks : ∀ {Q : Value → Shared → Prop} {E : Value → Shared → Prop}, Q c { s' with heap := h3 } → wpAny (model X.prog X.w) (X.A.mark (some (.ref a))) (eval (.Name x np) X.env) Q E { s' with heap := h3 } := fun {Q E} q => by
      obtain ⟨g1, g2, g3 | ⟨g3, g4, g5⟩⟩ := hc
      · exact ld_glob (X := X.suite a ((a, oe3) :: (X.pn ++ pins))) S3 g1 g3 q g2
      · exact ld_blt (X := X.suite a ((a, oe3) :: (X.pn ++ pins))) S3 g1 g3 g4 q g5 g2
    refine asks (LM.here ?_)
    refine codeAny_handlers_suite_as ?_
    refine HandSPX.lands_againZ fl3 fun h4 fl4 up4 => ?_
    have J4 : Inv X pins σ' H' { s' with heap := h4 } := J.landed nb fl4.1 ((up.trans up3).trans up4) os ag
    obtain ⟨oe4, vs4, he4, hz4, hd4⟩ := fl4.there
    have S4 := J4.suite he4 hd4 na nL nF
    refine store_ok (X := X.suite a ((a, oe4) :: (X.pn ++ pins))) (v := .ref a) S4 hN hi locN rfl (fun s5 S5 => ?_) (.inr hln)
    have suite : PSs (X.suite a ((a, oe4) :: (X.pn ++ pins))) [.Assign [.Name y p1] (.Name n p2) p3] (tAsg (tVar i) (gName j)) := pss_one (ps_set hN hj hlj (pe_var hi hv hnd hnc) hsw hfn)
    have hlen : i < σ'.length := by rw [J.len]; exact (List.getElem?_eq_some_iff.mp hi).1
    have wish : tAsg (tVar i) (gName j) { nx := fun σ6 H6 => σ6 = (σ'.set i (some (.ref a))).set j (some (.ref a)) ∧ H6 = H', rt := fun _ _ => False, bk := fun _ _ => False, ct := fun _ _ => False } (σ'.set i (some (.ref a))) H' :=
      ⟨.ref a, by rw [List.getElem?_set_self hlen], rfl, rfl⟩
    refine wpAny_mono (suite.run [] s5 _ H' _ S5 wish) (fun f s6 hsp => ?_) (fun _ _ z => False.elim z)
    cases f with
    | next =>
      obtain ⟨σ6, H6, S6, rfl, rfl⟩ := hsp
      have at6 : s6.heap.get? a = some oe4 := (S6.pin (a, oe4) (List.mem_append_left _ List.mem_cons_self)).1
      have J6 := inv_track (o := .ext (excφ a C d)) (S6.unsuite okX) (by
          cases e : X.s_0.heap.get? a with
          | none => rfl
          | some o =>
            have hx : a ∉ X.ex := by rw [hex]; exact List.not_mem_nil
            obtain ⟨o', q⟩ := J.base.there a o e hx
            rw [offI] at q
            cases q) na nL (fun x c e z => by
          obtain ⟨v, o, q, _⟩ := J.cell x c e
          rw [z, offI] at q
          cases q) (fun p hp z => by
          have q := (J.pin p hp).1
          rw [z, offI] at q
          cases q) (exc_told ⟨oe4, at6, hz4.1, hz4.2, vs4, hd4⟩)
      exact gone_ok J6 hN hi hln fun s7 J7 => ⟨_, _, J7, keepq a na⟩
    | brk =>
      obtain ⟨_, _, _, q6⟩ := hsp
      exact False.elim q6
    | cont =>
      obtain ⟨_, _, _, q6⟩ := hsp
      exact False.elim q6
    | ret u =>
      obtain ⟨_, _, _, _, _, q6⟩ := hsp
      exact False.elim q6
  · cases f with
    | next =>
      obtain ⟨σ1, H1, J1, q⟩ := hsp
      exact wpAny_execs_nil ⟨σ1, H1, J1.ofTry okX, q⟩
    | brk =>
      obtain ⟨σ1, H1, J1, q⟩ := hsp
      exact ⟨σ1, H1, J1.ofTry okX, q⟩
    | cont =>
      obtain ⟨σ1, H1, J1, q⟩ := hsp
      exact ⟨σ1, H1, J1.ofTry okX, q⟩
    | ret u =>
      obtain ⟨v, σ1, H1, J1, r, q⟩ := hsp
      exact ⟨v, σ1, H1, J1.ofTry okX, r, q⟩
end
/-- the held error as a value -/
def heldD (e : Exn) : D := match e.fld with
  | some (f, d) => .exc e.cls f [d]
  | none => .exc e.cls "" []
def hmKeep (cs : List Str) (i j : Nat) : Exn → MS := fun e sl C => if e.cls ∈ cs ∧ i < sl.length then .ok ((.nx, (sl.set j (some (heldD e))).set i none), C) else .no
/-- the classes of errors that the clause R may hold -/
def KeepF (K : PySem.W.Frag) (mg : Str → Option Value) (cs : List Str) (R : Addr) : Prop := ∀ c ∈ cs, ∀ C : Addr, mg c = some (.ref C) → PySem.W.nsIn K mainGlobals c = some (some (.ref C)) ∧ PySem.W.exmOne K (.ref C) (.ref R) = some true
theorem held_rep {K : PySem.W.Frag} {mg : Str → Option Value} {B F H : Hp} {r : List Addr} {C : Store} {e : Exn} {a C0 : Addr} {d : Option Addr} (hr : Rel K B F r H C) (hh : HeldOk K mg F r H e C0 d) (hn : PySem.W.nsIn K mainGlobals e.cls = some (some (.ref C0))) (ha : H a = none) :
    Rep K (upd F a (.ext (excφ a C0 d))) r (heldD e) (.ref a) := by
  have hF := hr.freeF ha
  have sF : Same F (upd F a (.ext (excφ a C0 d))) := same_new hF
  obtain ⟨_, hfl⟩ := hh
  unfold heldD
  cases hf : e.fld with
  | none =>
    rw [hf] at hfl
    exact ⟨a, C0, [], rfl, hn, ⟨d, upd_same, .inl ⟨rfl, hfl⟩⟩, rfl⟩
  | some q =>
    obtain ⟨f, dd⟩ := q
    rw [hf] at hfl
    obtain ⟨dx, v, rfl, e1, e2⟩ := hfl
    have hne : dx ≠ a := fun z => by
      rw [z, hF] at e1
      cases e1
    exact ⟨a, C0, [v], rfl, hn, ⟨some dx, upd_same, .inr ⟨v, dx, rfl, rfl, by rw [upd_ne hne]; exact e1⟩⟩, v, [], rfl, e2.mono sF (.refl _), rfl⟩
section
variable {X : Cx} {E : XK} {x n y : Str} {R : Addr} {body : List Stmt} {np p1 p2 p3 pos pos' : Pos} {mb : MS}
theorem ns_try_keep (i j : Nat) (cs : List Str) (T : KeepF X.K X.mg cs R) (gR : X.mg x = some (.ref R)) (hs : X.stack = X.env :: X.outer) (hf : X.env.frame = some X.env.locals) (hN : X.N.Nodup) (hi : X.N[i]? = some n) (hln : X.env.kindOf n = some .local) (hj : X.N[j]? = some y) (hlj : Loc X.env.scope y) (hij : i ≠ j) (hex : X.ex = [])
    (hb : ∀ (W : WX) (pn : List (Addr × Obj)) (xe : Value → Shared → Prop), L2.Takes (X.tr pn xe) W → NSsx (X.tr pn xe) W body mb)
    (hg : Gl X x := by rfl) (hdb : (x == ("__debug__" : Str)) = false := by decide) (hv : Vis X.env.scope n := by first | exact Or.inl rfl | exact Or.inr (Or.inl rfl) | exact Or.inr (Or.inr rfl)) (hnd : (n == ("__debug__" : Str)) = false := by decide) (hnc : (n == ("__classdict__" : Str)) = false := by decide)
    (hsw : swapsWith (.Name n p2) (some (.Name y p1)) p3.line X.env = pure false := by rfl) (hfn : X.fn y = true ∨ X.env.scope.names.lookup y = some .local := by first | exact .inl rfl | exact .inr rfl) :
    NS X E (.Try body [.ExceptHandler (some (.Name x np)) (some n) [.Assign [.Name y p1] (.Name n p2) p3] pos'] [] [] pos) (sTry mb (hmKeep cs i j)) :=
  ⟨ps_imp (ps_keep (c := .ref R) (tb := fun W => LSX X.K X.mg W mb) hs hf hN hi hln hj hlj ⟨hg, hdb, .inl gR⟩ hex hv hnd hnc hsw hfn (fun W pn xe h _ => (hb W pn xe h).ps)) fun De s H q => by
    obtain ⟨B, F, r, sl, C, hr, hsl, o⟩ := q
    refine ⟨B, F, r, sl, C, hr, hsl, ?_⟩
    unfold sTry at o
    cases hm0 : mb sl C with
    | ok p =>
      rw [hm0] at o
      exact o
    | no =>
      rw [hm0] at o
      exact o
    | ex e C' =>
      rw [hm0] at o
      have o : OutS X.K X.mg E B F r (hmKeep cs i j e sl C') De := o
      unfold hmKeep at o
      split at o
      · rename_i hc
        obtain ⟨hc1, hc2⟩ := hc
        intro F' r' H' a k1 k2 k3 k4
        obtain ⟨hn, te⟩ := T _ hc1 a k4
        have main : ∀ d, HeldOk X.K X.mg F' r' H' e a d → wKeep X.K (.ref R) i j De (.ref a) d s H' := fun d hh => by
          refine ⟨te, a, rfl, fun a' ha' => ?_⟩
          rw [set_swap hij]
          have sF : Same F' (upd F' a' (.ext (excφ a' a d))) := same_new (k3.freeF ha')
          have h1 := Sls.set ((hsl.mono k1 k2).mono sF (.refl _)) (held_rep k3 hh hn ha') j
          exact OutS.next (OutS.mono (OutS.mono o k1 k2) sF (.refl _)) (k3.freeze ha') (Sls.wipe h1 [i])
        cases hfl : e.fld with
        | none => exact main none ⟨k4, by rw [hfl]⟩
        | some p =>
          obtain ⟨f, dd⟩ := p
          intro dx v e1 e2
          exact main (some dx) ⟨k4, by rw [hfl]; exact ⟨dx, v, rfl, e1, e2⟩⟩
      · exact False.elim o⟩
end
end Nv

namespace Nv
open PySem PySem.Spec PyProof.Rows L2
/-! isinstance of a kept error -/
def rIsH (K : PySem.W.Frag) : List V → Hp → VK → Prop := fun xs H Q => ∃ (a C : Addr) (d : Option Addr) (c : V) (cv : Value) (b : Bool), xs = [.ref a, c] ∧ H a = some (.ext (excφ a C d)) ∧ ExcC K C ∧ (d = none ∨ ∃ (dd : Addr) (fs : List (Str × V)), d = some dd ∧ H dd = some (.xd fs)) ∧
  (∀ u, RelV c u → u = cv) ∧ PySem.W.kitOne K (.ref C) cv = some b ∧ Q (.bl b) H
section
variable {X : Cx}
theorem call_isH : CallR X (.builtin "isinstance") (rIsH X.K) := by
  intro pins s σ H xs us Q I r h
  obtain ⟨a, C, d, c, cv, b, rfl, ha, T, hd, hcv, e, q⟩ := h
  cases r with
  | cons rx rr =>
    cases rr with
    | cons rt rr =>
      cases rr
      cases rx
      have ec := hcv _ rt
      subst ec
      have hx : ObjOk X.prog X.w H s.heap a (.ext (excφ a C d)) := I.hok a _ ha
      obtain ⟨⟨oe, q1, q2, q3, vs, q4⟩, _, _⟩ := hx
      have nc : PySem.W.notCls oe = true := by
        unfold PySem.W.notCls
        rw [q4] <;> rfl
      obtain ⟨cdD, hcD, _⟩ := PySem.W.any_some T.hd
      have hcl : (PySem.W.clsIn X.K C).isSome = true := by rw [hcD]; rfl
      rcases hd with rfl | ⟨dd, fs, rfl, hdx⟩
      · have J : PySem.W.InstAt s.heap a oe C none := ⟨q1, q2, nc, by rw [q3]; trivial⟩
        exact PySem.W.kia_one (PySem.W.kitx_exc hcl T.hg T.hk T.hs T.ha T.hn T.ht T.hm) I.kIn J e (fun z => nomatch z) fun tk => ⟨.bl b, H, I.kept (t' := tk) fun _ _ z => z, rfl, q⟩
      · have hy : ObjOk X.prog X.w H s.heap dd (.xd fs) := I.hok dd _ hdx
        obtain ⟨mA, hns, hr⟩ := hy
        obtain ⟨od, ho, hl⟩ := lookIn_ns hns
        have J : PySem.W.InstAt s.heap a oe C (some od) := ⟨q1, q2, nc, by rw [q3]; exact ho⟩
        exact PySem.W.kia_one (PySem.W.kitx_exc hcl T.hg T.hk T.hs T.ha T.hn T.ht T.hm) I.kIn J e (fun z => nomatch z) fun tk => ⟨.bl b, H, I.kept (t' := tk) fun _ _ z => z, rfl, q⟩
end
/-- tb: a class of errors and the names of what it is an instance of -/
def gIsOwn (tb : List (Str × List Str)) (t : Str) (x : D) (C : Store) : RE := match x with
  | .exc c _ _ => match tb.lookup c with
    | some as => .ok (.bl (as.contains t), C)
    | none => .no
  | _ => .no
def OwnF (K : PySem.W.Frag) (tb : List (Str × List Str)) (t : Str) (cv : Value) : Prop := ∀ c as, tb.lookup c = some as → ∀ C : Addr, PySem.W.nsIn K mainGlobals c = some (some (.ref C)) → ExcC K C ∧ PySem.W.kitOne K (.ref C) cv = some (as.contains t)
section
variable {X : Cx} {E : XK} {e : Expr} {m : ME} {t : Str} {tb : List (Str × List Str)} {c : V} {cv : Value} {p1 p2 pos : Pos}
theorem ne_isOwn (T : OwnF X.K tb t cv) (hcv : ∀ u, RelV c u → u = cv) (his : X.mg "isinstance" = none) (ht : PE X (.Name t p2) (tC c)) (he : NE X E e m) (hgi : Gl X "isinstance" := by rfl)
    (h1 : starEach [e, .Name t p2] X.env = (false, eval e X.env) :: starEach [.Name t p2] X.env := by rfl) (h2 : starEach [.Name t p2] X.env = (false, eval (.Name t p2) X.env) :: starEach [] X.env := by rfl) (h3 : (backTo pos (starEach [.Name t p2] X.env)).any (·.1) = false := by rfl) :
    NE X E (.Call (.Name "isinstance" p1) [e, .Name t p2] [] pos) (m1 (gIsOwn tb t) m) :=
  ⟨pe_imp (pe_callB call_isH hgi his PyProof.Rows.Boot.«isinstance» (pa_cons he.pe (pa_cons ht pa_nil (hs := h2)) (hs := h1)) (by decide) (by decide) h1 h3) fun s H Q q => by
    obtain ⟨B, F, r, sl, C, hr, hs, o⟩ := q
    refine ⟨B, F, r, sl, C, hr, hs, Out.bind (P := Rep X.K) o fun x C1 F1 r1 H1 v e1 e2 hr1 hx o1 => ?_⟩
    unfold gIsOwn at o1
    cases x with
    | exc c0 f vs =>
      simp only at o1
      obtain ⟨a, C0, us, rfl, hn, ⟨d, hF, hd⟩, hu⟩ := hx
      cases hl : tb.lookup c0 with
      | none =>
        rw [hl] at o1
        exact False.elim o1
      | some as =>
        rw [hl] at o1
        obtain ⟨TC, hk⟩ := T c0 as hl C0 hn
        refine ⟨a, C0, d, c, cv, as.contains t, rfl, hr1.froz a _ hF, TC, ?_, hcv, hk, out_ok (d := .bl _) hr1 rfl o1⟩
        rcases hd with ⟨_, hd⟩ | ⟨u, dd, _, hd, hdd⟩
        · exact .inl hd
        · exact .inr ⟨dd, _, hd, hr1.froz dd _ hdd⟩
    | _ => exact False.elim o1⟩
end
/-! .. of several classes at once -/
def rIsHT (K : PySem.W.Frag) : List V → Hp → VK → Prop := fun xs H Q => ∃ (a C tp : Addr) (d : Option Addr) (cs : List V) (ws : List Value) (b : Bool), xs = [.ref a, .ref tp] ∧ H a = some (.ext (excφ a C d)) ∧ ExcC K C ∧ (d = none ∨ ∃ (dd : Addr) (fs : List (Str × V)), d = some dd ∧ H dd = some (.xd fs)) ∧
  H tp = some (.tup cs) ∧ (∀ us, Vals cs us → us = ws) ∧ PySem.W.kitAny K (.ref C) ws = some b ∧ Q (.bl b) H
section
variable {X : Cx}
theorem held_inst {pins : List (Addr × Obj)} {s : Shared} {σ : L2.St} {H : Hp} {a C : Addr} {d : Option Addr} (I : Inv X pins σ H s) (ha : H a = some (.ext (excφ a C d))) (hd : d = none ∨ ∃ (dd : Addr) (fs : List (Str × V)), d = some dd ∧ H dd = some (.xd fs)) : ∃ ox od, PySem.W.InstAt s.heap a ox C od := by
  have hx : ObjOk X.prog X.w H s.heap a (.ext (excφ a C d)) := I.hok a _ ha
  obtain ⟨⟨oe, q1, q2, q3, vs, q4⟩, _, _⟩ := hx
  have nc : PySem.W.notCls oe = true := by
    unfold PySem.W.notCls
    rw [q4] <;> rfl
  rcases hd with rfl | ⟨dd, fs, rfl, hdx⟩
  · exact ⟨oe, none, q1, q2, nc, by rw [q3]; trivial⟩
  · have hy : ObjOk X.prog X.w H s.heap dd (.xd fs) := I.hok dd _ hdx
    obtain ⟨mA, hns, hr⟩ := hy
    obtain ⟨od, ho, hl⟩ := lookIn_ns hns
    exact ⟨oe, some od, q1, q2, nc, by rw [q3]; exact ho⟩
theorem call_isHT : CallR X (.builtin "isinstance") (rIsHT X.K) := by
  intro pins s σ H xs us Q I r h
  obtain ⟨a, C, tp, d, cs, ws, b, rfl, ha, T, hd, hT, hcs, e, q⟩ := h
  obtain ⟨u1, u2, rfl, r1, r2⟩ := vals2 r
  cases (show u1 = Value.ref a from r1)
  cases (show u2 = Value.ref tp from r2)
  obtain ⟨ox, od, J⟩ := held_inst I ha hd
  obtain ⟨_, its, rv, o, h1, h2, n, h3⟩ := (show ObjOk X.prog X.w H s.heap tp (.tup cs) from I.hok tp _ hT)
  have e3 := hcs its rv
  subst e3
  obtain ⟨oc, od', dt, sl⟩ := o
  simp only at h2 h3
  subst h2 h3
  obtain ⟨cdD, hcD, _⟩ := PySem.W.any_some T.hd
  exact PySem.W.kia_tup (PySem.W.kitx_exc (by rw [hcD]; rfl) T.hg T.hk T.hs T.ha T.hn T.ht T.hm) I.kIn J h1 e (fun z => nomatch z) fun tk => ⟨.bl b, H, I.tok tk, rfl, q⟩
end
def gIsOwns (tb : List (Str × List Str)) (ts : List Str) (x : D) (C : Store) : RE := match x with
  | .exc c _ _ => match tb.lookup c with
    | some as => .ok (.bl (ts.any fun t => as.contains t), C)
    | none => .no
  | _ => .no
/-- the classes that a tuple names, by their values -/
inductive OwnFs (K : PySem.W.Frag) (tb : List (Str × List Str)) : List Str → List V → List Value → Prop
  | nil : OwnFs K tb [] [] []
  | cons {t : Str} {c : V} {cv : Value} {ts : List Str} {cs : List V} {cvs : List Value} (h : OwnF K tb t cv) (hc : ∀ u, RelV c u → u = cv) (r : OwnFs K tb ts cs cvs) : OwnFs K tb (t :: ts) (c :: cs) (cv :: cvs)
theorem OwnFs.any {K : PySem.W.Frag} {tb : List (Str × List Str)} {ts : List Str} {cs : List V} {cvs : List Value} (h : OwnFs K tb ts cs cvs) {c : Str} {as : List Str} (hl : tb.lookup c = some as) {C : Addr} (hn : PySem.W.nsIn K mainGlobals c = some (some (.ref C))) :
    PySem.W.kitAny K (.ref C) cvs = some (ts.any fun t => as.contains t) := by
  induction h with
  | nil => rfl
  | @cons t c' cv ts cs cvs h hc r ih =>
    obtain ⟨_, hk⟩ := h c as hl C hn
    show (match PySem.W.kitOne K (.ref C) cv with
      | some true => some true
      | some false => PySem.W.kitAny K (.ref C) cvs
      | none => none) = _
    rw [hk, List.any_cons]
    cases as.contains t with
    | true => rfl
    | false => exact ih
theorem OwnFs.vals {K : PySem.W.Frag} {tb : List (Str × List Str)} {ts : List Str} {cs : List V} {cvs : List Value} (h : OwnFs K tb ts cs cvs) : ∀ us, Vals cs us → us = cvs := by
  induction h with
  | nil => intro us r; cases r; rfl
  | cons h hc r ih =>
    intro us v
    cases v with
    | cons k w => rw [hc _ k, ih _ w]
section
variable {X : Cx} {E : XK} {e te : Expr} {es : List Expr} {m : ME} {ts : List Str} {tb : List (Str × List Str)} {cs : List V} {cvs : List Value} {k : Nat} {p1 p2 pos : Pos}
theorem pcs_nil : PA X [] (fun _ H Q => Q [] H) := pa_nil
theorem pcs_cons {c : V} (h : PE X te (tC c)) (r : PA X es (fun _ H Q => Q cs H)) (hs : starEach (te :: es) X.env = (false, eval te X.env) :: starEach es X.env := by rfl) : PA X (te :: es) (fun _ H Q => Q (c :: cs) H) := pa_cons h r (hs := hs)
theorem ne_isOwns (T : OwnFs X.K tb ts cs cvs) (hE : ∀ c as, tb.lookup c = some as → ∀ C : Addr, PySem.W.nsIn X.K mainGlobals c = some (some (.ref C)) → ExcC X.K C) (hz : cs.length ≤ 1000) (his : X.mg "isinstance" = none) (ht : PA X es (fun _ H Q => Q cs H)) (he : NE X E e m) (hgi : Gl X "isinstance" := by rfl)
    (h1 : starEach [e, .Tuple es k p2] X.env = (false, eval e X.env) :: starEach [.Tuple es k p2] X.env := by rfl) (h2 : starEach [.Tuple es k p2] X.env = (false, eval (.Tuple es k p2) X.env) :: starEach [] X.env := by rfl) (h3 : (backTo pos (starEach [.Tuple es k p2] X.env)).any (·.1) = false := by rfl) :
    NE X E (.Call (.Name "isinstance" p1) [e, .Tuple es k p2] [] pos) (m1 (gIsOwns tb ts) m) :=
  ⟨pe_imp (pe_callB call_isHT hgi his PyProof.Rows.Boot.«isinstance» (pa_cons he.pe (pa_cons (pe_tup ht) pa_nil (hs := h2)) (hs := h1)) (by decide) (by decide) h1 h3) fun s H Q q => by
    obtain ⟨B, F, r, sl, C, hr, hs, o⟩ := q
    refine ⟨B, F, r, sl, C, hr, hs, Out.bind (P := Rep X.K) o fun x C1 F1 r1 H1 v e1 e2 hr1 hx o1 => ?_⟩
    unfold gIsOwns at o1
    cases x with
    | exc c0 f vs =>
      simp only at o1
      obtain ⟨a, C0, us, rfl, hn, ⟨d, hF, hd⟩, hu⟩ := hx
      cases hl : tb.lookup c0 with
      | none =>
        rw [hl] at o1
        exact False.elim o1
      | some as =>
        rw [hl] at o1
        refine ⟨by rw [sizeLine_eq]; omega, fun tp htp => ?_⟩
        have hFa : F1 tp = none := hr1.freeF htp
        have keep : ∀ {b : Addr} {o : HO}, F1 b = some o → upd H1 tp (.tup cs) b = some o := fun {b o} k => by
          have hb : b ≠ tp := fun z => by
            rw [z, hFa] at k
            cases k
          rw [upd_ne hb]
          exact hr1.froz b _ k
        refine ⟨a, C0, tp, d, cs, cvs, ts.any fun t => as.contains t, rfl, keep hF, hE c0 as hl C0 hn, ?_, upd_same, T.vals, T.any hl hn, ?_⟩
        · rcases hd with ⟨_, hd⟩ | ⟨u, dd, _, hd, hdd⟩
          · exact .inl hd
          · exact .inr ⟨dd, _, hd, keep hdd⟩
        · exact out_ok (d := .bl _) (hr1.junk htp) rfl o1
    | _ => exact False.elim o1⟩
end
/-! by facts of the text alone -/
def OwnX (K : PySem.W.Frag) (mg : Str → Option Value) (tb : List (Str × List Str)) (t : Str) : Prop :=
  ∃ (c : V) (cv : Value), OwnF K tb t cv ∧ (∀ u, RelV c u → u = cv) ∧ RelV c cv ∧ (mg t = some cv ∨ (mg t = none ∧ bootBuiltins t = some cv ∧ t ≠ "__name__"))
theorem ownX_ref {K : PySem.W.Frag} {mg : Str → Option Value} {tb : List (Str × List Str)} {t : Str} {T : Addr} (hm : mg t = some (.ref T)) (h : OwnF K tb t (.ref T)) : OwnX K mg tb t := ⟨.ref T, .ref T, h, fun _ k => k, rfl, .inl hm⟩
theorem ownX_ty {K : PySem.W.Frag} {mg : Str → Option Value} {tb : List (Str × List Str)} {t : Str} {n : String} (hm : mg t = none) (hb : bootBuiltins t = some (.type n)) (hn : t ≠ "__name__") (h : OwnF K tb t (.type n)) : OwnX K mg tb t := ⟨.ty n, .type n, h, fun _ k => k, rfl, .inr ⟨hm, hb, hn⟩⟩
section
variable {X : Cx} {E : XK} {e : Expr} {es : List Expr} {m : ME} {t : Str} {ts : List Str} {tb : List (Str × List Str)} {k : Nat} {p1 p2 p pos : Pos}
theorem pe_own {c : V} {cv : Value} (h : X.mg t = some cv ∨ (X.mg t = none ∧ bootBuiltins t = some cv ∧ t ≠ "__name__")) (hr : RelV c cv) (hg : Gl X t) (hd : (t == ("__debug__" : Str)) = false) : PE X (.Name t p) (tC c) := by
  rcases h with h | ⟨h1, h2, h3⟩
  · exact pe_glob hg h hr hd
  · exact pe_bltn hg h1 h2 hr h3 hd
theorem ne_isOwnX (h : OwnX X.K X.mg tb t) (his : X.mg "isinstance" = none) (he : NE X E e m) (hg : Gl X t := by rfl) (hd : (t == ("__debug__" : Str)) = false := by decide) (hgi : Gl X "isinstance" := by rfl)
    (h1 : starEach [e, .Name t p2] X.env = (false, eval e X.env) :: starEach [.Name t p2] X.env := by rfl) (h2 : starEach [.Name t p2] X.env = (false, eval (.Name t p2) X.env) :: starEach [] X.env := by rfl) (h3 : (backTo pos (starEach [.Name t p2] X.env)).any (·.1) = false := by rfl) :
    NE X E (.Call (.Name "isinstance" p1) [e, .Name t p2] [] pos) (m1 (gIsOwn tb t) m) := by
  obtain ⟨c, cv, hF, hu, hr, hn⟩ := h
  exact ne_isOwn hF hu his (pe_own hn hr hg hd) he hgi h1 h2 h3
/-- the names in the tuple -/
inductive OwnsP (X : Cx) (tb : List (Str × List Str)) : List Expr → List Str → Prop
  | nil : OwnsP X tb [] []
  | cons {t : Str} {p : Pos} {es : List Expr} {ts : List Str} (h : OwnX X.K X.mg tb t) (r : OwnsP X tb es ts) (hg : Gl X t := by rfl) (hd : (t == ("__debug__" : Str)) = false := by decide) (hs : starEach (.Name t p :: es) X.env = (false, eval (.Name t p) X.env) :: starEach es X.env := by rfl) : OwnsP X tb (.Name t p :: es) (t :: ts)
theorem OwnsP.all (h : OwnsP X tb es ts) : ∃ cs cvs, OwnFs X.K tb ts cs cvs ∧ PA X es (fun _ H Q => Q cs H) ∧ cs.length = es.length := by
  induction h with
  | nil => exact ⟨[], [], .nil, pcs_nil, rfl⟩
  | @cons t p es ts h r hg hd hs ih =>
    obtain ⟨cs, cvs, i1, i2, i3⟩ := ih
    obtain ⟨c, cv, hF, hu, hr, hn⟩ := h
    exact ⟨c :: cs, cv :: cvs, .cons hF hu i1, pcs_cons (pe_own hn hr hg hd) i2 hs, by simp [i3]⟩
theorem ne_isOwnsX (T : OwnsP X tb es ts) (hE : ∀ c as, tb.lookup c = some as → ∀ C : Addr, PySem.W.nsIn X.K mainGlobals c = some (some (.ref C)) → ExcC X.K C) (his : X.mg "isinstance" = none) (he : NE X E e m) (hz : es.length ≤ 1000 := by decide) (hgi : Gl X "isinstance" := by rfl)
    (h1 : starEach [e, .Tuple es k p2] X.env = (false, eval e X.env) :: starEach [.Tuple es k p2] X.env := by rfl) (h2 : starEach [.Tuple es k p2] X.env = (false, eval (.Tuple es k p2) X.env) :: starEach [] X.env := by rfl) (h3 : (backTo pos (starEach [.Tuple es k p2] X.env)).any (·.1) = false := by rfl) :
    NE X E (.Call (.Name "isinstance" p1) [e, .Tuple es k p2] [] pos) (m1 (gIsOwns tb ts) m) := by
  obtain ⟨cs, cvs, i1, i2, i3⟩ := T.all
  exact ne_isOwns i1 hE (by omega) his i2 he hgi h1 h2 h3
/-- one class's facts -/
theorem ownF_one {K : PySem.W.Frag} {c t : Str} {as : List Str} {C0 : Addr} {cv : Value} (hc : PySem.W.nsIn K mainGlobals c = some (some (.ref C0))) (T : ExcC K C0) (hk : PySem.W.kitOne K (.ref C0) cv = some (as.contains t)) : OwnF K [(c, as)] t cv := by
  intro c' as' hl C hn
  have e : c' = c ∧ as' = as := by
    by_cases h : c' = c
    · subst h
      simp [List.lookup] at hl
      exact ⟨rfl, hl.symm⟩
    · have h2 : (c' == c) = false := by simpa using h
      simp [List.lookup, h2] at hl
  obtain ⟨rfl, rfl⟩ := e
  rw [hc] at hn
  cases hn
  exact ⟨T, hk⟩
theorem kit_ref {K : PySem.W.Frag} {C T : Addr} {b : Bool} (h1 : C ≠ T) (h2 : PySem.W.hasDictIn K T = true) (h3 : PySem.W.typeIn K (.ref T) = some (.type "type")) (h4 : PySem.W.subIn K (.ref C) (.ref T) = some b) : PySem.W.kitOne K (.ref C) (.ref T) = some b := by
  obtain ⟨cd, hc, _⟩ := PySem.W.any_some h2
  show (if ((Value.ref C : Value) == .ref T) = true then some true else PySem.W.kitCls K (.ref C) (.ref T)) = some b
  rw [if_neg (fun z => h1 (Value.ref.inj (beq_iff_eq.mp z)))]
  show (if ((PySem.W.clsIn K T).isSome && PySem.W.typeIn K (.ref T) == some (.type "type")) = true then PySem.W.subIn K (.ref C) (.ref T) else none) = some b
  rw [if_pos (by rw [hc, h3] <;> rfl)]
  exact h4
theorem kit_self {K : PySem.W.Frag} {C : Addr} : PySem.W.kitOne K (.ref C) (.ref C) = some true := by
  show (if ((Value.ref C : Value) == .ref C) = true then some true else _) = some true
  rw [if_pos (by simp)]
theorem kit_ve {K : PySem.W.Frag} {C : Addr} (tv : PySem.W.subIn K (.ref C) (.type "ValueError") = some true) : PySem.W.kitOne K (.ref C) (.type "ValueError") = some true := by
  show (if ((Value.ref C : Value) == .type "ValueError") = true then some true else PySem.W.kitCls K (.ref C) (.type "ValueError")) = some true
  rw [if_neg (fun z => by have z := beq_iff_eq.mp z; cases z)]
  show (if PySem.W.kitMeta "ValueError" = true then PySem.W.subIn K (.ref C) (.type "ValueError") else none) = some true
  rw [if_pos (by decide +kernel)]
  exact tv
end
/-! raise and keep, by facts of the text -/
def Raise0 (K : PySem.W.Frag) (mg : Str → Option Value) (x : Str) : Prop := ∃ C : Addr, Err0 K mg x C
def KeepX (K : PySem.W.Frag) (mg : Str → Option Value) (x : Str) (cs : List Str) : Prop := ∃ R : Addr, mg x = some (.ref R) ∧ KeepF K mg cs R
section
variable {X : Cx} {E : XK} {x n y t : Str} {cs : List Str} {body : List Stmt} {np p p1 p2 p3 rp pos pos' : Pos} {mb : MS} {k : Nat}
theorem ns_raise0X (h : Raise0 X.K X.mg x) (hc : X.calm = true) (tk : L2.Takes X (fun cls d _ H => E cls d H)) (hg : Gl X x := by rfl) (hdb : (x == ("__debug__" : Str)) = false := by decide) :
    NS X E (.Raise (some (.Call (.Name x p) [.Constant (.str t) k p2] [] pos)) none rp) (sRaise0 x) := by
  obtain ⟨C, T⟩ := h
  exact ns_raise0 T hc tk hg hdb
theorem ns_try_keepX (i j : Nat) (cs : List Str) (h : KeepX X.K X.mg x cs) (hs : X.stack = X.env :: X.outer) (hf : X.env.frame = some X.env.locals) (hN : X.N.Nodup) (hi : X.N[i]? = some n) (hln : X.env.kindOf n = some .local) (hj : X.N[j]? = some y) (hlj : Loc X.env.scope y) (hij : i ≠ j) (hex : X.ex = [])
    (hb : ∀ (W : WX) (pn : List (Addr × Obj)) (xe : Value → Shared → Prop), L2.Takes (X.tr pn xe) W → NSsx (X.tr pn xe) W body mb)
    (hg : Gl X x := by rfl) (hdb : (x == ("__debug__" : Str)) = false := by decide) (hv : Vis X.env.scope n := by first | exact Or.inl rfl | exact Or.inr (Or.inl rfl) | exact Or.inr (Or.inr rfl)) (hnd : (n == ("__debug__" : Str)) = false := by decide) (hnc : (n == ("__classdict__" : Str)) = false := by decide)
    (hsw : swapsWith (.Name n p2) (some (.Name y p1)) p3.line X.env = pure false := by rfl) (hfn : X.fn y = true ∨ X.env.scope.names.lookup y = some .local := by first | exact .inl rfl | exact .inr rfl) :
    NS X E (.Try body [.ExceptHandler (some (.Name x np)) (some n) [.Assign [.Name y p1] (.Name n p2) p3] pos'] [] [] pos) (sTry mb (hmKeep cs i j)) := by
  obtain ⟨R, gR, T⟩ := h
  exact ns_try_keep i j cs T gR hs hf hN hi hln hj hlj hij hex hb hg hdb hv hnd hnc hsw hfn
end
theorem keepX_one {K : PySem.W.Frag} {mg : Str → Option Value} {x c : Str} {R C0 : Addr} (gR : mg x = some (.ref R)) (hc : PySem.W.nsIn K mainGlobals c = some (some (.ref C0))) (gC : mg c = some (.ref C0)) (te : PySem.W.exmOne K (.ref C0) (.ref R) = some true) : KeepX K mg x [c] := by
  refine ⟨R, gR, fun c' hc' C hC => ?_⟩
  cases List.mem_singleton.mp hc'
  rw [gC] at hC
  cases hC
  exact ⟨hc, te⟩
end Nv

namespace Nv
open PySem PySem.Spec PyProof.Rows L2
/-! an own class without __init__, asked of within its suite: y = isinstance(n, x) and isinstance(n, ValueError) -/
def Is0X (K : PySem.W.Frag) (mg : Str → Option Value) (x rx : Str) : Prop :=
  ∃ C R : Addr, mg x = some (.ref C) ∧ ExcC K C ∧ mg rx = some (.ref R) ∧ PySem.W.exmOne K (.ref C) (.ref R) = some true ∧ PySem.W.kitOne K (.ref C) (.type "ValueError") = some true
def rIsEN (K : PySem.W.Frag) (C a : Addr) (cls : Value) (d : Option Addr) : List V → Hp → VK → Prop := fun xs H Q => ∃ (c : V) (cv : Value) (b : Bool), xs = [.ref a, c] ∧ cls = .ref C ∧ d = none ∧ (∀ u, RelV c u → u = cv) ∧ PySem.W.kitOne K (.ref C) cv = some b ∧ Q (.bl b) H
section
variable {X : Cx} {E : XK} {x y n rx : Str} {C : Addr} {i j : Nat} {body : List Stmt} {np p1 p2 p3 p4 p5 p6 p7 p8 p13 q1 q2 pos pos' : Pos} {mb : MS}
theorem call_isEN {a : Addr} {oe : Obj} {cls : Value} {d : Option Addr} {pn : List (Addr × Obj)} (T : ExcC X.K C) (hz : Zc cls d oe) (hf : ∃ vs, oe.data = .fields vs) : CallR (X.suite a ((a, oe) :: pn)) (.builtin "isinstance") (rIsEN X.K C a cls d) := by
  intro pins s σ H xs us Q I r h
  obtain ⟨c, cv, b, rfl, rfl, rfl, hcv, e, q⟩ := h
  exact call_isE T hz hf pins s σ H _ us Q I r ⟨c, cv, b, rfl, hcv, e, q⟩
def hmIs0 (x : Str) (i j : Nat) : Exn → MS := fun e sl C => if e.cls = x ∧ e.fld = none ∧ i < sl.length then .ok ((.nx, (sl.set j (some (.bl true))).set i none), C) else .no
theorem ns_try_is0X (i j : Nat) (h : Is0X X.K X.mg x rx) (hve : X.mg "ValueError" = none) (his : X.mg "isinstance" = none)
    (hs : X.stack = X.env :: X.outer) (hf : X.env.frame = some X.env.locals) (hN : X.N.Nodup) (hi : X.N[i]? = some n) (hln : X.env.kindOf n = some .local) (hj : X.N[j]? = some y) (hlj : Loc X.env.scope y) (hij : i ≠ j)
    (tk : L2.Takes X (fun cls d _ H => E cls d H)) (hb : ∀ (W : WX) (pn : List (Addr × Obj)) (xe : Value → Shared → Prop), L2.Takes (X.tr pn xe) W → NSsx (X.tr pn xe) W body mb)
    (hg : Gl X rx := by rfl) (hgx : Gl X x := by rfl) (hgv : Gl X "ValueError" := by rfl) (hgi : Gl X "isinstance" := by rfl) (hdb : (rx == ("__debug__" : Str)) = false := by decide) (hdx : (x == ("__debug__" : Str)) = false := by decide)
    (hv : Vis X.env.scope n := by first | exact Or.inl rfl | exact Or.inr (Or.inl rfl) | exact Or.inr (Or.inr rfl)) (hnd : (n == ("__debug__" : Str)) = false := by decide) (hnc : (n == ("__classdict__" : Str)) = false := by decide)
    (hsw : swapsWith (.BoolOp .And [.Call (.Name "isinstance" p1) [.Name n p2, .Name x p3] [] p4, .Call (.Name "isinstance" p5) [.Name n p6, .Name "ValueError" p7] [] p8] p13) (some (.Name y np)) pos.line X.env = pure false := by rfl)
    (hs1 : starEach [.Name n p2, .Name x p3] X.env = (false, eval (.Name n p2) X.env) :: starEach [.Name x p3] X.env := by rfl) (hs2 : starEach [.Name x p3] X.env = (false, eval (.Name x p3) X.env) :: starEach [] X.env := by rfl)
    (hs3 : starEach [.Name n p6, .Name "ValueError" p7] X.env = (false, eval (.Name n p6) X.env) :: starEach [.Name "ValueError" p7] X.env := by rfl) (hs4 : starEach [.Name "ValueError" p7] X.env = (false, eval (.Name "ValueError" p7) X.env) :: starEach [] X.env := by rfl)
    (hl1 : (backTo p4 (starEach [.Name x p3] X.env)).any (·.1) = false := by rfl) (hl2 : (backTo p8 (starEach [.Name "ValueError" p7] X.env)).any (·.1) = false := by rfl)
    (hfn : X.fn y = true ∨ X.env.scope.names.lookup y = some .local := by first | exact .inl rfl | exact .inr rfl) :
    NS X E (.Try body [.ExceptHandler (some (.Name rx q1)) (some n) [.Assign [.Name y np] (.BoolOp .And [.Call (.Name "isinstance" p1) [.Name n p2, .Name x p3] [] p4, .Call (.Name "isinstance" p5) [.Name n p6, .Name "ValueError" p7] [] p8] p13) pos] pos'] [] [] q2) (sTry mb (hmIs0 x i j)) := by
  obtain ⟨C, R, gC, TI, gR, te, tv⟩ := h
  refine ns_try_as (i := i) (c := .ref R) (ts := fun a cls d => tAsg (tAndV (tCB (rIsEN X.K C a cls d) (tCons (tVar i) (tCons (tC (.ref C)) tNil))) (tCB (rIsEN X.K C a cls d) (tCons (tVar i) (tCons (tC (.ty "ValueError")) tNil)))) (gName j)) hs hf hN hi hln ⟨hg, hdb, .inl gR⟩ tk hb (fun a oe cls d pn hz hfs => ?_) (fun De B F r H z C0 sl s a d hr hsl o' hh => ?_)
  · refine pss_one (ps_set hN hj hlj (pe_and (pe_callB (call_isEN TI hz hfs) hgi his PyProof.Rows.Boot.«isinstance» (pa_cons (pe_var hi hv hnd hnc) (pa_cons (pe_glob hgx gC rfl hdx) pa_nil (hs := hs2)) (hs := hs1)) (by decide) (by decide) hs1 hl1)
      (pe_one (pe_callB (call_isEN TI hz hfs) hgi his PyProof.Rows.Boot.«isinstance» (pa_cons (pe_var hi hv hnd hnc) (pa_cons (pe_bltn hgv hve PyProof.Rows.Boot.«ValueError» rfl) pa_nil (hs := hs4)) (hs := hs3)) (by decide) (by decide) hs3 hl2))) hsw hfn)
  · obtain ⟨ha, hfl⟩ := hh
    unfold hmIs0 at o'
    split at o'
    · rename_i hc
      obtain ⟨c1, c2, c3⟩ := hc
      rw [c1, gC] at ha
      cases ha
      rw [c2] at hfl
      have hfl : d = none := hfl
      subst hfl
      refine ⟨true, te, fun _ a' ha' => ?_, fun z => Bool.noConfusion z⟩
      have hlen : i < s.length := by rw [hsl.1]; exact c3
      have hget : (s.set i (some (V.ref a')))[i]? = some (some (.ref a')) := by rw [List.getElem?_set_self hlen]
      refine ⟨.ref a', hget, ?_⟩
      refine ⟨.ref C, .ref C, true, rfl, rfl, rfl, fun u hu => hu, by unfold PySem.W.kitOne; rw [if_pos (by simp)], true, rfl, ?_⟩
      dsimp only
      rw [if_pos rfl]
      refine ⟨.ref a', hget, ?_⟩
      refine ⟨.ty "ValueError", .type "ValueError", true, rfl, rfl, rfl, fun u hu => hu, tv, ?_⟩
      show De.nx (((s.set i (some (.ref a'))).set j (some (.bl true))).set i none) H
      rw [set_swap hij]
      have h1 : Sls X.K F r (sl.set j (some (.bl true))) (s.set j (some (.bl true))) := hsl.set (show Rep X.K F r (.bl true) (.bl true) from rfl) j
      exact OutS.next o' hr (Sls.wipe h1 [i])
    · exact False.elim o'
/-! except x: y = True, the error not named -/
def hmOnly (cs : List Str) (j : Nat) (b : Bool) : Exn → MS := fun e sl C => if e.cls ∈ cs then .ok ((.nx, sl.set j (some (.bl b))), C) else .no
theorem ns_try_onlyX (j : Nat) (cs : List Str) {b : Bool} {k : Nat} (h : KeepX X.K X.mg rx cs)
    (hs : X.stack = X.env :: X.outer) (hf : X.env.frame = some X.env.locals) (hN : X.N.Nodup) (hj : X.N[j]? = some y) (hlj : Loc X.env.scope y)
    (tk : L2.Takes X (fun cls d _ H => E cls d H)) (hb : ∀ (W : WX) (pn : List (Addr × Obj)) (xe : Value → Shared → Prop), L2.Takes (X.tr pn xe) W → NSsx (X.tr pn xe) W body mb)
    (hg : Gl X rx := by rfl) (hdb : (rx == ("__debug__" : Str)) = false := by decide)
    (hsw : swapsWith (.Constant (.bool b) k p1) (some (.Name y np)) pos.line X.env = pure false := by rfl)
    (hfn : X.fn y = true ∨ X.env.scope.names.lookup y = some .local := by first | exact .inl rfl | exact .inr rfl) :
    NS X E (.Try body [.ExceptHandler (some (.Name rx q1)) none [.Assign [.Name y np] (.Constant (.bool b) k p1) pos] pos'] [] [] q2) (sTry mb (hmOnly cs j b)) := by
  obtain ⟨R, gR, T⟩ := h
  refine ⟨ps_imp (L2.ps_try_only (c := .ref R) (tb := fun W => LSX X.K X.mg W mb) (ts := fun _ _ _ => tAsg (tC (.bl b)) (gName j)) hs hf ⟨hg, hdb, .inl gR⟩ tk (fun W pn xe h _ => (hb W pn xe h).ps) (fun a oe cls d pn hz hfs => pss_one (ps_set hN hj hlj pe_bl hsw hfn))) fun De s H q => ?_⟩
  obtain ⟨B, F, r, sl, C, hr, hsl, o⟩ := q
  refine ⟨B, F, r, sl, C, hr, hsl, ?_⟩
  unfold sTry at o
  cases hm0 : mb sl C with
  | ok p =>
    rw [hm0] at o
    exact o
  | no =>
    rw [hm0] at o
    exact o
  | ex e C' =>
    rw [hm0] at o
    have o : OutS X.K X.mg E B F r (hmOnly cs j b e sl C') De := o
    unfold hmOnly at o
    split at o
    · rename_i hc
      intro F' r' H' a k1 k2 k3 k4
      obtain ⟨hn, te⟩ := T _ hc a k4
      have main : ∀ d, wOnly X.K (.ref R) (fun _ _ _ => tAsg (tC (.bl b)) (gName j)) (fun cls d _ H => E cls d H) De (.ref a) d s H' := fun d => by
        refine ⟨true, te, fun _ a' ha' => ?_, fun z => Bool.noConfusion z⟩
        have h1 : Sls X.K F' r' (sl.set j (some (.bl b))) (s.set j (some (.bl b))) := (hsl.mono k1 k2).set (show Rep X.K F' r' (.bl b) (.bl b) from rfl) j
        exact OutS.next (OutS.mono o k1 k2) k3 h1
      cases hfl : e.fld with
      | none => exact main none
      | some p =>
        obtain ⟨f, dd⟩ := p
        intro dx v e1 e2
        exact main (some dx)
    · exact False.elim o
end
section
variable {sl : Sl} {C : Store} {QS : Fl → Sl → Store → Prop} {x : Str} {i j : Nat} {cs : List Str} {b : Bool}
theorem w_hmIs0 (hi : i < sl.length) (q : QS .nx ((sl.set j (some (.bl true))).set i none) C) : WS (hmIs0 x i j ⟨x, none⟩ sl C) QS := by
  unfold hmIs0
  rw [if_pos ⟨rfl, rfl, hi⟩]
  exact WS.ok q
theorem w_hmOnly {f : Option (Str × D)} (hc : x ∈ cs) (q : QS .nx (sl.set j (some (.bl b))) C) : WS (hmOnly cs j b ⟨x, f⟩ sl C) QS := by
  unfold hmOnly
  rw [if_pos hc]
  exact WS.ok q
end
end Nv

namespace Nv
open PySem PySem.Spec PyProof.Rows L2
/-! several classes of own errors at once; the field of a kept one -/
def ExT (K : PySem.W.Frag) (tb : List (Str × List Str)) : Prop := ∀ c as, tb.lookup c = some as → ∀ C : Addr, PySem.W.nsIn K mainGlobals c = some (some (.ref C)) → ExcC K C
def KitT (K : PySem.W.Frag) (tb : List (Str × List Str)) (t : Str) (cv : Value) : Prop := ∀ c as, tb.lookup c = some as → ∀ C : Addr, PySem.W.nsIn K mainGlobals c = some (some (.ref C)) → PySem.W.kitOne K (.ref C) cv = some (as.contains t)
def NoFld (K : PySem.W.Frag) (tb : List (Str × List Str)) (f : Str) : Prop := ∀ c as, tb.lookup c = some as → ∀ C : Addr, PySem.W.nsIn K mainGlobals c = some (some (.ref C)) → PySem.W.findIn K (.ref C) f = some none
theorem look_cons {c c0 : Str} {as as0 : List Str} {tb : List (Str × List Str)} (h : List.lookup c ((c0, as0) :: tb) = some as) : (c = c0 ∧ as = as0) ∨ tb.lookup c = some as := by
  by_cases e : c = c0
  · subst e
    simp [List.lookup] at h
    exact .inl ⟨rfl, h.symm⟩
  · have h2 : (c == c0) = false := by simpa using e
    simp only [List.lookup, h2] at h
    exact .inr h
section
variable {K : PySem.W.Frag} {mg : Str → Option Value} {tb : List (Str × List Str)} {c t f x : Str} {as : List Str} {C0 : Addr} {cv : Value} {cs : List Str} {R : Addr}
theorem exT_nil : ExT K [] := fun _ _ h => nomatch h
theorem exT_cons (hc : PySem.W.nsIn K mainGlobals c = some (some (.ref C0))) (T : ExcC K C0) (r : ExT K tb) : ExT K ((c, as) :: tb) := fun c' as' hl C hn => by
  rcases look_cons hl with ⟨rfl, rfl⟩ | h
  · rw [hc] at hn
    cases hn
    exact T
  · exact r _ _ h C hn
theorem kitT_nil : KitT K [] t cv := fun _ _ h => nomatch h
theorem kitT_cons (hc : PySem.W.nsIn K mainGlobals c = some (some (.ref C0))) (T : PySem.W.kitOne K (.ref C0) cv = some (as.contains t)) (r : KitT K tb t cv) : KitT K ((c, as) :: tb) t cv := fun c' as' hl C hn => by
  rcases look_cons hl with ⟨rfl, rfl⟩ | h
  · rw [hc] at hn
    cases hn
    exact T
  · exact r _ _ h C hn
theorem noF_nil : NoFld K [] f := fun _ _ h => nomatch h
theorem noF_cons (hc : PySem.W.nsIn K mainGlobals c = some (some (.ref C0))) (T : PySem.W.findIn K (.ref C0) f = some none) (r : NoFld K tb f) : NoFld K ((c, as) :: tb) f := fun c' as' hl C hn => by
  rcases look_cons hl with ⟨rfl, rfl⟩ | h
  · rw [hc] at hn
    cases hn
    exact T
  · exact r _ _ h C hn
def OwnK (K : PySem.W.Frag) (mg : Str → Option Value) (tb : List (Str × List Str)) (t : Str) : Prop :=
  ∃ (c : V) (cv : Value), KitT K tb t cv ∧ (∀ u, RelV c u → u = cv) ∧ RelV c cv ∧ (mg t = some cv ∨ (mg t = none ∧ bootBuiltins t = some cv ∧ t ≠ "__name__"))
theorem ownK_ref {T : Addr} (hm : mg t = some (.ref T)) (h : KitT K tb t (.ref T)) : OwnK K mg tb t := ⟨.ref T, .ref T, h, fun _ k => k, rfl, .inl hm⟩
theorem ownK_ty {n : String} (hm : mg t = none) (hb : bootBuiltins t = some (.type n)) (hn : t ≠ "__name__") (h : KitT K tb t (.type n)) : OwnK K mg tb t := ⟨.ty n, .type n, h, fun _ k => k, rfl, .inr ⟨hm, hb, hn⟩⟩
theorem ownX_of (hE : ExT K tb) (h : OwnK K mg tb t) : OwnX K mg tb t := by
  obtain ⟨c, cv, hk, h1, h2, h3⟩ := h
  exact ⟨c, cv, fun c' as hl C hn => ⟨hE c' as hl C hn, hk c' as hl C hn⟩, h1, h2, h3⟩
theorem keepF_nil : KeepF K mg [] R := fun _ h => nomatch h
theorem keepF_cons (hc : PySem.W.nsIn K mainGlobals c = some (some (.ref C0))) (gC : mg c = some (.ref C0)) (te : PySem.W.exmOne K (.ref C0) (.ref R) = some true) (r : KeepF K mg cs R) : KeepF K mg (c :: cs) R := fun c' hc' C hC => by
  rcases List.mem_cons.mp hc' with rfl | h
  · rw [gC] at hC
    cases hC
    exact ⟨hc, te⟩
  · exact r c' h C hC
theorem keepX_of (gR : mg x = some (.ref R)) (h : KeepF K mg cs R) : KeepX K mg x cs := ⟨R, gR, h⟩
end
/-- the field of a kept error -/
def tXh (K : PySem.W.Frag) (f : Str) (te : TE) : TE := fun σ H Q => te σ H fun x H1 => ∃ (a C dd : Addr) (fs : List (Str × V)) (v : V), x = .ref a ∧ H1 a = some (.ext (excφ a C (some dd))) ∧ ExcC K C ∧ PySem.W.findIn K (.ref C) f = some none ∧ H1 dd = some (.xd fs) ∧ fs.lookup f = some v ∧ Q v H1
def gXF (tb : List (Str × List Str)) (f : Str) (x : D) (C : Store) : RE := match x with
  | .exc c g [v] => match tb.lookup c with
    | some _ => if g = f then .ok (v, C) else .no
    | none => .no
  | _ => .no
section
variable {X : Cx} {E : XK} {e : Expr} {te : TE} {m : ME} {f : Str} {pos : Pos} {tb : List (Str × List Str)}
theorem pe_xh (he : PE X e te) (hb : attributeBase e f X.env (eval e X.env) = eval e X.env) : PE X (.Attribute e f pos) (tXh X.K f te) := by
  refine ⟨fun pins s σ H Q I h => ?_⟩
  refine attr_of hb (thn (he.run pins s σ H _ I h) fun u s1 hh => ?_)
  obtain ⟨x, H1, I1, rx, a, C, dd, fs, v, rfl, ha, T, hno, hdx, l, q⟩ := hh
  obtain rfl : u = Value.ref a := rx
  have hx : ObjOk X.prog X.w H1 s1.heap a (.ext (excφ a C (some dd))) := I1.hok a _ ha
  obtain ⟨⟨oe, q1, q2, q3, vs, q4⟩, _, _⟩ := hx
  have hy : ObjOk X.prog X.w H1 s1.heap dd (.xd fs) := I1.hok dd _ hdx
  obtain ⟨mA, hns, hr⟩ := hy
  obtain ⟨od, ho, hl⟩ := lookIn_ns hns
  obtain ⟨u, hu, ru⟩ := RelO.some_of (v := v) (o := mA f) (by rw [← l]; exact hr f)
  have J : PySem.W.InstAt s1.heap a oe C (some od) := ⟨q1, q2, by unfold PySem.W.notCls; rw [q4] <;> rfl, by rw [q3]; exact ho⟩
  exact HandSPX.exc_get I1.kIn J T.hg T.hk T.hs (PySem.W.findObj_own T.hd hno rfl (by rw [hl, hu])) (handed_of ru) ⟨v, H1, I1.tok _, ru, q⟩
theorem ne_excF (hE : ExT X.K tb) (hF : NoFld X.K tb f) (he : NE X E e m) (hb : attributeBase e f X.env (eval e X.env) = eval e X.env := by rfl) : NE X E (.Attribute e f pos) (m1 (gXF tb f) m) :=
  ⟨pe_imp (pe_xh he.pe hb) fun s H Q q => by
    obtain ⟨B, F, r, sl, C, hr, hs, o⟩ := q
    refine ⟨B, F, r, sl, C, hr, hs, Out.bind (P := Rep X.K) o fun x C1 F1 r1 H1 v e1 e2 hr1 hx o1 => ?_⟩
    simp only [gXF] at o1
    split at o1
    · rename_i c0 g v0
      obtain ⟨a, C0, us, rfl, hn, ⟨d, hFa, hd⟩, hu⟩ := hx
      split at o1
      · rename_i as hl
        split at o1
        · rename_i hg
          subst hg
          obtain ⟨w, us2, rfl, hw, h2⟩ := hu
          cases (show us2 = [] from h2)
          rcases hd with ⟨hd, _⟩ | ⟨u, dd, hd, rfl, hdd⟩
          · cases hd
          · cases hd
            exact ⟨a, C0, dd, _, w, rfl, hr1.froz a _ hFa, hE c0 as hl C0 hn, hF c0 as hl C0 hn, hr1.froz dd _ hdd, by simp [List.lookup], out_ok hr1 hw o1⟩
        · exact False.elim o1
      · exact False.elim o1
    · exact False.elim o1⟩
end
section
variable {C : Store} {QD : D → Store → Prop} {tb : List (Str × List Str)}
theorem w_excF {f c : Str} {v : D} {as : List Str} (hl : tb.lookup c = some as) (q : QD v C) : W (gXF tb f (.exc c f [v]) C) QD := by
  refine W.of (a := v) (C := C) ?_ q
  show (match tb.lookup c with
    | some _ => if f = f then R.ok (v, C) else .no
    | none => .no) = _
  rw [hl]
  simp
end
end Nv

namespace Nv
open PySem PySem.Spec PyProof.Rows L2
/-! defs that are called while an error is held: except R as n: y = f(n), return f(n) -/
abbrev RoomQ := L2H.RoomH
theorem roomQ {X : Cx} {a : Addr} {pn : List (Addr × Obj)} {j k : Nat} (r : L2.Room k X.A) (h : j ≤ k) : RoomQ j (X.suite a pn).A := ⟨by have := r.dp; show X.A.depth + 3 * j + 5 < recursionLimit; omega, by have := r.un; show X.A.units + 16 * j + 200 < cLine; omega⟩
theorem RoomQ.units {k : Nat} {A : Around} (r : RoomQ k A) : A.units + 64 < cLine := by have := r.un; omega
abbrev cxQ (P : Program) (w : World) (K : PySem.W.Frag) (mg : Str → Option Value) (base : Heap) (N : List Str) (qual : Str) (scope : Scope) (f : Addr) (cd : Value) (A : Around) (outer : List Env) (s : Shared) (H : Hp) (E : XK) : Cx :=
  { cxOf (L2.CX P w) P w K mg base N qual scope f cd A outer s H E with calm := false }
structure FnQ (P : Program) (w : World) (K : PySem.W.Frag) (mg : Str → Option Value) (base : Heap) (k : Nat) (f : Addr) (fd : FuncData) (ps : List Str) (sp : Sp) : Prop where
  len : ∀ vs H Q E, sp vs H Q E → vs.length = ps.length
  run : ∀ (A : Around) (outer : List Env) (s : Shared) (H : Hp) (args : Args) (us : List Value) (vs : List V) (Q : VK) (E : XK), RoomQ k A →
    Env0 P w K mg base A outer s H → BindsTo s fd args (ps.zip us) → Vals vs us → sp vs H Q E → codeAny (model P w) A (.call (.ref f) args) (CR (L2.CX P w) outer P w H s Q E) s
section
variable {P : Program} {w : World} {K : PySem.W.Frag} {mg : Str → Option Value} {base : Heap}
theorem inv_q {N ps : List Str} {qual : Str} {scope : Scope} {f : Addr} {cd : Value} {A : Around} {outer : List Env} {s s1 : Shared} {H : Hp} {E : XK} {us : List Value} {vs : List V}
    (S : FnScope N ps scope) (e0 : Env0 P w K mg base A outer s H) (hl : vs.length = ps.length) (r : Vals vs us)
    (x : InCallC s s.heap.objs.size (bindL (envOfC qual scope s.heap.objs.size f cd).kindOf (ps.zip us) fun _ => none) (cellsFrom (s.heap.objs.size + 1) scope.names []) (bindC (envOfC qual scope s.heap.objs.size f cd).kindOf (ps.zip us) fun _ => none) s1) :
    Inv (cxQ P w K mg base N qual scope f cd A outer s H E) [] (start N vs) H s1 := by
  have e1 : Env0 P w K mg base { A with handled := none } outer s H := ⟨e0.frames, e0.mod, e0.bs, e0.bsz, e0.funs, e0.frf, e0.hok, e0.bare⟩
  have I : Inv (cxOf (L2.CX P w) P w K mg base N qual scope f cd { A with handled := none } outer s H E) [] (start N vs) H s1 := inv_start S rfl e1 hl r x
  exact ⟨⟨I.ok.mod, I.ok.kind, I.ok.glob, I.ok.blt, I.ok.above, I.ok.inj, I.ok.has, I.ok.cab, (fun z => absurd (show false = true from z) Bool.false_ne_true), Around.frames_deeper e0.frames, I.ok.stk, I.ok.exf, I.ok.bs, I.ok.bsz, I.ok.noex, I.ok.exfs, I.ok.funs, I.ok.frf⟩,
    I.os, I.bare, I.base, I.loc, I.cell, I.free, I.freeC, I.pin, I.hok, I.len⟩
theorem fnQ_of {x qual : Str} {st : Stmt} {f : Addr} {fd : FuncData} {N ps : List Str} {k : Nat} {sp : Sp} (F : Fun K x qual st f fd) (S : FnScope N ps (defScope st)) (len : ∀ vs H Q E, sp vs H Q E → vs.length = ps.length)
    (hbody : ∀ (cdv : Value) (A : Around) (outer : List Env) (s : Shared) (H : Hp) (vs : List V) (Q : VK) (E : XK), RoomQ k (A.deeper (envOfC qual (defScope st) s.heap.objs.size f cdv)) → sp vs H Q E →
      ∃ t, PSs (cxQ P w K mg base N qual (defScope st) f cdv A outer s H E) (defBody st) t ∧ t { nx := fun _ H' => Q .non H', rt := Q } (start N vs) H) : FnQ P w K mg base (k + 1) f fd ps sp := by
  obtain ⟨oc, od, kV, doc, pm, an, cdv, ct, osl, rfl, lk, hcd⟩ := F.ex
  refine ⟨len, fun A outer s H args us vs Q E hr e0 hb r hsp => ?_⟩
  have hl := len _ _ _ _ hsp
  have there : K.In s.heap := e0.mod.kin.keeps fun b o e => (e0.bs b o e).1
  have lim : s.heap.NoLimit := e0.mod.nolimit.keeps fun b o e => (e0.bs b o e).1
  refine codeAny_call_function hr.depth (there _ _ lk) rfl S.co S.gen rfl (PySem.W.codeRec_of there hcd) (hb _ _ _ _ ?_)
  refine wpAny_newFunctionEnv_cells S.kind (fun ⟨n, v⟩ hy => ?_) fun env he s1 x => ?_
  · rcases S.par n (List.of_mem_zip hy).1 with q | q
    · exact .inl q
    · exact .inr ⟨q, PySem.W.cellsFrom_some _ _ _ (.inl q)⟩
  subst he
  refine ⟨lim.keeps x.toInCall.keep, codeAny_func ?_⟩
  obtain ⟨t, ht, hq⟩ := hbody cdv A outer s H vs Q E (hr.deeper _) hsp
  have I : Inv (cxQ P w K mg base N qual (defScope st) f cdv A outer s H E) [] (start N vs) H s1 := inv_q S e0 hl r x
  refine wpAny_mono (ht.run [] s1 (start N vs) H _ I hq) (fun fl s' hs => ?_) fun e s' hs => hs
  cases fl with
  | ret u =>
    obtain ⟨v, σ', H', J, rv, q⟩ := hs
    exact ⟨v, H', J.os, J.bare, J.base, J.hok, rv, q⟩
  | next =>
    obtain ⟨σ', H', J, q⟩ := hs
    exact ⟨.non, H', J.os, J.bare, J.base, J.hok, rfl, q⟩
  | brk => obtain ⟨_, _, _, q⟩ := hs; exact False.elim q
  | cont => obtain ⟨_, _, _, q⟩ := hs; exact False.elim q
theorem okDQ {x qual : Str} {st : Stmt} {f : Addr} {fd : FuncData} {N ps : List Str} {k : Nat} {u : MS} (F : Fun K x qual st f fd) (S : FnScope N ps (defScope st))
    (hb : ∀ (cdv : Value) (A : Around) (outer : List Env) (s : Shared) (H : Hp) (E : XK), RoomQ k (A.deeper (envOfC qual (defScope st) s.heap.objs.size f cdv)) →
      NSs (cxQ P w K mg base N qual (defScope st) f cdv A outer s H E) E (defBody st) u) : FnQ P w K mg base (k + 1) f fd ps (spN K mg ps.length (runD N.length u)) := by
  refine fnQ_of F S spN_len fun cdv A outer s H vs Q E hr h => ⟨_, (hb cdv A outer s H E hr).ps, ?_⟩
  obtain ⟨B, F, r, C, ds, hr, hd, hl, o⟩ := h
  refine ⟨B, F, r, _, C, hr, Sls.start hd, ?_⟩
  unfold runD at o
  cases hu : u (ds.map some ++ List.replicate (N.length - ds.length) none) C with
  | ok p =>
    obtain ⟨⟨fl, sl'⟩, C'⟩ := p
    rw [hu, R.bind_ok] at o
    intro F' r' H' e1 e2 hr'
    cases fl with
    | nx => exact fun s' _ => fin_ok (d := .non) hr e1 e2 hr' rfl o
    | rt d => exact fun v hv => fin_ok hr e1 e2 hr' hv o
    | bk => exact False.elim o
    | ct => exact False.elim o
  | ex y Cy => rw [hu] at o; exact o
  | no => rw [hu] at o; exact o
def CalQ (P : Program) (w : World) (K : PySem.W.Frag) (mg : Str → Option Value) (base : Heap) (x : Str) (k n : Nat) (mf : MF) : Prop :=
  ∃ f fd ps, FnQ P w K mg base k f fd ps (spN K mg n mf) ∧ mg x = some (.ref f) ∧ PySem.W.keepIn K (.ref f) = true ∧ L2.Binds K fd ps []
theorem CalQ.of {x : Str} {st : Stmt} {N ps : List Str} {k : Nat} {u : MS} (h : DefAt K mg x st ps) (S : FnScope N ps (defScope st))
    (hb : ∀ (f : Addr) (cdv : Value) (A : Around) (outer : List Env) (s : Shared) (H : Hp) (E : XK), RoomQ k (A.deeper (envOfC x (defScope st) s.heap.objs.size f cdv)) →
      NSs (cxQ P w K mg base N x (defScope st) f cdv A outer s H E) E (defBody st) u) : CalQ P w K mg base x (k + 1) ps.length (runD N.length u) := by
  obtain ⟨f, fd, h1, h2, h3⟩ := h
  exact ⟨f, fd, ps, okDQ h1 S fun cdv A outer s H E hr => hb f cdv A outer s H E hr, h2, h1.kp, h3⟩
end
section
variable {X : Cx} {E : XK} {e : Expr} {es : List Expr} {mas : MG (List D)} {pos p1 : Pos} {k n : Nat} {x : Str} {mf : MF}
theorem ne_calQ (h : CalQ X.prog X.w X.K X.mg X.base x k n mf) (hr : RoomQ k X.A) (hx : Passes (L2.CX X.prog X.w) X E) (ha : NA X E (e :: es) mas) (hg : Gl X x := by rfl)
    (hdb : (x == ("__debug__" : Str)) = false := by decide) (he : starEach (e :: es) X.env = (false, eval e X.env) :: starEach es X.env := by rfl) (hpl : (backTo pos (starEach es X.env)).any (·.1) = false := by rfl) : NE X E (.Call (.Name x p1) (e :: es) [] pos) (mF n mf mas) := by
  obtain ⟨f, fd, ps, F, hm, hk, hb⟩ := h
  refine ⟨⟨fun pins s σ H Q I q => ?_⟩⟩
  obtain ⟨B, F0, r, sl, C, hr0, hs, o⟩ := q
  refine wpAny_Call_Name_kw (ld_glob I hg hm ?_ hdb)
  refine PySem.W.callWith_K (h₀ := X.base) I.ok.mod.kin hk (thn (ha.pa.run pos pins s σ H (fun vs H1 => spN X.K X.mg n mf vs H1 Q E) I ⟨B, F0, r, sl, C, hr0, hs, Out.bind (P := Reps X.K) o fun xs C1 F1 r1 H1 vs e1 e2 hr1 hxs o1 => ?_⟩) fun us s1 z => ?_) he hpl
  · simp only at o1
    split at o1
    · rename_i hl
      exact ⟨B, F1, r1, C1, xs, hr1, hxs, hl, o1⟩
    · exact False.elim o1
  · obtain ⟨vs, H1, I1, rv, q1⟩ := z
    refine ⟨I1.kIn, ?_⟩
    have hl : (us ++ []).length = ps.length := by
      rw [List.append_nil, ← rv.length]
      exact F.len _ _ _ _ q1
    have hb1 := hb s1 us I1.kIn hl
    rw [List.append_nil] at hb1
    refine wpAny_call (codeAny_mono (F.run X.A X.stack s1 H1 ⟨us, []⟩ us vs Q E hr I1.env0 hb1 rv q1) fun rr s' hq => ?_)
    cases rr with
    | error z => exact hx pins σ H1 s1 z s' I1 hq
    | ok fl =>
      cases fl with
      | ret u => exact I1.after hq
      | next => exact False.elim hq
      | brk => exact False.elim hq
      | cont => exact False.elim hq
end
/-! the clause -/
def endsQ (i : Nat) (De : Ends) : Ends := { nx := fun σ H => De.nx (σ.set i none) H, rt := De.rt, bk := fun σ H => De.bk (σ.set i none) H, ct := fun σ H => De.ct (σ.set i none) H }
def wHot (K : PySem.W.Frag) (c : Value) (i : Nat) (ts : TS) (De : Ends) : WX := fun cls d σ H =>
  PySem.W.exmOne K cls c = some true ∧ ∃ C : Addr, cls = .ref C ∧ ∀ a, H a = none → ts (endsQ i De) (σ.set i (some (.ref a))) (upd H a (.ext (excφ a C d)))
section
variable {X : Cx} {pins : List (Addr × Obj)} {σ : L2.St} {H : Hp} {s : Shared}
theorem inv_drop {a : Addr} {p : Addr × Obj} {pn : List (Addr × Obj)} (I : Inv (X.suite a (p :: pn)) [] σ H s) (ok : X.Ok) : Inv (X.suite a pn) [] σ H s :=
  ⟨ok.suite _ _, I.os, I.bare, I.base, I.loc, I.cell, I.free, I.freeC, fun q hq => I.pin q (by rw [List.append_nil] at hq ⊢; exact List.mem_cons_of_mem _ hq), I.hok, I.len⟩
theorem inv_unq {a : Addr} (I : Inv (X.suite a (X.pn ++ pins)) [] σ H s) (ok : X.Ok) : Inv X pins σ H s :=
  ⟨ok, I.os, I.bare, I.base, I.loc, I.cell, I.free, I.freeC, fun q hq => I.pin q (by rw [List.append_nil]; exact hq), I.hok, I.len⟩
end
section
variable {X : Cx} {x n : Str} {c : Value} {i : Nat} {body suite : List Stmt} {b₀ : Stmt} {np pos pos' : Pos} {tb : WX → TS} {ts : TS}
theorem ps_hot (hs : X.stack = X.env :: X.outer) (hf : X.env.frame = some X.env.locals) (hN : X.N.Nodup) (hi : X.N[i]? = some n) (hln : X.env.kindOf n = some .local) (hc : Names X x c) (hex : X.ex = [])
    (hsu : ∀ (a : Addr) (pn : List (Addr × Obj)), PSs (X.suite a pn) (b₀ :: suite) ts)
    (hb : ∀ (W : WX) (pn : List (Addr × Obj)) (xe : Value → Shared → Prop), L2.Takes (X.tr pn xe) W → PassesOwn (model X.prog X.w) X.A X.env xe → PSs (X.tr pn xe) body (tb W)) :
    PS X (.Try body [.ExceptHandler (some (.Name x np)) (some n) (b₀ :: suite) pos'] [] [] pos) (fun De σ H => tb (wHot X.K c i ts De) De σ H) := by
  refine ⟨fun pins s σ H De I h => ?_⟩
  have okX := I.ok
  have frX : X.A.frames = some (X.env :: X.outer) := okX.frames.trans (by rw [hs])
  have locN : Loc X.env.scope n := .inl hln
  refine wpAny_Try_except (wpAny_mono ((hb (wHot X.K c i ts De) (X.pn ++ pins) (fun e t1 => wpAny (model X.prog X.w) X.A (noteFrame e X.env) (fun _ t2 => wpAny (model X.prog X.w) X.A (setFlight e none) (fun _ t3 =>
    wpAny (model X.prog X.w) X.A (handleBy e X.env [.ExceptHandler (some (.Name x np)) (some n) (b₀ :: suite) pos']) (SP X pins De) X.xe t3) X.xe t2) X.xe t1) (fun u s' xx => ?_) PassesOwn.looking).run [] s σ H De (I.toTry _) h) (fun f s1 hsp => ?_) fun e s1 he => he)
  · obtain ⟨a, B, sI, pins', σ', H', cls, d, rfl, J', nb, up, sky, na, os, ag, hb1, C, rfl, keepq⟩ := xx
    have J : Inv X pins σ' H' sI := J'.ofTry okX
    have skyX : Sky B (X.env :: X.outer) a (Zc (.ref C) d) X.env.locals s'.heap := hs ▸ sky
    show wpAny (model X.prog X.w) X.A (noteFrame (.ref a) X.env) _ _ _
    refine Sky.land Zc.steady frX hf skyX fun h3 fl3 up3 => ?_
    have J3 : Inv X pins σ' H' { s' with heap := h3 } := J.landed nb fl3.1 (up.trans up3) os ag
    obtain ⟨oe3, vs3, he3, hz3, hd3⟩ := fl3.there
    have offF : a ∉ frs (X.env :: X.outer) := fun hm => by
      obtain ⟨_, o', e', hnf⟩ := fl3.2.2.1.mem hm
      rw [he3] at e'
      cases e'
      exact hnf _ hd3
    have nL : a ≠ X.env.locals := fun z => offF (List.mem_filterMap.mpr ⟨X.env, List.mem_cons_self, by rw [hf, z]⟩)
    have nF : a ∉ X.fs := fun hm => by
      obtain ⟨e, he, q⟩ := List.mem_filterMap.mp hm
      exact offF (List.mem_filterMap.mpr ⟨e, List.mem_cons_of_mem _ he, q⟩)
    have offI : sI.heap.get? a = none := by
      cases e : sI.heap.get? a with
      | none => rfl
      | some o =>
        have q := nb a o e (by rw [hs]; exact offF)
        rw [fl3.2.1] at q
        cases q
    have S3 := J3.suite he3 hd3 na nL nF
    refine wpAny_handleBy_cons (codeAny_handlers_test ?_) (fun q => by cases q)
    have LT : PySem.W.Looks (model X.prog X.w) h3 (typeOf (.ref a)) (.ref C) := fun A Q E t k q => wpAny_typeOf_ref (k _ _ he3) (by rw [hz3.1]; exact q)
    have LM := PySem.W.exm_one (M := model X.prog X.w) (J3.kIn) LT hb1
    have asks : ∀ {Q : Value → Shared → Prop} {E : Value → Shared → Prop}, Q c { s' with heap := h3 } → wpAny (model X.prog X.w) (X.A.mark (some (.ref a))) (eval (.Name x np) X.env) Q E { s' with heap := h3 } := fun {Q E} q => by
      obtain ⟨g1, g2, g3 | ⟨g3, g4, g5⟩⟩ := hc
      · exact ld_glob (X := X.suite a ((a, oe3) :: (X.pn ++ pins))) S3 g1 g3 q g2
      · exact ld_blt (X := X.suite a ((a, oe3) :: (X.pn ++ pins))) S3 g1 g3 g4 q g5 g2
    refine asks (LM.here ?_)
    refine codeAny_handlers_suite_as ?_
    refine HandSPX.lands_againZ fl3 fun h4 fl4 up4 => ?_
    have J4 : Inv X pins σ' H' { s' with heap := h4 } := J.landed nb fl4.1 ((up.trans up3).trans up4) os ag
    obtain ⟨oe4, vs4, he4, hz4, hd4⟩ := fl4.there
    have S4 := J4.suite he4 hd4 na nL nF
    refine store_ok (X := X.suite a ((a, oe4) :: (X.pn ++ pins))) (v := .ref a) S4 hN hi locN rfl (fun s5 S5 => ?_) (.inr hln)
    have at5 : s5.heap.get? a = some oe4 := (S5.pin (a, oe4) (List.mem_append_left _ List.mem_cons_self)).1
    have T5 := inv_track (o := .ext (excφ a C d)) (inv_drop S5 okX) (by
        show X.s_0.heap.get? a = none
        cases e : X.s_0.heap.get? a with
        | none => rfl
        | some o =>
          have hx : a ∉ X.ex := by rw [hex]; exact List.not_mem_nil
          obtain ⟨o', q⟩ := J.base.there a o e hx
          rw [offI] at q
          cases q) na nL (fun x c e z => by
        obtain ⟨v, o, q, _⟩ := J.cell x c e
        rw [z, offI] at q
        cases q) (fun p hp z => by
        have hp : p ∈ X.pn ++ pins := by
          have hp : p ∈ (X.pn ++ pins) ++ [] := hp
          rwa [List.append_nil] at hp
        have q := (J.pin p hp).1
        rw [z, offI] at q
        cases q) (exc_told ⟨oe4, at5, hz4.1, hz4.2, vs4, hd4⟩)
    refine wpAny_mono ((hsu a (X.pn ++ pins)).run [] s5 _ _ (endsQ i De) T5 (keepq a na)) (fun f s6 hsp => ?_) (fun _ _ z => False.elim z)
    cases f with
    | next =>
      obtain ⟨σ6, H6, S6, q6⟩ := hsp
      exact gone_ok (inv_unq S6 okX) hN hi hln fun s7 J7 => ⟨_, _, J7, q6⟩
    | brk =>
      obtain ⟨σ6, H6, S6, q6⟩ := hsp
      exact gone_ok (inv_unq S6 okX) hN hi hln fun s7 J7 => ⟨_, _, J7, q6⟩
    | cont =>
      obtain ⟨σ6, H6, S6, q6⟩ := hsp
      exact gone_ok (inv_unq S6 okX) hN hi hln fun s7 J7 => ⟨_, _, J7, q6⟩
    | ret u =>
      obtain ⟨v6, σ6, H6, S6, r6, q6⟩ := hsp
      exact gone_ok (inv_unq S6 okX) hN hi hln fun s7 J7 => ⟨_, _, _, J7, r6, q6⟩
  · cases f with
    | next =>
      obtain ⟨σ1, H1, J1, q⟩ := hsp
      exact wpAny_execs_nil ⟨σ1, H1, J1.ofTry okX, q⟩
    | brk =>
      obtain ⟨σ1, H1, J1, q⟩ := hsp
      exact ⟨σ1, H1, J1.ofTry okX, q⟩
    | cont =>
      obtain ⟨σ1, H1, J1, q⟩ := hsp
      exact ⟨σ1, H1, J1.ofTry okX, q⟩
    | ret u =>
      obtain ⟨v, σ1, H1, J1, r, q⟩ := hsp
      exact ⟨v, σ1, H1, J1.ofTry okX, r, q⟩
end
abbrev XN : XK := fun _ _ _ => False
def hmHot (cs : List Str) (i : Nat) (u : MS) : Exn → MS := fun e sl C => if e.cls ∈ cs ∧ i < sl.length then match u (sl.set i (some (heldD e))) C with
  | .ok ((f, sl'), C') => .ok ((f, sl'.set i none), C')
  | _ => .no
  else .no
section
variable {X : Cx} {E : XK} {x n : Str} {R : Addr} {body suite : List Stmt} {b₀ : Stmt} {np pos pos' : Pos} {mb u : MS}
theorem pass_suite {a : Addr} {pn : List (Addr × Obj)} : Passes (L2.CX X.prog X.w) (X.suite a pn) XN := passes_call (X := X.suite a pn) takes_none5 fun _ _ _ _ h => h
theorem ns_try_hot (i : Nat) (cs : List Str) (h : KeepX X.K X.mg x cs) (hs : X.stack = X.env :: X.outer) (hf : X.env.frame = some X.env.locals) (hN : X.N.Nodup) (hi : X.N[i]? = some n) (hln : X.env.kindOf n = some .local) (hex : X.ex = [])
    (hb : ∀ (W : WX) (pn : List (Addr × Obj)) (xe : Value → Shared → Prop), L2.Takes (X.tr pn xe) W → NSsx (X.tr pn xe) W body mb) (hsu : ∀ (a : Addr) (pn : List (Addr × Obj)), NSs (X.suite a pn) XN (b₀ :: suite) u)
    (hg : Gl X x := by rfl) (hdb : (x == ("__debug__" : Str)) = false := by decide) :
    NS X E (.Try body [.ExceptHandler (some (.Name x np)) (some n) (b₀ :: suite) pos'] [] [] pos) (sTry mb (hmHot cs i u)) := by
  obtain ⟨R, gR, T⟩ := h
  refine ⟨ps_imp (ps_hot (c := .ref R) (tb := fun W => LSX X.K X.mg W mb) (ts := LS X.K X.mg XN u) hs hf hN hi hln ⟨hg, hdb, .inl gR⟩ hex (fun a pn => (hsu a pn).ps) (fun W pn xe h _ => (hb W pn xe h).ps)) fun De s H q => ?_⟩
  obtain ⟨B, F, r, sl, C, hr, hsl, o⟩ := q
  refine ⟨B, F, r, sl, C, hr, hsl, ?_⟩
  unfold sTry at o
  cases hm0 : mb sl C with
  | ok p =>
    rw [hm0] at o
    exact o
  | no =>
    rw [hm0] at o
    exact o
  | ex e C' =>
    rw [hm0] at o
    have o : OutS X.K X.mg E B F r (hmHot cs i u e sl C') De := o
    unfold hmHot at o
    split at o
    · rename_i hc
      obtain ⟨hc1, hc2⟩ := hc
      intro F' r' H' a k1 k2 k3 k4
      obtain ⟨hn, te⟩ := T _ hc1 a k4
      have main : ∀ d, HeldOk X.K X.mg F' r' H' e a d → wHot X.K (.ref R) i (LS X.K X.mg XN u) De (.ref a) d s H' := fun d hh => by
        refine ⟨te, a, rfl, fun a' ha' => ?_⟩
        have sF : Same F' (upd F' a' (.ext (excφ a' a d))) := same_new (k3.freeF ha')
        have h1 := Sls.set ((hsl.mono k1 k2).mono sF (.refl _)) (held_rep k3 hh hn ha') i
        refine ⟨B, _, r', _, C', k3.freeze ha', h1, ?_⟩
        cases hu : u (sl.set i (some (heldD e))) C' with
        | no =>
          rw [hu] at o
          exact False.elim o
        | ex z Cz =>
          rw [hu] at o
          exact False.elim o
        | ok p =>
          obtain ⟨⟨fl, sl'⟩, C2⟩ := p
          rw [hu] at o
          have o : OutS X.K X.mg E B F r (.ok ((fl, sl'.set i none), C2)) De := o
          intro F2 r2 H2 e1 e2 hr2
          have z := o F2 r2 H2 ((k1.trans sF).trans e1) (k2.trans e2) hr2
          cases fl with
          | nx => exact fun s2 hs2 => z _ (Sls.wipe hs2 [i])
          | rt d => exact fun v hv => z v hv
          | bk => exact fun s2 hs2 => z _ (Sls.wipe hs2 [i])
          | ct => exact fun s2 hs2 => z _ (Sls.wipe hs2 [i])
      cases hfl : e.fld with
      | none => exact main none ⟨k4, by rw [hfl]⟩
      | some p =>
        obtain ⟨f, dd⟩ := p
        intro dx v e1 e2
        exact main (some dx) ⟨k4, by rw [hfl]; exact ⟨dx, v, rfl, e1, e2⟩⟩
    · exact False.elim o
end
section
variable {sl : Sl} {C : Store} {QS : Fl → Sl → Store → Prop} {x : Str} {i : Nat} {cs : List Str} {u : MS} {e : Exn}
theorem w_hmHot (hc : e.cls ∈ cs) (hi : i < sl.length) (h : WS (u (sl.set i (some (heldD e))) C) fun f sl' C' => QS f (sl'.set i none) C') : WS (hmHot cs i u e sl C) QS := by
  obtain ⟨f, sl', C', e1, q⟩ := h
  refine ⟨f, sl'.set i none, C', ?_, q⟩
  unfold hmHot
  rw [if_pos ⟨hc, hi⟩, e1]
end
end Nv

namespace Nv
open PySem PySem.Spec PyProof.Rows L2
/-! the text of data in which an empty dict may lie -/
mutual
inductive DpE (K : PySem.W.Frag) (H : Hp) : V → PyData → Prop
  | non : DpE K H .non .none
  | bl (b : Bool) : DpE K H (.bl b) (.bool b)
  | int (i : Int) : DpE K H (.int i) (.int i)
  | str (x : Str) : DpE K H (.str x) (.str x)
  | lst {a : Addr} {xs : List V} {ds : List PyData} (h : SqL K H a xs) (hs : DpEs K H xs ds) : DpE K H (.ref a) (.list ds)
  | tup {a : Addr} {xs : List V} {ds : List PyData} (h : SqT K H a xs) (hs : DpEs K H xs ds) : DpE K H (.ref a) (.tuple ds)
  | dct {a : Addr} (h : Rd H a (.dK [])) : DpE K H (.ref a) (.dict [])
inductive DpEs (K : PySem.W.Frag) (H : Hp) : List V → List PyData → Prop
  | nil : DpEs K H [] []
  | cons {v : V} {vs : List V} {d : PyData} {ds : List PyData} (h : DpE K H v d) (t : DpEs K H vs ds) : DpEs K H (v :: vs) (d :: ds)
end
section
variable {X : Cx} {pins : List (Addr × Obj)} {σ : L2.St} {H : Hp} {s : Shared}
/-- an object of an empty dict -/
theorem dct_raw (I : Inv X pins σ H s) {a : Addr} (hd : Rd H a (.dK [])) : (a == sysModules) = false ∧ ∃ (o : Obj) (es : Array DictEntry) (n : Nat), s.heap.get? a = some o ∧ o.cls = .type "dict" ∧ o.data = .dict es n ∧ es.toList = [] := by
  obtain ⟨z, hne, vs, rel, o, es, ep, e1, e2, e3, e4, e5, e6⟩ := dk_rd I.hok hd
  cases rel
  have hl : es.toList = [] := by
    generalize es.toList = l at e5
    cases e5
    rfl
  exact ⟨hne, o, es, ep, e1, e2.1, e3, hl⟩
mutual
theorem DpE.reads (I : Inv X pins σ H s) : ∀ (d : PyData) (v : V) (u : Value), DpE X.K H v d → RelV v u → ∃ as, Reads s.heap u d as
  | .none, _, _, h, r => by
    cases h
    cases r
    exact ⟨_, .none⟩
  | .bool b, _, _, h, r => by
    cases h
    cases r
    exact ⟨_, .bool b⟩
  | .int i, _, _, h, r => by
    cases h
    obtain ⟨t, rfl⟩ := r
    exact ⟨_, .int i t⟩
  | .str x, _, _, h, r => by
    cases h
    obtain ⟨t, rfl⟩ := r
    exact ⟨_, .str x t⟩
  | .list ds, _, _, h, r => by
    cases h with
    | lst hs ha =>
      cases r
      obtain ⟨its, rv, ⟨o, n, ho, hc, _, hd⟩, _⟩ := I.list hs
      obtain ⟨as, hr⟩ := DpEs.reads I ds _ its ha rv
      exact ⟨_, .list ho hc hd hr⟩
  | .tuple ds, _, _, h, r => by
    cases h with
    | tup hs ha =>
      cases r
      obtain ⟨its, rv, ⟨o, ho, hc, n, hd⟩, _⟩ := I.tuple hs
      obtain ⟨as, hr⟩ := DpEs.reads I ds _ its ha rv
      exact ⟨_, .tuple ho hc hd hr⟩
  | .dict kvs, _, _, h, r => by
    cases h with
    | @dct a hd =>
      cases r
      obtain ⟨_, o, es, n, e1, e2, e3, e4⟩ := dct_raw I hd
      exact ⟨_, .dict (kvs := []) e1 e2 e3 (by rw [e4]; exact .nil) (by rw [e4]; exact .nil)⟩
theorem DpEs.reads (I : Inv X pins σ H s) : ∀ (ds : List PyData) (vs : List V) (us : List Value), DpEs X.K H vs ds → Vals vs us → ∃ as, ReadsAll s.heap us ds as
  | [], _, _, h, r => by
    cases h
    cases r
    exact ⟨_, .nil⟩
  | d :: ds, _, _, h, r => by
    cases h with
    | cons h1 h2 =>
      cases r with
      | cons r1 r2 =>
        obtain ⟨as, q1⟩ := DpE.reads I d _ _ h1 r1
        obtain ⟨bs, q2⟩ := DpEs.reads I ds _ _ h2 r2
        exact ⟨_, .cons q1 q2⟩
end
mutual
theorem DpE.rk (I : Inv X pins σ H s) : ∀ (d : PyData) (v : V) (u : Value), DpE X.K H v d → RelV v u → d.showable = true → d.shown.length ≤ sizeLine → ∃ bs, ReadAtMost s.heap d.depth bs ∧ ReprK X.prog X.w bs s.heap d.depth u d.shown
  | .none, _, _, h, r, _, _ => by
    cases h
    cases r
    exact ⟨[], (fun _ z => nomatch z), .of_is ReprIs.none _ _ _⟩
  | .bool b, _, _, h, r, _, _ => by
    cases h
    cases r
    exact ⟨[], (fun _ z => nomatch z), .of_is (ReprIs.bool b) _ _ _⟩
  | .int i, _, _, h, r, hs, _ => by
    cases h
    obtain ⟨t, rfl⟩ := r
    exact ⟨[], (fun _ z => nomatch z), .of_is (ReprIs.int t (of_decide_eq_true hs)) _ _ _⟩
  | .str x, _, _, h, r, _, hz => by
    cases h
    obtain ⟨t, rfl⟩ := r
    exact ⟨[], (fun _ z => nomatch z), .of_is (ReprIs.str x t hz) _ _ _⟩
  | .list ds, _, _, h, r, hs, hz => by
    cases h with
    | @lst a ys ds hq ha =>
      cases r
      obtain ⟨its, rv, ⟨o, n, ho, hc, _, hd⟩, _⟩ := I.list hq
      have hz' : (listText (PyData.shownAll ds)).length ≤ sizeLine := hz
      obtain ⟨as, hr⟩ := DpEs.reads I ds _ its ha rv
      obtain ⟨bs, hb, hk⟩ := DpEs.rk I ds _ its ha rv hs fun t ht => Nat.le_trans (listText_mem_le ht) hz'
      have rd : Reads s.heap (.ref a) (.list ds) _ := .list ho hc hd hr
      have hna : a ∉ bs := not_mem_of_deeper rd (Nat.lt_succ_self _) hb
      refine ⟨a :: bs, ReadAtMost.cons rd (Nat.le_succ _) hb, ?_⟩
      show ReprK X.prog X.w (a :: bs) s.heap (PyData.depthAll ds + 1) (.ref a) (listText (PyData.shownAll ds))
      cases its with
      | nil =>
        cases hr
        exact ReprK.listEmpty ho hc hd
      | cons x l => exact ReprK.list ho hc hd hna (by simpa using hk.length_eq) fun i y e => hk.item i y (by simpa using e)
  | .tuple ds, _, _, h, r, hs, hz => by
    cases h with
    | @tup a ys ds hq ha =>
      cases r
      obtain ⟨its, rv, ⟨o, ho, hc, n, hd⟩, _⟩ := I.tuple hq
      have hz' : (tupleText (PyData.shownAll ds)).length ≤ sizeLine := hz
      obtain ⟨as, hr⟩ := DpEs.reads I ds _ its ha rv
      obtain ⟨bs, hb, hk⟩ := DpEs.rk I ds _ its ha rv hs fun t ht => Nat.le_trans (tupleText_mem_le ht) hz'
      have rd : Reads s.heap (.ref a) (.tuple ds) _ := .tuple ho hc hd hr
      have hna : a ∉ bs := not_mem_of_deeper rd (Nat.lt_succ_self _) hb
      exact ⟨a :: bs, ReadAtMost.cons rd (Nat.le_succ _) hb, ReprK.tuple ho hc hd hna hk⟩
  | .dict kvs, _, _, h, r, hs, hz => by
    cases h with
    | @dct a hq =>
      cases r
      obtain ⟨hne, o, es, n, e1, e2, e3, e4⟩ := dct_raw I hq
      have rd : Reads s.heap (.ref a) (.dict []) _ := .dict (kvs := []) e1 e2 e3 (by rw [e4]; exact .nil) (by rw [e4]; exact .nil)
      exact ⟨[a], ReadAtMost.cons (bs := []) (n := 0) rd (Nat.zero_le _) (fun _ z => nomatch z), ReprK.dict e1 e2 e3 hne (fun z => nomatch z) (by rw [e4]; exact .nil)⟩
theorem DpEs.rk (I : Inv X pins σ H s) : ∀ (ds : List PyData) (vs : List V) (us : List Value), DpEs X.K H vs ds → Vals vs us → PyData.showableAll ds = true → (∀ t ∈ PyData.shownAll ds, t.length ≤ sizeLine) → ∃ bs, ReadAtMost s.heap (PyData.depthAll ds) bs ∧ ReprAllK X.prog X.w bs s.heap (PyData.depthAll ds) us (PyData.shownAll ds)
  | [], _, _, h, r, _, _ => by
    cases h
    cases r
    exact ⟨[], (fun _ z => nomatch z), .nil⟩
  | d :: ds, _, _, h, r, hs, hz => by
    cases h with
    | cons h1 h2 =>
      cases r with
      | cons r1 r2 =>
        have hs : (d.showable && PyData.showableAll ds) = true := hs
        rw [Bool.and_eq_true] at hs
        obtain ⟨b1, q1, k1⟩ := DpE.rk I d _ _ h1 r1 hs.1 (hz _ List.mem_cons_self)
        obtain ⟨b2, q2, k2⟩ := DpEs.rk I ds _ _ h2 r2 hs.2 fun t ht => hz t (List.mem_cons_of_mem _ ht)
        have m1 : d.depth ≤ PyData.depthAll (d :: ds) := Nat.le_max_left _ _
        have m2 : PyData.depthAll ds ≤ PyData.depthAll (d :: ds) := Nat.le_max_right _ _
        exact ⟨b1 ++ b2, (q1.mono m1).append (q2.mono m2), .cons ((k1.more fun b hb => List.mem_append_left _ hb).level_le m1) (k2.more_le (fun b hb => List.mem_append_right _ hb) m2)⟩
end
end
def rReprE (K : PySem.W.Frag) : List V → Hp → VK → Prop := fun xs H Q => ∃ x d, xs = [x] ∧ DpE K H x d ∧ d.showable = true ∧ d.depth ≤ 64 ∧ d.shown.length ≤ sizeLine ∧ Q (.str d.shown) H
section
variable {X : Cx}
theorem call_reprE {k : Nat} (hr : Room k X.A) (hgd : X.A.guards = some []) : CallR X (.builtin "repr") (rReprE X.K) := by
  intro pins s σ H xs us Q I rr h
  obtain ⟨x, d, rfl, hd, hs, hdp, hz, q⟩ := h
  obtain ⟨u, rfl, rx⟩ := vals1 rr
  have hu := hr.un
  cases hd with
  | non => cases rx; exact PySem.P.repr_of_none ⟨.str _, H, I.tok _, ⟨_, rfl⟩, q⟩
  | bl b => cases rx; exact PySem.P.repr_of_bool ⟨.str _, H, I.tok _, ⟨_, rfl⟩, q⟩
  | int i =>
    obtain ⟨t, rfl⟩ := rx
    exact PySem.P.repr_of_int (of_decide_eq_true hs) ⟨.str _, H, I.tok _, ⟨_, rfl⟩, q⟩
  | str y =>
    obtain ⟨t, rfl⟩ := rx
    exact PySem.P.repr_of_str ⟨.str _, H, I.tok _, ⟨_, rfl⟩, q⟩ hz
  | @lst a ys ds h1 h2 =>
    cases rx
    obtain ⟨its, rv, ⟨o, n, ho, hc, _, hdat⟩, _⟩ := I.list h1
    obtain ⟨as, hr2⟩ := DpEs.reads I ds _ its h2 rv
    have hz' : (listText (PyData.shownAll ds)).length ≤ sizeLine := hz
    have hdp : PyData.depthAll ds + 1 ≤ 64 := hdp
    obtain ⟨bs, hb, hk⟩ := DpEs.rk I ds _ its h2 rv hs fun t ht => Nat.le_trans (listText_mem_le ht) hz'
    have rd : Reads s.heap (.ref a) (.list ds) _ := .list ho hc hdat hr2
    have hna : a ∉ bs := not_mem_of_deeper rd (Nat.lt_succ_self _) hb
    refine call_repr_slot (by omega) ⟨o, ho, hc⟩ F.slot_list_repr.toG ?_
    cases its with
    | nil =>
      cases hr2
      exact call_list_repr_empty ⟨o, ho, hc⟩ ho hdat ⟨_, _, rfl, .str _, H, I.tok _, ⟨_, rfl⟩, q⟩
    | cons x l =>
      exact call_list_reprK ho hc hdat hna (by simpa using hk.length_eq) (fun i y e => hk.item i y (by simpa using e)) hgd (fun b _ => Clear.nil b) (by show X.A.units + 1 + _ < cLine; omega) (fun _ _ z => z) (fun h' u tk hk => ⟨_, _, rfl, .str _, H, I.kept hk, ⟨_, rfl⟩, q⟩) hz'
  | @tup a ys ds h1 h2 =>
    cases rx
    obtain ⟨its, rv, ⟨o, ho, hc, n, hdat⟩, _⟩ := I.tuple h1
    obtain ⟨as, hr2⟩ := DpEs.reads I ds _ its h2 rv
    have hz' : (tupleText (PyData.shownAll ds)).length ≤ sizeLine := hz
    have hdp : PyData.depthAll ds + 1 ≤ 64 := hdp
    obtain ⟨bs, hb, hk⟩ := DpEs.rk I ds _ its h2 rv hs fun t ht => Nat.le_trans (tupleText_mem_le ht) hz'
    have rd : Reads s.heap (.ref a) (.tuple ds) _ := .tuple ho hc hdat hr2
    have hna : a ∉ bs := not_mem_of_deeper rd (Nat.lt_succ_self _) hb
    refine call_repr_slot (by omega) ⟨o, ho, hc⟩ F.slot_tuple_repr ?_
    exact call_tuple_reprK ho hc hdat hna hk hgd (fun b _ => Clear.nil b) (by show X.A.units + 1 + _ < cLine; omega) (fun _ _ z => z) (fun h' u tk hk => ⟨_, _, rfl, .str _, H, I.kept hk, ⟨_, rfl⟩, q⟩) hz'
  | @dct a h1 =>
    cases rx
    obtain ⟨hne, o, es, n, e1, e2, e3, e4⟩ := dct_raw I h1
    refine call_repr_slot (by omega) ⟨o, e1, e2⟩ F.slot_dict_repr ?_
    exact call_dict_reprK (as := []) (d := 0) (ps := []) e1 e2 e3 hne (fun z => nomatch z) (by rw [e4]; exact .nil) hgd (fun b _ => Clear.nil b) (by show X.A.units + 1 + _ < cLine; omega) (fun _ _ z => z) (fun h' u tk hk => ⟨_, _, rfl, .str _, H, I.kept hk, ⟨_, rfl⟩, q⟩) hz
end
mutual
def toPE0 : D → Option PyData
  | .non => some .none
  | .bl b => some (.bool b)
  | .int i => some (.int i)
  | .str x => some (.str x)
  | .lst ds => (toPEs0 ds).map .list
  | .tup ds => (toPEs0 ds).map .tuple
  | .cell _ => none
  | .edct => some (.dict [])
  | .exc _ _ _ => none
  | .fn _ => none
def toPEs0 : List D → Option (List PyData)
  | [] => some []
  | d :: ds => (toPE0 d).bind fun p => (toPEs0 ds).map (p :: ·)
end
mutual
def toPE (C : Store) : D → Option PyData
  | .non => some .none
  | .bl b => some (.bool b)
  | .int i => some (.int i)
  | .str x => some (.str x)
  | .lst ds => (toPEs C ds).map .list
  | .tup ds => (toPEs C ds).map .tuple
  | .cell i => (lstAt C i).bind fun ds => (toPEs0 ds).map .list
  | .edct => some (.dict [])
  | .exc _ _ _ => none
  | .fn _ => none
def toPEs (C : Store) : List D → Option (List PyData)
  | [] => some []
  | d :: ds => (toPE C d).bind fun p => (toPEs C ds).map (p :: ·)
end
section
variable {K : PySem.W.Frag} {mg : Str → Option Value} {E : XK} {B F H : Hp} {r : List Addr} {C : Store}
theorem bind_map_some {A B : Type} {o : Option A} {q : Option (List B)} {f : A → B} {ps : List B} (h : (o.bind fun p => q.map (f p :: ·)) = some ps) : ∃ p l, o = some p ∧ q = some l ∧ ps = f p :: l := by
  cases o with
  | none => cases h
  | some p =>
    obtain ⟨l, e1, e2⟩ := map_some (show q.map (f p :: ·) = some ps from h)
    exact ⟨p, l, rfl, e1, e2.symm⟩
mutual
theorem toPE0_ok (hr : Rel K B F r H C) : ∀ {d : D} {v : V} {p : PyData}, Rep K F r d v → toPE0 d = some p → DpE K H v p
  | .non, _, _, h, e => by rw [show _ = V.non from h, ← Option.some.inj e]; exact .non
  | .bl b, _, _, h, e => by rw [show _ = V.bl b from h, ← Option.some.inj e]; exact .bl b
  | .int b, _, _, h, e => by rw [show _ = V.int b from h, ← Option.some.inj e]; exact .int b
  | .str b, _, _, h, e => by rw [show _ = V.str b from h, ← Option.some.inj e]; exact .str b
  | .lst ds, _, _, h, e => by
    obtain ⟨a, vs, rfl, h1, h2⟩ := h
    obtain ⟨ps, e1, e2⟩ := map_some (show (toPEs0 ds).map PyData.list = some _ from e)
    subst e2
    exact .lst (Same.seq hr.froz h1) (toPEs0_ok hr h2 e1)
  | .tup ds, _, _, h, e => by
    obtain ⟨a, vs, rfl, h1, h2⟩ := h
    obtain ⟨ps, e1, e2⟩ := map_some (show (toPEs0 ds).map PyData.tuple = some _ from e)
    subst e2
    exact .tup (Same.tup hr.froz h1) (toPEs0_ok hr h2 e1)
  | .cell i, _, _, h, e => nomatch (show (none : Option PyData) = some _ from e)
  | .edct, _, _, h, e => by
    obtain ⟨a, rfl, h1⟩ := h
    rw [← Option.some.inj e]
    exact .dct (.inl (hr.froz a _ h1))
  | .exc _ _ _, _, _, h, e => nomatch (show (none : Option PyData) = some _ from e)
  | .fn _, _, _, h, e => nomatch (show (none : Option PyData) = some _ from e)
theorem toPEs0_ok (hr : Rel K B F r H C) : ∀ {ds : List D} {vs : List V} {ps : List PyData}, Reps K F r ds vs → toPEs0 ds = some ps → DpEs K H vs ps
  | [], _, _, h, e => by rw [show _ = [] from h, ← Option.some.inj e]; exact .nil
  | d :: ds, _, _, h, e => by
    obtain ⟨v, w, rfl, h1, h2⟩ := h
    obtain ⟨p, ps, e1, e2, rfl⟩ := bind_map_some (f := id) (show ((toPE0 d).bind fun p => (toPEs0 ds).map (p :: ·)) = some _ from e)
    exact .cons (toPE0_ok hr h1 e1) (toPEs0_ok hr h2 e2)
end
mutual
theorem toPE_ok (hr : Rel K B F r H C) : ∀ {d : D} {v : V} {p : PyData}, Rep K F r d v → toPE C d = some p → DpE K H v p
  | .non, _, _, h, e => by rw [show _ = V.non from h, ← Option.some.inj e]; exact .non
  | .bl b, _, _, h, e => by rw [show _ = V.bl b from h, ← Option.some.inj e]; exact .bl b
  | .int b, _, _, h, e => by rw [show _ = V.int b from h, ← Option.some.inj e]; exact .int b
  | .str b, _, _, h, e => by rw [show _ = V.str b from h, ← Option.some.inj e]; exact .str b
  | .lst ds, _, _, h, e => by
    obtain ⟨a, vs, rfl, h1, h2⟩ := h
    obtain ⟨ps, e1, e2⟩ := map_some (show (toPEs C ds).map PyData.list = some _ from e)
    subst e2
    exact .lst (Same.seq hr.froz h1) (toPEs_ok hr h2 e1)
  | .tup ds, _, _, h, e => by
    obtain ⟨a, vs, rfl, h1, h2⟩ := h
    obtain ⟨ps, e1, e2⟩ := map_some (show (toPEs C ds).map PyData.tuple = some _ from e)
    subst e2
    exact .tup (Same.tup hr.froz h1) (toPEs_ok hr h2 e1)
  | .cell i, _, _, h, e => by
    have e : (lstAt C i).bind (fun ds => (toPEs0 ds).map PyData.list) = some _ := e
    cases q : lstAt C i with
    | none => rw [q] at e; cases e
    | some ds =>
      rw [q] at e
      obtain ⟨ps, e1, e2⟩ := map_some (show (toPEs0 ds).map PyData.list = some _ from e)
      subst e2
      obtain ⟨a, vs, rfl, _, h3, h4⟩ := lstAt_ok hr h q
      exact .lst h3 (toPEs0_ok hr h4 e1)
  | .edct, _, _, h, e => by
    obtain ⟨a, rfl, h1⟩ := h
    rw [← Option.some.inj e]
    exact .dct (.inl (hr.froz a _ h1))
  | .exc _ _ _, _, _, h, e => nomatch (show (none : Option PyData) = some _ from e)
  | .fn _, _, _, h, e => nomatch (show (none : Option PyData) = some _ from e)
theorem toPEs_ok (hr : Rel K B F r H C) : ∀ {ds : List D} {vs : List V} {ps : List PyData}, Reps K F r ds vs → toPEs C ds = some ps → DpEs K H vs ps
  | [], _, _, h, e => by rw [show _ = [] from h, ← Option.some.inj e]; exact .nil
  | d :: ds, _, _, h, e => by
    obtain ⟨v, w, rfl, h1, h2⟩ := h
    obtain ⟨p, ps, e1, e2, rfl⟩ := bind_map_some (f := id) (show ((toPE C d).bind fun p => (toPEs C ds).map (p :: ·)) = some _ from e)
    exact .cons (toPE_ok hr h1 e1) (toPEs_ok hr h2 e2)
end
def gReprE (x : D) (C : Store) : RE := match toPE C x with
  | some p => if p.showable = true ∧ p.depth ≤ 64 ∧ p.shown.length ≤ sizeLine then .ok (.str p.shown, C) else .no
  | none => .no
theorem reprEN : CallN K mg E (rReprE K) (on1 gReprE) := on1N fun B F r H C x v Q hr hx o => by
  unfold gReprE at o
  split at o
  · rename_i p e
    split at o
    · rename_i h
      exact ⟨v, p, rfl, toPE_ok hr hx e, h.1, h.2.1, h.2.2, out_ok (d := .str p.shown) hr rfl o⟩
    · exact False.elim o
  · exact False.elim o
end
/-! what can be shown, whatever the store is; w: its weight, n: its depth -/
structure ShE (x : D) (w n : Nat) (p : PyData) : Prop where
  to : ∀ C, toPE C x = some p
  sh : p.showable = true
  lf : p.leavesShort 33 = true
  de : p.depth ≤ n
  we : p.weight ≤ w
def Sho (x : D) (w n : Nat) : Prop := ∃ p, ShE x w n p
section
variable {C : Store} {QD : D → Store → Prop} {x : D} {w n : Nat} {p : PyData}
theorem w_shE (h : ShE x w n p) (hw : w ≤ 400000) (hd : n ≤ 64) (q : QD (.str p.shown) C) : W (on1 gReprE [x] C) QD := by
  refine W.of (a := .str p.shown) (C := C) ?_ q
  show gReprE x C = _
  unfold gReprE
  simp only [h.to C]
  have h3 := PyData.shown_le 33 (by decide) p h.lf
  have h4 : (33 + 2) * p.weight ≤ 35 * 400000 := Nat.mul_le_mul (by decide) (Nat.le_trans h.we hw)
  rw [if_pos ⟨h.sh, Nat.le_trans h.de hd, by rw [sizeLine_eq]; omega⟩]
theorem Sho.mono {w' n' : Nat} (h : Sho x w n) (hw : w ≤ w') (hn : n ≤ n') : Sho x w' n' := by
  obtain ⟨p, h⟩ := h
  exact ⟨p, h.to, h.sh, h.lf, Nat.le_trans h.de hn, Nat.le_trans h.we hw⟩
theorem Sho.non : Sho .non 0 0 := ⟨.none, fun _ => rfl, rfl, rfl, Nat.le_refl _, Nat.le_refl _⟩
theorem Sho.bl (b : Bool) : Sho (.bl b) 0 0 := ⟨.bool b, fun _ => rfl, rfl, rfl, Nat.le_refl _, Nat.le_refl _⟩
theorem Sho.edct : Sho .edct 0 1 := ⟨.dict [], fun _ => rfl, rfl, rfl, by decide, Nat.le_refl _⟩
theorem Sho.int {i : Int} (h : i.natAbs < 10 ^ 32) : Sho (.int i) 108 0 := by
  have hl : i.natAbs.log2 < 107 := by
    by_cases h0 : i.natAbs = 0
    · rw [h0]; decide
    · rw [Nat.log2_lt h0]
      exact Nat.lt_trans h (by decide)
  refine ⟨.int i, fun _ => rfl, ?_, ?_, Nat.le_refl _, ?_⟩
  · show decide (i.natAbs.log2 < 1920) = true
    exact decide_eq_true (by omega)
  · show decide ((PyData.shown (.int i)).length ≤ 33) = true
    refine decide_eq_true ?_
    have e := int_text_length_le10 (k := 32) (by decide) h
    show (Str.ofString (toString i)).length ≤ 33
    rw [PySem.ofString_length]
    exact e
  · show (if i == 0 then 0 else i.natAbs.log2 + 1) ≤ 108
    split <;> omega
theorem Sho.str {y : Str} (h : y.cps.size ≤ 100 := by decide +kernel) (hc : (y.cps.toList.all fun c => decide (c < 16 ^ 8)) = true := by decide +kernel) : Sho (.str y) 100 0 := ⟨.str y, fun _ => rfl, rfl, hc, Nat.le_refl _, h⟩
theorem sho_all : ∀ {xs : List D}, (∀ x ∈ xs, Sho x w n) → ∃ ps, (∀ C, toPEs C xs = some ps) ∧ PyData.showableAll ps = true ∧ PyData.leavesShortAll 33 ps = true ∧ PyData.depthAll ps ≤ n ∧ PyData.weightAll ps ≤ (w + 1) * xs.length
  | [], _ => ⟨[], fun _ => rfl, rfl, rfl, Nat.zero_le _, Nat.zero_le _⟩
  | x :: xs, h => by
    obtain ⟨p, hp⟩ := h x List.mem_cons_self
    obtain ⟨ps, h1, h2, h3, h4, h5⟩ := sho_all fun y hy => h y (List.mem_cons_of_mem x hy)
    refine ⟨p :: ps, fun C => ?_, ?_, ?_, ?_, ?_⟩
    · show (toPE C x).bind (fun p => (toPEs C xs).map (p :: ·)) = _
      rw [hp.to C, h1 C]
      rfl
    · show (p.showable && PyData.showableAll ps) = true
      rw [hp.sh, h2]
      rfl
    · show (p.leavesShort 33 && PyData.leavesShortAll 33 ps) = true
      rw [hp.lf, h3]
      rfl
    · exact Nat.max_le.mpr ⟨hp.de, h4⟩
    · show p.weight + 1 + PyData.weightAll ps ≤ (w + 1) * (xs.length + 1)
      have := hp.we
      rw [Nat.mul_succ]
      omega
theorem Sho.lst {xs : List D} (h : ∀ x ∈ xs, Sho x w n) : Sho (.lst xs) ((w + 1) * xs.length) (n + 1) := by
  obtain ⟨ps, h1, h2, h3, h4, h5⟩ := sho_all h
  exact ⟨.list ps, fun C => by show (toPEs C xs).map PyData.list = _; rw [h1]; rfl, h2, h3, Nat.succ_le_succ h4, h5⟩
theorem Sho.tup {xs : List D} (h : ∀ x ∈ xs, Sho x w n) : Sho (.tup xs) ((w + 1) * xs.length) (n + 1) := by
  obtain ⟨ps, h1, h2, h3, h4, h5⟩ := sho_all h
  exact ⟨.tuple ps, fun C => by show (toPEs C xs).map PyData.tuple = _; rw [h1]; rfl, h2, h3, Nat.succ_le_succ h4, h5⟩
end
end Nv

namespace Nv
open PySem PySem.Spec PyProof.Rows L2
/-! texts: 'a'.join(list of texts), f-strings -/
def strsJ : List D → Option (List Str)
  | [] => some []
  | .str x :: ds => (strsJ ds).map (x :: ·)
  | _ :: _ => none
theorem strsJ_map : ∀ l : List Str, strsJ (l.map D.str) = some l
  | [] => rfl
  | x :: l => by
    show (strsJ (l.map D.str)).map (x :: ·) = _
    rw [strsJ_map l]
    rfl
theorem strsJ_ok {K : PySem.W.Frag} {F : Hp} {r : List Addr} : ∀ {ds : List D} {vs : List V} {ys : List Str}, Reps K F r ds vs → strsJ ds = some ys → vs = ys.map V.str
  | [], vs, _, h, e => by
    cases e
    exact h
  | d :: ds, vs, ys, h, e => by
    obtain ⟨v, w, rfl, h1, h2⟩ := h
    cases d with
    | str x =>
      obtain ⟨l, e1, e2⟩ := map_some (show (strsJ ds).map (x :: ·) = some ys from e)
      subst e2
      rw [strsJ_ok h2 e1, show v = V.str x from h1]
      rfl
    | _ => cases e
def mJoin (mo me : ME) : ME := fun sl C => (mo sl C).bind fun p => match p.1 with
  | .str a => (me sl p.2).bind fun q => match (lstOf q.2 q.1).bind strsJ with
    | some ys => if (ys.map (·.length)).sum + ys.length * a.length ≤ 16777216 then .ok (.str (Txt.join a ys), q.2) else .no
    | none => .no
  | _ => .no
section
variable {X : Cx} {E : XK} {o e : Expr} {mo me m : ME} {es : List Expr} {ms : List ME} {apos pos : Pos}
theorem ne_join (ho : NE X E o mo) (he : NE X E e me) (hs : starEach [e] X.env = [(false, eval e X.env)] := by rfl) (hb : attributeBase o "join" X.env (eval o X.env) = eval o X.env := by rfl) (hl : (apos.endLine == pos.line) = true := by rfl) :
    NE X E (.Call (.Attribute o "join" apos) [e] [] pos) (mJoin mo me) :=
  ⟨pe_imp (pe_join ho.pe he.pe hs hb hl) fun s H Q q => by
    obtain ⟨B, F, r, sl, C, hr, hs, o⟩ := q
    refine ⟨B, F, r, sl, C, hr, hs, Out.bind (P := Rep X.K) o fun x C1 F1 r1 H1 v e1 e2 hr1 hx o1 => ?_⟩
    cases x with
    | str a =>
      refine ⟨⟨a, hx⟩, B, F1, r1, sl, C1, hr1, hs.mono e1 e2, Out.bind (P := Rep X.K) o1 fun y C2 F2 r2 H2 u e3 e4 hr2 hy o2 => ?_⟩
      simp only at o2
      cases g : lstOf C2 y with
      | none => rw [g] at o2; exact False.elim o2
      | some ds =>
        rw [g, Option.bind_some] at o2
        split at o2
        · rename_i ys ey
          split at o2
          · rename_i hz
            obtain ⟨p, vs, rfl, h1, h2⟩ := lstOf_ok hr2 hy g
            have h3 := strsJ_ok h2 ey
            subst h3
            exact ⟨a, p, ys, hx, rfl, .inl h1, hz, out_ok (d := .str (Txt.join a ys)) hr2 rfl o2⟩
          · exact False.elim o2
        · exact False.elim o2
    | _ => exact False.elim o1⟩
/-- {x}: a text, an int -/
def mFmt (m : ME) : ME := fun sl C => (m sl C).bind fun p => match p.1 with
  | .str y => if y.length ≤ sizeLine then .ok (.str y, p.2) else .no
  | .int i => if i.natAbs < 10 ^ 400 then .ok (.str (toString i), p.2) else .no
  | _ => .no
theorem ne_fmt (he : NE X E e m) : NE X E (.FormattedValue e (-1) none pos) (mFmt m) :=
  ⟨pe_imp (pe_fmt he.pe) fun s H Q q => by
    obtain ⟨B, F, r, sl, C, hr, hs, o⟩ := q
    refine ⟨B, F, r, sl, C, hr, hs, Out.bind (P := Rep X.K) o fun x C1 F1 r1 H1 v e1 e2 hr1 hx o1 => ?_⟩
    cases x with
    | str y =>
      have o1 : Out (Rep X.K) X.K X.mg E B F1 r1 (if y.length ≤ sizeLine then .ok (.str y, C1) else .no) Q := o1
      split at o1
      · rename_i hz
        exact .inl ⟨y, hx, hz, out_ok (d := .str y) hr1 rfl o1⟩
      · exact False.elim o1
    | int i =>
      have o1 : Out (Rep X.K) X.K X.mg E B F1 r1 (if i.natAbs < 10 ^ 400 then .ok (.str (toString i), C1) else .no) Q := o1
      split at o1
      · rename_i hz
        refine .inr ⟨i, hx, ?_, out_ok (d := .str (toString i)) hr1 rfl o1⟩
        by_cases h0 : i.natAbs = 0
        · rw [h0]; decide
        · rw [Nat.log2_lt h0]
          exact Nat.lt_of_lt_of_le hz (by decide +kernel)
      · exact False.elim o1
    | _ => exact False.elim o1⟩
def mJs : List ME → Str → ME
  | [], acc => fun _ C => .ok (.str acc, C)
  | m :: ms, acc => fun sl C => (m sl C).bind fun p => match p.1 with
    | .str y => if (acc ++ y).length ≤ sizeLine then mJs ms (acc ++ y) sl p.2 else .no
    | _ => .no
inductive NJ (X : Cx) (E : XK) : List Expr → List ME → Prop
  | nil : NJ X E [] []
  | cons {e : Expr} {m : ME} {es : List Expr} {ms : List ME} (h : NE X E e m) (t : NJ X E es ms) : NJ X E (e :: es) (m :: ms)
theorem NJ.pj (h : NJ X E es ms) : PJ X es (ms.map (LG (Rep X.K) X.K X.mg E)) := by
  induction h with
  | nil => exact .nil
  | cons h t ih => exact .cons h.pe ih
theorem js_ok : ∀ (ms : List ME) (acc : Str) (s : L2.St) (H : Hp) (Q : VK), LG (Rep X.K) X.K X.mg E (mJs ms acc) s H Q → tJs (ms.map (LG (Rep X.K) X.K X.mg E)) acc s H fun out H1 => Q (.str out) H1
  | [], acc, s, H, Q, q => by
    obtain ⟨B, F, r, sl, C, hr, hs, o⟩ := q
    exact out_ok (d := .str acc) hr rfl o
  | m :: ms, acc, s, H, Q, q => by
    obtain ⟨B, F, r, sl, C, hr, hs, o⟩ := q
    refine ⟨B, F, r, sl, C, hr, hs, Out.bind (P := Rep X.K) o fun x C1 F1 r1 H1 v e1 e2 hr1 hx o1 => ?_⟩
    cases x with
    | str y =>
      have o1 : Out (Rep X.K) X.K X.mg E B F1 r1 (if (acc ++ y).length ≤ sizeLine then mJs ms (acc ++ y) sl C1 else .no) Q := o1
      split at o1
      · rename_i hz
        exact ⟨y, hx, hz, js_ok ms (acc ++ y) s H1 Q ⟨B, F1, r1, sl, C1, hr1, hs.mono e1 e2, o1⟩⟩
      · exact False.elim o1
    | _ => exact False.elim o1
theorem ne_joined {v1 v2 : Expr} (h : NJ X E (v1 :: v2 :: es) ms) : NE X E (.JoinedStr (v1 :: v2 :: es) pos) (mJs ms Str.empty) := ⟨pe_imp (pe_joined h.pj) fun s H Q q => js_ok ms Str.empty s H Q q⟩
end
section
variable {C : Store} {sl : Sl} {QD : D → Store → Prop} {mo me m : ME} {ms : List ME} {acc : Str}
theorem w_join (h : W (mo sl C) fun x C1 => ∃ a, x = .str a ∧ W (me sl C1) fun y C2 => ∃ ys : List Str, lstOf C2 y = some (ys.map D.str) ∧ (ys.map (·.length)).sum + ys.length * a.length ≤ 16777216 ∧ QD (.str (Txt.join a ys)) C2) : W (mJoin mo me sl C) QD := W.bind (h.imp fun x C1 h => by
  obtain ⟨a, rfl, h⟩ := h
  refine W.bind (W.imp h fun y C2 h => ?_)
  obtain ⟨ys, e, hz, q⟩ := h
  simp only [e, Option.bind_some, strsJ_map, if_pos hz]
  exact W.ok q)
theorem w_fmtS {y : Str} (h : W (m sl C) fun x C1 => x = .str y ∧ y.length ≤ sizeLine ∧ QD (.str y) C1) : W (mFmt m sl C) QD := W.bind (h.imp fun x C1 h => by
  obtain ⟨rfl, hz, q⟩ := h
  simp only [if_pos hz]
  exact W.ok q)
theorem w_jsNil (q : QD (.str acc) C) : W (mJs [] acc sl C) QD := W.ok q
theorem w_jsCons (h : W (m sl C) fun x C1 => ∃ y, x = .str y ∧ (acc ++ y).length ≤ sizeLine ∧ W (mJs ms (acc ++ y) sl C1) QD) : W (mJs (m :: ms) acc sl C) QD := W.bind (h.imp fun x C1 h => by
  obtain ⟨y, rfl, hz, q⟩ := h
  simp only [if_pos hz]
  exact q)
end
end Nv

namespace Nv
open PySem PySem.Spec PyProof.Rows L2
/-! a text cut at a text: x.split(sep) -/
def mSplit (c : Bool) (mo me : ME) : ME := fun sl C => (mo sl C).bind fun p => match p.1 with
  | .str a => (me sl p.2).bind fun q => match q.1 with
    | .str b => if 1 ≤ b.length ∧ a.length ≤ 16000000 then newL c ((Txt.split a b).map D.str) q.2 else .no
    | _ => .no
  | _ => .no
theorem strs_reps {K : PySem.W.Frag} {F : Hp} {r : List Addr} : ∀ l : List Str, Reps K F r (l.map D.str) (l.map V.str)
  | [] => rfl
  | x :: l => ⟨.str x, l.map V.str, rfl, rfl, strs_reps l⟩
section
variable {X : Cx} {E : XK} {o e : Expr} {mo me : ME} {apos pos : Pos}
theorem ne_split {c : Bool} (ho : NE X E o mo) (he : NE X E e me) (hs : starEach [e] X.env = [(false, eval e X.env)] := by rfl) (hb : attributeBase o "split" X.env (eval o X.env) = eval o X.env := by rfl) (hl : (apos.endLine == pos.line) = true := by rfl) :
    NE X E (.Call (.Attribute o "split" apos) [e] [] pos) (mSplit c mo me) :=
  ⟨pe_imp (pe_split ho.pe he.pe hs hb hl) fun s H Q q => by
    obtain ⟨B, F, r, sl, C, hr, hs, o⟩ := q
    refine ⟨B, F, r, sl, C, hr, hs, Out.bind (P := Rep X.K) o fun x C1 F1 r1 H1 v e1 e2 hr1 hx o1 => ?_⟩
    cases x with
    | str a =>
      refine ⟨⟨a, hx⟩, B, F1, r1, sl, C1, hr1, hs.mono e1 e2, Out.bind (P := Rep X.K) o1 fun y C2 F2 r2 H2 u e3 e4 hr2 hy o2 => ?_⟩
      cases y with
      | str b =>
        have o2 : Out (Rep X.K) X.K X.mg E B F2 r2 (if 1 ≤ b.length ∧ a.length ≤ 16000000 then newL c ((Txt.split a b).map D.str) C2 else .no) Q := o2
        split at o2
        · rename_i hz
          exact ⟨a, b, hx, by rw [show u = V.str b from hy], by simp only [beq_eq_false_iff_ne]; omega, by rw [sizeLine_eq]; omega, fun p hp => newL_ok hr2 (strs_reps _) o2 hp⟩
        · exact False.elim o2
      | _ => exact False.elim o2
    | _ => exact False.elim o1⟩
end
section
variable {C : Store} {sl : Sl} {QD : D → Store → Prop} {mo me : ME}
theorem w_split {c : Bool} {a b : Str} (h : W (mo sl C) fun x C1 => x = .str a ∧ W (me sl C1) fun y C2 => y = .str b ∧ 1 ≤ b.length ∧ a.length ≤ 16000000 ∧ W (newL c ((Txt.split a b).map D.str) C2) QD) : W (mSplit c mo me sl C) QD := W.bind (h.imp fun x C1 h => by
  obtain ⟨rfl, h⟩ := h
  refine W.bind (W.imp h fun y C2 h => ?_)
  obtain ⟨rfl, h1, h2, h⟩ := h
  show W (if 1 ≤ b.length ∧ a.length ≤ 16000000 then newL c ((Txt.split a b).map D.str) C2 else .no) QD
  rw [if_pos ⟨h1, h2⟩]
  exact h)
theorem w_iStr {m : ME} {QK : Wk → Store → Prop} (h : W (m sl C) fun x C1 => ∃ z : Str, x = .str z ∧ QK (z.cps.toList.map fun c => D.str ⟨#[c]⟩, []) C1) : W (iStrD m sl C) QK := W.bind (h.imp fun x C1 h => by
  obtain ⟨z, rfl, h⟩ := h
  exact W.ok h)
theorem w_inSign {c : Nat} {z : Str} (q : QD (.bl (decide (c ∈ z.cps.toList))) C) : W (gInS false (.str ⟨#[c]⟩) (.str z) C) QD := by
  refine W.of (a := .bl (decide (c ∈ z.cps.toList))) (C := C) ?_ q
  show R.ok (D.bl (if false = true then _ else !(Builtin.Str.occurrences z ⟨#[c]⟩ 0 z.length 1).isEmpty), C) = _
  rw [if_neg Bool.false_ne_true, PySem.StrLaws.found_one z c]
theorem w_ixStr {z : Str} {i : Int} {c : Nat} (hz : z.length ≤ 16000000) (h : atI z.cps.toList i = some c) (q : QD (.str ⟨#[c]⟩) C) : W (gIx (.str z) (.int i) C) QD := by
  refine W.of (a := .str ⟨#[c]⟩) (C := C) ?_ q
  unfold gIx
  simp only [show intOf (.int i) = some i from rfl, h]
  rw [if_pos (by rw [sizeLine_eq]; omega)]
theorem w_slStr {c : Bool} {z : Str} {lo hi : Option Int} (hz : z.length ≤ 16000000) (q : QD (.str (cutS z lo hi)) C) : W (gSl c (.str z) lo hi C) QD := by
  refine W.of (a := .str (cutS z lo hi)) (C := C) ?_ q
  unfold gSl
  simp only []
  rw [if_pos (by rw [sizeLine_eq]; omega)]
theorem w_intT {a : Str} {n : Int} (h : PySem.intText? a = some n) (hl : a.length ≤ 640) (q : QD (.int n) C) : W (on1 gInt [.str a] C) QD := by
  refine W.of (a := .int n) (C := C) ?_ q
  show (match PySem.intText? a with
    | some n => if a.length ≤ 640 then R.ok (D.int n, C) else .no
    | none => .no) = _
  rw [h]
  exact if_pos hl
theorem w_strI {i : Int} (h : i.natAbs < 10 ^ 400) (q : QD (.str (Str.ofString (toString i))) C) : W (on1 gStr [.int i] C) QD := by
  refine W.of (a := .str (Str.ofString (toString i))) (C := C) ?_ q
  show (if i.natAbs < 10 ^ 400 then R.ok (D.str (Str.ofString (toString i)), C) else .no) = _
  rw [if_pos h]
theorem w_fmtI {m : ME} {i : Int} (h : W (m sl C) fun x C1 => x = .int i ∧ i.natAbs < 10 ^ 400 ∧ QD (.str (Str.ofString (toString i))) C1) : W (mFmt m sl C) QD := W.bind (h.imp fun x C1 h => by
  obtain ⟨rfl, hz, q⟩ := h
  show W (if i.natAbs < 10 ^ 400 then R.ok (D.str (Str.ofString (toString i)), C1) else .no) QD
  rw [if_pos hz]
  exact W.ok q)
end
end Nv

namespace Nv
open PySem PySem.Spec PyProof.Rows L2
/-! texts by order; ranges by twos -/
def gLtS (x y : D) (C : Store) : RE := match x, y with
  | .str i, .str j => .ok (.bl (decide (i.cps.toList < j.cps.toList)), C)
  | _, _ => .no
def gGtS (x y : D) (C : Store) : RE := match x, y with
  | .str i, .str j => .ok (.bl (decide (j.cps.toList < i.cps.toList)), C)
  | _, _ => .no
section
variable {K : PySem.W.Frag} {mg : Str → Option Value} {E : XK}
theorem ltSN : OpN K mg E (fun x y H Q => ∃ i j, x = .str i ∧ y = .str j ∧ Q (.bl (decide (i.cps.toList < j.cps.toList))) H) gLtS := by
  intro B F r H C x y v u Q hr hx hy o
  cases x with
  | str i =>
    cases y with
    | str j => exact ⟨i, j, hx, hy, out_ok (d := .bl (decide (i.cps.toList < j.cps.toList))) hr rfl o⟩
    | _ => exact False.elim o
  | _ => exact False.elim o
theorem gtSN : OpN K mg E (fun x y H Q => ∃ i j, x = .str i ∧ y = .str j ∧ Q (.bl (decide (j.cps.toList < i.cps.toList))) H) gGtS := by
  intro B F r H C x y v u Q hr hx hy o
  cases x with
  | str i =>
    cases y with
    | str j => exact ⟨i, j, hx, hy, out_ok (d := .bl (decide (j.cps.toList < i.cps.toList))) hr rfl o⟩
    | _ => exact False.elim o
  | _ => exact False.elim o
end
section
variable {C : Store} {QD : D → Store → Prop}
theorem w_ltS {a b : Str} (q : QD (.bl (decide (a.cps.toList < b.cps.toList))) C) : W (gLtS (.str a) (.str b) C) QD := W.ok q
theorem w_gtS {a b : Str} (q : QD (.bl (decide (b.cps.toList < a.cps.toList))) C) : W (gGtS (.str a) (.str b) C) QD := W.ok q
end
/-- by twos: range(a, b, 2) -/
def rgTwo (a b : Int) : List D := (List.range ((b - a + 1) / 2).toNat).map fun i => D.int (a + (i : Nat) * 2)
def iRgT (mas : MG (List D)) : MI := fun sl C => (mas sl C).bind fun p => match p.1 with
  | [.int i, .int j, .int k] => if (lowI i && lowI j) = true ∧ k = 2 then .ok ((rgTwo i j, []), p.2) else .no
  | _ => .no
theorem RgC.two {i j : Int} (ha : -(2 ^ 20) ≤ i) (ha' : i ≤ 2 ^ 20) (hb : -(2 ^ 20) ≤ j) (hb' : j ≤ 2 ^ 20) : L2.RgC i j 2 ((j - i + 1) / 2).toNat := by
  have e : Builtin.Range.rangeSize i j 2 = (((j - i + 1) / 2).toNat : Int) := by
    unfold Builtin.Range.rangeSize
    rw [if_pos (by decide)]
    split <;> omega
  refine ⟨by decide, by decide, ?_, e⟩
  unfold Builtin.Range.small
  rw [e]
  simp only [Builtin.Range.rangeFitsLong, Bool.and_eq_true, Bool.or_eq_true, decide_eq_true_eq, beq_iff_eq, show ((2 : Int) > 0) by decide, if_true]
  omega
section
variable {X : Cx} {E : XK} {tg a b : Expr} {mas : MG (List D)} {p1 pos : Pos}
theorem ni_rangeT {c : Expr} (hm : X.mg "range" = none) (ha : NA X E [a, b, c] mas) (hg : Gl X "range" := by rfl) (hs : starEach [a, b, c] X.env = (false, eval a X.env) :: starEach [b, c] X.env := by rfl) (hpl : (backTo pos (starEach [b, c] X.env)).any (·.1) = false := by rfl) :
    NI X E tg (.Call (.Name "range" p1) [a, b, c] [] pos) (iRgT mas) :=
  ⟨pi_imp (pi_range3 hg hm ha.pa hs hpl) fun s H Q q => by
    obtain ⟨B, F, r, sl, C, hr, hs, o⟩ := q
    refine ⟨B, F, r, sl, C, hr, hs, Out.bind (P := Reps X.K) o fun x C1 F1 r1 H1 v e1 e2 hr1 hx o1 => ?_⟩
    simp only at o1
    split at o1
    · rename_i i j k
      obtain ⟨v, w, rfl, h1, v2, w2, rfl, h2, v3, w3, rfl, h3, h4⟩ := hx
      cases (show w3 = [] from h4)
      split at o1
      · rename_i hl
        obtain ⟨hl, rfl⟩ := hl
        rw [Bool.and_eq_true] at hl
        have hl1 := lowI_ok hl.1
        have hl2 := lowI_ok hl.2
        refine ⟨i, j, 2, ((j - i + 1) / 2).toNat, by rw [show v = V.int i from h1, show v2 = V.int j from h2, show v3 = V.int 2 from h3], RgC.two hl1.1 hl1.2 hl2.1 hl2.2, ?_⟩
        exact o1 F1 r1 H1 _ (.refl _) (.refl _) hr1 fun B' => walk_rc
      · exact False.elim o1
    · exact False.elim o1⟩
end
section
variable {C : Store} {sl : Sl} {QK : Wk → Store → Prop} {mas : MG (List D)}
theorem w_iRgT (h : W (mas sl C) fun xs C1 => ∃ i j, xs = [.int i, .int j, .int 2] ∧ (lowI i && lowI j) = true ∧ QK (rgTwo i j, []) C1) : W (iRgT mas sl C) QK := W.bind (h.imp fun x C1 h => by
  obtain ⟨i, j, rfl, hl, q⟩ := h
  show W (if (lowI i && lowI j) = true ∧ (2 : Int) = 2 then R.ok ((rgTwo i j, []), C1) else .no) QK
  rw [if_pos ⟨hl, rfl⟩]
  exact W.ok q)
theorem rgTwo_get {a b : Int} {i : Nat} {d : D} (h : (rgTwo a b)[i]? = some d) : (i : Int) < (b - a + 1) / 2 ∧ d = .int (a + (i : Int) * 2) := by
  unfold rgTwo at h
  rw [List.getElem?_map] at h
  cases e : (List.range ((b - a + 1) / 2).toNat)[i]? with
  | none => rw [e] at h; exact nomatch h
  | some j =>
    obtain ⟨h1, h2⟩ := List.getElem?_eq_some_iff.mp e
    rw [List.length_range] at h1
    rw [List.getElem_range] at h2
    subst h2
    rw [e] at h
    exact ⟨by omega, (Option.some.inj h).symm⟩
theorem rgTwo_len (a b : Int) : (rgTwo a b).length = ((b - a + 1) / 2).toNat := by
  unfold rgTwo
  rw [List.length_map, List.length_range]
end
end Nv

namespace Tk
open PySem PySem.Spec PyProof.Rows L2 Nv
def topS (i : Nat) : Stmt := PySem.Challenge.pw_takeback_k11_texts_of_no_stand.main.body.getD i (.Pass ⟨0, 0, 0, 0⟩)
def bltNames : List Str := ["all", "bool", "enumerate", "int", "isinstance", "len", "list", "max", "min", "range", "str", "tuple", "zip"]
def Blts (mg : Str → Option Value) : Prop := ∀ x ∈ bltNames, mg x = none
theorem b_all {mg : Str → Option Value} (h : Blts mg) : mg "all" = none := h _ (by decide +kernel)
theorem b_bool {mg : Str → Option Value} (h : Blts mg) : mg "bool" = none := h _ (by decide +kernel)
theorem b_enumerate {mg : Str → Option Value} (h : Blts mg) : mg "enumerate" = none := h _ (by decide +kernel)
theorem b_int {mg : Str → Option Value} (h : Blts mg) : mg "int" = none := h _ (by decide +kernel)
theorem b_isinstance {mg : Str → Option Value} (h : Blts mg) : mg "isinstance" = none := h _ (by decide +kernel)
theorem b_len {mg : Str → Option Value} (h : Blts mg) : mg "len" = none := h _ (by decide +kernel)
theorem b_list {mg : Str → Option Value} (h : Blts mg) : mg "list" = none := h _ (by decide +kernel)
theorem b_max {mg : Str → Option Value} (h : Blts mg) : mg "max" = none := h _ (by decide +kernel)
theorem b_min {mg : Str → Option Value} (h : Blts mg) : mg "min" = none := h _ (by decide +kernel)
theorem b_range {mg : Str → Option Value} (h : Blts mg) : mg "range" = none := h _ (by decide +kernel)
theorem b_str {mg : Str → Option Value} (h : Blts mg) : mg "str" = none := h _ (by decide +kernel)
theorem b_tuple {mg : Str → Option Value} (h : Blts mg) : mg "tuple" = none := h _ (by decide +kernel)
theorem b_zip {mg : Str → Option Value} (h : Blts mg) : mg "zip" = none := h _ (by decide +kernel)
abbrev k_BAR : D := .str "|"
abbrev k_FIGURES : D := .str "0123456789"
def Globs (mg : Str → Option Value) (K : PySem.W.Frag) : Prop := GlobC mg K "BAR" k_BAR ∧ GlobC mg K "FIGURES" k_FIGURES
theorem g_BAR {mg : Str → Option Value} {K : PySem.W.Frag} (h : Globs mg K) : GlobC mg K "BAR" k_BAR := h.1
theorem g_FIGURES {mg : Str → Option Value} {K : PySem.W.Frag} (h : Globs mg K) : GlobC mg K "FIGURES" k_FIGURES := h.2
def errTb : List (Str × List Str) := [("NoText", ["NoText", "RingError", "ValueError"])]
section
variable {P : Program} {w : World} {K : PySem.W.Frag} {mg : Str → Option Value} {base : Heap}
abbrev s__law_take : Stmt := topS 24
abbrev N__law_take : List Str := ["_law_sack_here", "_law_many", "_law_found", "_law_ground"]
theorem sc__law_take : FnScope N__law_take ["_law_sack_here", "_law_many"] (defScope s__law_take) := ⟨rfl, rfl, rfl, by decide +kernel, rfl, by decide +kernel, by decide +kernel⟩
noncomputable def m__law_take : MF := runD 4 (sSeq (sIf (mT (m2 gGt (m2 gIx (mVar 0) (mC (.int 0))) (mC (.int 0))))
  (sSeq (sAsg (m2 gMod (m2 gIx (mVar 0) (mC (.int 0))) (mVar 1)) (gmN 2))
  (sSeq (sAsg (m2 gDiv (m2 gIx (mVar 0) (mC (.int 0))) (mVar 1)) (gmSub (mVar 0) (mC (.int 0))))
  (sRet (mVar 2))))
  sNil)
  (sSeq (sAsg (m2 (gAdd false) (m2 gIx (mVar 0) (mC (.int 2))) (mC (.int 1))) (gmSub (mVar 0) (mC (.int 2))))
  (sSeq (sAsg (m2 gMod (m2 gPow (m2 (gAdd false) (m2 gIx (mVar 0) (mC (.int 1))) (m2 gMul (mC (.int 650060)) (m2 gIx (mVar 0) (mC (.int 2))))) (mC (.int 3))) (m2 (gAdd false) (m2 gPow (mC (.int 10)) (mC (.int 36))) (mC (.int 67)))) (gmN 3))
  (sSeq (sAsg (m2 gMod (m2 gPow (m2 (gAdd false) (m2 gMul (mVar 3) (m2 gIx (mVar 0) (mC (.int 2)))) (mC (.int 99991))) (mC (.int 3))) (m2 (gAdd false) (m2 gPow (mC (.int 10)) (mC (.int 38))) (mC (.int 133)))) (gmN 3))
  (sRet (m2 gMod (m2 gDiv (mVar 3) (mC (.int 8191))) (mVar 1)))))))
theorem ok__law_take (hB : Blts mg) (hG : Globs mg K) (h : DefAt K mg "_law_take" s__law_take ["_law_sack_here", "_law_many"]) : Cal P w K mg base "_law_take" 1 2 m__law_take := by
  have hN := sc__law_take.nd
  exact Cal.of (k := 0) h sc__law_take fun f cdv A outer s H E hr hgd => (nss_cons (ns_if (nt_cmp op_gt gtN (ne_ix (ne_var 0) ne_int) ne_int (nomark _))
    (nss_cons (ns_set 2 hN rfl (.inl rfl) (ne_op op_mod modN (ne_ix (ne_var 0) ne_int) (ne_var 1)))
    (nss_cons (ns_asg (ne_op op_fdivW divN (ne_ix (ne_var 0) ne_int) (ne_var 1)) (ng_sub (own := []) (ne_var 0) ne_int))
    (nss_one (ns_ret (ne_var 2)))))
    nss_nil)
    (nss_cons (ns_asg (ne_op op_addA addN (ne_ix (ne_var 0) ne_int) ne_int) (ng_sub (own := []) (ne_var 0) ne_int))
    (nss_cons (ns_set 3 hN rfl (.inl rfl) (ne_op op_mod modN (ne_op op_powW powN (ne_op op_addA addN (ne_ix (ne_var 0) ne_int) (ne_op op_mulA mulN ne_int (ne_ix (ne_var 0) ne_int))) ne_int) (ne_op op_addA addN (ne_op op_powW powN ne_int ne_int) ne_int)))
    (nss_cons (ns_set 3 hN rfl (.inl rfl) (ne_op op_mod modN (ne_op op_powW powN (ne_op op_addA addN (ne_op op_mulA mulN (ne_var 3) (ne_ix (ne_var 0) ne_int)) ne_int) ne_int) (ne_op op_addA addN (ne_op op_powW powN ne_int ne_int) ne_int)))
    (nss_one (ns_ret (ne_op op_mod modN (ne_op op_fdivW divN (ne_var 3) ne_int) (ne_var 1))))))))
abbrev s__law_marred : Stmt := topS 28
abbrev N__law_marred : List Str := ["_law_sack_here", "_law_line", "_law_signs", "_law_parts", "_law_at", "_law_odd", "_law_way", "_law_spot", "_law_some"]
theorem sc__law_marred : FnScope N__law_marred ["_law_sack_here", "_law_line", "_law_signs"] (defScope s__law_marred) := ⟨rfl, rfl, rfl, by decide +kernel, rfl, by decide +kernel, by decide +kernel⟩
noncomputable def m__law_marred : MF := runD 9 (sSeq (sAsg (mSplit false (mVar 1) (mC (.str " "))) (gmN 3))
  (sSeq (sAsg (mF 2 m__law_take (aCons (mVar 0) (aCons (mCB (on1 gLen) (aCons (mVar 3) aNil)) aNil))) (gmN 4))
  (sSeq (sAsg (m2 gIx (mVar 2) (mF 2 m__law_take (aCons (mVar 0) (aCons (mCB (on1 gLen) (aCons (mVar 2) aNil)) aNil)))) (gmN 5))
  (sSeq (sAsg (mF 2 m__law_take (aCons (mVar 0) (aCons (mC (.int 7)) aNil))) (gmN 6))
  (sSeq (sIf (mT (m2 gEq (mVar 6) (mC (.int 6))))
  (sRet (mSl true (mVar 1) oNone (oSome (mF 2 m__law_take (aCons (mVar 0) (aCons (m2 (gAdd false) (mCB (on1 gLen) (aCons (mVar 1) aNil)) (mC (.int 1))) aNil))))))
  sNil)
  (sSeq (sIf (mT (m2 gEq (mVar 6) (mC (.int 5))))
  (sSeq (sAsg (mF 2 m__law_take (aCons (mVar 0) (aCons (m2 (gAdd false) (mCB (on1 gLen) (aCons (mVar 1) aNil)) (mC (.int 1))) aNil))) (gmN 7))
  (sRet (m2 (gAdd true) (m2 (gAdd false) (mSl false (mVar 1) oNone (oSome (mVar 7))) (mSl false (mVar 5) oNone (oSome (mC (.int 1))))) (mSl false (mVar 1) (oSome (m2 (gAdd false) (mVar 7) (mF 2 m__law_take (aCons (mVar 0) (aCons (mC (.int 2)) aNil))))) oNone))))
  sNil)
  (sSeq (sAsg (mLst false (aCons (m2 (gAdd false) (mSl false (mVar 3) oNone (oSome (mVar 4))) (mSl false (mVar 3) (oSome (m2 (gAdd false) (mVar 4) (mC (.int 1)))) oNone)) (aCons (m2 (gAdd false) (m2 (gAdd false) (mSl false (mVar 3) oNone (oSome (mVar 4))) (mLst false (aCons (mVar 5) aNil))) (mSl false (mVar 3) (oSome (mVar 4)) oNone)) (aCons (m2 (gAdd false) (m2 (gAdd false) (mSl false (mVar 3) oNone (oSome (mVar 4))) (mLst false (aCons (mVar 5) aNil))) (mSl false (mVar 3) (oSome (m2 (gAdd false) (mVar 4) (mC (.int 1)))) oNone)) aNil)))) (gmN 8))
  (sSeq (sAsg (m2 (gAdd false) (mVar 8) (mLst false (aCons (m2 (gAdd false) (m2 (gAdd false) (mSl false (mVar 3) oNone (oSome (mVar 4))) (mSl false (mVar 3) (oSome (mVar 4)) (oSome (m2 (gAdd false) (mVar 4) (mC (.int 1)))))) (mSl false (mVar 3) (oSome (mVar 4)) oNone)) (aCons (m2 (gAdd false) (mSl false (mVar 3) oNone (oSome (mVar 4))) (m1 (gRevL false) (mSl false (mVar 3) (oSome (mVar 4)) oNone))) aNil)))) (gmN 8))
  (sRet (mJoin (mC (.str " ")) (m2 gIx (mVar 8) (mVar 6))))))))))))
theorem ok__law_marred (hB : Blts mg) (hG : Globs mg K) (h : DefAt K mg "_law_marred" s__law_marred ["_law_sack_here", "_law_line", "_law_signs"]) (c__law_take : Cal P w K mg base "_law_take" 1 2 m__law_take) : Cal P w K mg base "_law_marred" 2 3 m__law_marred := by
  have hN := sc__law_marred.nd
  exact Cal.of (k := 1) h sc__law_marred fun f cdv A outer s H E hr hgd => (nss_cons (ns_set 3 hN rfl (.inl rfl) (ne_split (ne_var 1) ne_str))
    (nss_cons (ns_set 4 hN rfl (.inl rfl) (ne_cal c__law_take (hr.mono (by omega)) hgd pass_cx (na_cons (ne_var 0) (na_cons (ne_callB call_len lenN (b_len hB) (na_cons (ne_var 3) na_nil)) na_nil))))
    (nss_cons (ns_set 5 hN rfl (.inl rfl) (ne_ix (ne_var 2) (ne_cal c__law_take (hr.mono (by omega)) hgd pass_cx (na_cons (ne_var 0) (na_cons (ne_callB call_len lenN (b_len hB) (na_cons (ne_var 2) na_nil)) na_nil)))))
    (nss_cons (ns_set 6 hN rfl (.inl rfl) (ne_cal c__law_take (hr.mono (by omega)) hgd pass_cx (na_cons (ne_var 0) (na_cons ne_int na_nil))))
    (nss_cons (ns_if (nt_cmp (op_eqE hr.units) eqN (ne_var 6) ne_int (nomark _))
    (nss_one (ns_ret (ne_sl (ne_var 1) no_none (no_some (ne_cal c__law_take (hr.mono (by omega)) hgd pass_cx (na_cons (ne_var 0) (na_cons (ne_op op_addA addN (ne_callB call_len lenN (b_len hB) (na_cons (ne_var 1) na_nil)) ne_int) na_nil)))))))
    nss_nil)
    (nss_cons (ns_if (nt_cmp (op_eqE hr.units) eqN (ne_var 6) ne_int (nomark _))
    (nss_cons (ns_set 7 hN rfl (.inl rfl) (ne_cal c__law_take (hr.mono (by omega)) hgd pass_cx (na_cons (ne_var 0) (na_cons (ne_op op_addA addN (ne_callB call_len lenN (b_len hB) (na_cons (ne_var 1) na_nil)) ne_int) na_nil))))
    (nss_one (ns_ret (ne_op op_addA addN (ne_op op_addA addN (ne_sl (ne_var 1) no_none (no_some (ne_var 7))) (ne_sl (ne_var 5) no_none (no_some ne_int))) (ne_sl (ne_var 1) (no_some (ne_op op_addA addN (ne_var 7) (ne_cal c__law_take (hr.mono (by omega)) hgd pass_cx (na_cons (ne_var 0) (na_cons ne_int na_nil))))) no_none)))))
    nss_nil)
    (nss_cons (ns_set 8 hN rfl (.inl rfl) (ne_lst (na_cons (ne_op op_addA addN (ne_sl (ne_var 3) no_none (no_some (ne_var 4))) (ne_sl (ne_var 3) (no_some (ne_op op_addA addN (ne_var 4) ne_int)) no_none)) (na_cons (ne_op op_addA addN (ne_op op_addA addN (ne_sl (ne_var 3) no_none (no_some (ne_var 4))) (ne_lst (na_cons (ne_var 5) na_nil))) (ne_sl (ne_var 3) (no_some (ne_var 4)) no_none)) (na_cons (ne_op op_addA addN (ne_op op_addA addN (ne_sl (ne_var 3) no_none (no_some (ne_var 4))) (ne_lst (na_cons (ne_var 5) na_nil))) (ne_sl (ne_var 3) (no_some (ne_op op_addA addN (ne_var 4) ne_int)) no_none)) na_nil)))))
    (nss_cons (ns_set 8 hN rfl (.inl rfl) (ne_op op_addA addN (ne_var 8) (ne_lst (na_cons (ne_op op_addA addN (ne_op op_addA addN (ne_sl (ne_var 3) no_none (no_some (ne_var 4))) (ne_sl (ne_var 3) (no_some (ne_var 4)) (no_some (ne_op op_addA addN (ne_var 4) ne_int)))) (ne_sl (ne_var 3) (no_some (ne_var 4)) no_none)) (na_cons (ne_op op_addA addN (ne_sl (ne_var 3) no_none (no_some (ne_var 4))) (ne_revL (ne_sl (ne_var 3) (no_some (ne_var 4)) no_none))) na_nil)))))
    (nss_one (ns_ret (ne_join ne_str (ne_ix (ne_var 8) (ne_var 6)))))))))))))
abbrev s__law_same : Stmt := topS 27
abbrev N__law_same : List Str := ["_law_found", "_law_due_here", "_law_one", "_law_other"]
theorem sc__law_same : FnScope N__law_same ["_law_found", "_law_due_here"] (defScope s__law_same) := ⟨rfl, rfl, rfl, by decide +kernel, rfl, by decide +kernel, by decide +kernel⟩
noncomputable def m__law_same : Nat → MF
  | 0 => fun _ _ => .no
  | n + 1 => runD 4 (sSeq (sIf (mT (m1 (gIsiL ["list", "tuple"]) (mVar 1)))
  (sSeq (sIf (tOrM (tNotM (mT (m1 (gIsiL ["list", "tuple"]) (mVar 0)))) (mT (m2 gNe (m1 (gIsi "list") (mVar 0)) (m1 (gIsi "list") (mVar 1)))))
  (sRet (mC (.bl false)))
  sNil)
  (sRet (mAnd (m2 gEq (mCB (on1 gLen) (aCons (mVar 0) aNil)) (mCB (on1 gLen) (aCons (mVar 1) aNil))) (mCB (on1 gAll) (aCons (mLc false [2, 3] (iZp (aCons (mVar 0) (aCons (mVar 1) aNil))) (gmSq 2 (gmCons (gmN 2) (gmCons (gmN 3) gmNil))) tTrue (mF 2 (m__law_same n) (aCons (mVar 2) (aCons (mVar 3) aNil)))) aNil)))))
  sNil)
  (sSeq (sIf (tOrM (mT (m1 (gIsiL ["bool", "str"]) (mVar 1))) (mT (m2 gIs (mVar 1) (mC .non))))
  (sRet (mAnd (m2 gEq (m1 (gIsi "bool") (mVar 0)) (m1 (gIsi "bool") (mVar 1))) (m2 gEq (mVar 0) (mVar 1))))
  sNil)
  (sRet (mAnd (m1 (gIsi "int") (mVar 0)) (mAnd (mNot (m1 (gIsi "bool") (mVar 0))) (m2 gEq (mVar 0) (mVar 1)))))))
theorem ok__law_same (hB : Blts mg) (hG : Globs mg K) (h : DefAt K mg "_law_same" s__law_same ["_law_found", "_law_due_here"]) : ∀ n : Nat, Cal P w K mg base "_law_same" (0 + n) 2 (m__law_same n)
  | 0 => Cal.zero h
  | n + 1 => by
    have ih := ok__law_same hB hG h n
    have hN := sc__law_same.nd
    exact Cal.of (k := 0 + n) h sc__law_same fun f cdv A outer s H E hr hgd => (nss_cons (ns_if (nt_val (ne_isiL (b_isinstance hB) (by decide) (by decide) (ne_var 1) (ta_cons (b_list hB) boot_list (ta_cons (b_tuple hB) boot_tuple ta_nil))))
    (nss_cons (ns_if (nt_w (nw_or (nt_not (nt_val (ne_isiL (b_isinstance hB) (by decide) (by decide) (ne_var 0) (ta_cons (b_list hB) boot_list (ta_cons (b_tuple hB) boot_tuple ta_nil))))) (nw_or1 (nt_cmp (op_neE hr.units) neN (ne_isi (b_isinstance hB) (b_list hB) boot_list (by decide) (ne_var 0)) (ne_isi (b_isinstance hB) (b_list hB) boot_list (by decide) (ne_var 1)) (nomark _)))))
    (nss_one (ns_ret ne_bl))
    nss_nil)
    (nss_one (ns_ret (ne_and (ne_cmp (op_eqE hr.units) eqN (ne_callB call_len lenN (b_len hB) (na_cons (ne_var 0) na_nil)) (ne_callB call_len lenN (b_len hB) (na_cons (ne_var 1) na_nil)) (nomark _)) (ne_one (ne_callB (cr_all rfl) allN (b_all hB) (na_cons (ne_lc (own := [("_law_one", 2), ("_law_other", 3)]) rfl hN (ni_zip (b_zip hB) (na_cons (ne_var 0) (na_cons (ne_var 1) na_nil))) (blkOk_by (N := N__law_same) (sc := defScope s__law_same) (by decide +kernel)) (fun _ _ _ _ _ => (ng_sq rfl (ngs_cons (ng_name (own := [2, 3]) 2 (by decide) hN rfl (.inl rfl)) (ngs_cons (ng_name (own := [2, 3]) 3 (by decide) hN rfl (.inl rfl)) ngs_nil)))) (fun _ _ _ _ _ => nts_nil) (fun _ _ _ _ _ => (ne_cal ih (hr.mono (by omega)) hgd passL (na_cons (ne_var 2) (na_cons (ne_var 3) na_nil))))) na_nil)))))))
    nss_nil)
    (nss_cons (ns_if (nt_w (nw_or (nt_val (ne_isiL (b_isinstance hB) (by decide) (by decide) (ne_var 1) (ta_cons (b_bool hB) boot_bool (ta_cons (b_str hB) boot_str ta_nil)))) (nw_or1 (nt_cmp op_is2 isN2 (ne_var 1) ne_non (nomark _)))))
    (nss_one (ns_ret (ne_and (ne_cmp (op_eqE hr.units) eqN (ne_isi (b_isinstance hB) (b_bool hB) boot_bool (by decide) (ne_var 0)) (ne_isi (b_isinstance hB) (b_bool hB) boot_bool (by decide) (ne_var 1)) (nomark _)) (ne_one (ne_cmp (op_eqE hr.units) eqN (ne_var 0) (ne_var 1) (nomark _))))))
    nss_nil)
    (nss_one (ns_ret (ne_and (ne_isi (b_isinstance hB) (b_int hB) boot_int (by decide) (ne_var 0)) (ne_and (ne_not (ne_isi (b_isinstance hB) (b_bool hB) boot_bool (by decide) (ne_var 0))) (ne_one (ne_cmp (op_eqE hr.units) eqN (ne_var 0) (ne_var 1) (nomark _)))))))))
abbrev s_words_in : Stmt := topS 18
abbrev N_words_in : List Str := ["text"]
theorem sc_words_in : FnScope N_words_in ["text"] (defScope s_words_in) := ⟨rfl, rfl, rfl, by decide +kernel, rfl, by decide +kernel, by decide +kernel⟩
noncomputable def m_words_in : MF := runD 1 (sSeq (sIf (tNotM (mT (m1 (gIsi "str") (mVar 0))))
  (sRaise1 "NoText" "at" (mC .non))
  sNil)
  (sRet (mSplit true (mVar 0) (mC (.str " ")))))
theorem ok_words_in (hB : Blts mg) (hG : Globs mg K) (h : DefAt K mg "words_in" s_words_in ["text"]) (e_NoText : ErrX P w K mg base "NoText" "at" "RingError") : Cal P w K mg base "words_in" 3 1 m_words_in := by
  have hN := sc_words_in.nd
  exact Cal.of (k := 2) h sc_words_in fun f cdv A outer s H E hr hgd => (nss_cons (ns_if (nt_not (nt_val (ne_isi (b_isinstance hB) (b_str hB) boot_str (by decide) (ne_var 0))))
    (nss_one (ns_raiseX e_NoText (hr.mono (by omega)) rfl (takes_of rfl rfl rfl rfl) ne_non))
    nss_nil)
    (nss_one (ns_ret (ne_split (ne_var 0) ne_str))))
abbrev s_number_in : Stmt := topS 19
abbrev N_number_in : List Str := ["word", "least", "sign"]
theorem sc_number_in : FnScope N_number_in ["word", "least"] (defScope s_number_in) := ⟨rfl, rfl, rfl, by decide +kernel, rfl, by decide +kernel, by decide +kernel⟩
noncomputable def m_number_in : MF := runD 3 (sSeq (sIf (tOrM (mT (m2 gEq (mVar 0) (mC (.str "")))) (tOrM (tNotM (mT (mCB (on1 gAll) (aCons (mLc false [2] (iStrD (mVar 0)) (gmN 2) tTrue (m2 (gInS false) (mVar 2) (mC k_FIGURES))) aNil)))) (tAndM (mT (m2 gEq (m2 gIx (mVar 0) (mC (.int 0))) (mC (.str "0")))) (mT (m2 gNe (mVar 0) (mC (.str "0")))))))
  (sRet (mC .non))
  sNil)
  (sRet (mIf (mT (m2 gGe (mCB (on1 gInt) (aCons (mVar 0) aNil)) (mVar 1))) (mCB (on1 gInt) (aCons (mVar 0) aNil)) (mC .non))))
theorem ok_number_in (hB : Blts mg) (hG : Globs mg K) (h : DefAt K mg "number_in" s_number_in ["word", "least"]) : Cal P w K mg base "number_in" 1 2 m_number_in := by
  have hN := sc_number_in.nd
  exact Cal.of (k := 0) h sc_number_in fun f cdv A outer s H E hr hgd => (nss_cons (ns_if (nt_w (nw_or (nt_cmp (op_eqE hr.units) eqN (ne_var 0) ne_str (nomark _)) (nw_or (nt_not (nt_val (ne_callB (cr_all rfl) allN (b_all hB) (na_cons (ne_lc (own := [("sign", 2)]) rfl hN (ni_str (ne_var 0)) (blkOk_by (N := N_number_in) (sc := defScope s_number_in) (by decide +kernel)) (fun _ _ _ _ _ => (ng_name (own := [2]) 2 (by decide) hN rfl (.inl rfl))) (fun _ _ _ _ _ => nts_nil) (fun _ _ _ _ _ => (ne_cmp op_in_str inSN (ne_var 2) (ne_glob (g_FIGURES hG)) (by rfl)))) na_nil)))) (nw_or1 (nt_w (nw_and (nt_cmp (op_eqE hr.units) eqN (ne_ix (ne_var 0) ne_int) ne_str (nomark _)) (nw_and1 (nt_cmp (op_neE hr.units) neN (ne_var 0) ne_str (nomark _)))))))))
    (nss_one (ns_ret ne_non))
    nss_nil)
    (nss_one (ns_ret (ne_if (nt_cmp op_ge geN (ne_callTy call_int3 intN (b_int hB) (na_cons (ne_var 0) na_nil)) (ne_var 1) (nomark _)) (ne_callTy call_int3 intN (b_int hB) (na_cons (ne_var 0) na_nil)) ne_non))))
abbrev s_rights_in : Stmt := topS 20
abbrev N_rights_in : List Str := ["parts", "found", "at", "word", "who"]
theorem sc_rights_in : FnScope N_rights_in ["parts"] (defScope s_rights_in) := ⟨rfl, rfl, rfl, by decide +kernel, rfl, by decide +kernel, by decide +kernel⟩
noncomputable def m_rights_in : MF := runD 5 (sSeq (sAsg (mLst true aNil) (gmN 1))
  (sSeq (sFor (iEn (aCons (mVar 0) aNil)) (gmSq 2 (gmCons (gmN 2) (gmCons (gmN 3) gmNil)))
  (sSeq (sIf (mT (m2 gEq (mVar 3) (mC k_BAR)))
  (sSeq (sIf (tOrM (mT (m2 gLt (mVar 2) (mC (.int 2)))) (mT (m2 gGt (mCB (on1 gMaxL) (aCons (mVar 1) aNil)) (mVar 2))))
  (sRaise1 "NoText" "at" (mVar 2))
  sNil)
  (sRet (mVar 1)))
  sNil)
  (sSeq (sAsg (mF 2 m_number_in (aCons (mVar 3) (aCons (m2 (gAdd false) (mVar 2) (mC (.int 1))) aNil))) (gmN 4))
  (sSeq (sIf (mT (m2 gIs (mVar 4) (mC .non)))
  (sRaise1 "NoText" "at" (mVar 2))
  sNil)
  (sDrop (mMt isL gAppend (mVar 1) (aCons (mVar 4) aNil)))))))
  (sRaise1 "NoText" "at" (mCB (on1 gLen) (aCons (mVar 0) aNil)))))
theorem ok_rights_in (hB : Blts mg) (hG : Globs mg K) (h : DefAt K mg "rights_in" s_rights_in ["parts"]) (c_number_in : Cal P w K mg base "number_in" 1 2 m_number_in) (e_NoText : ErrX P w K mg base "NoText" "at" "RingError") : Cal P w K mg base "rights_in" 3 1 m_rights_in := by
  have hN := sc_rights_in.nd
  exact Cal.of (k := 2) h sc_rights_in fun f cdv A outer s H E hr hgd => (nss_cons (ns_set 1 hN rfl (.inl rfl) (ne_lst na_nil))
    (nss_cons (ns_for own_cx rfl (ni_enum (b_enumerate hB) (na_cons (ne_var 0) na_nil)) (ng_sq rfl (ngs_cons (ng_name (own := [2, 3]) 2 (by decide) hN rfl (.inl rfl)) (ngs_cons (ng_name (own := [2, 3]) 3 (by decide) hN rfl (.inl rfl)) ngs_nil)))
    (nss_cons (ns_if (nt_cmp (op_eqE hr.units) eqN (ne_var 3) (ne_glob (g_BAR hG)) (nomark _))
    (nss_cons (ns_if (nt_w (nw_or (nt_cmp op_lt ltN (ne_var 2) ne_int (nomark _)) (nw_or1 (nt_cmp op_gt gtN (ne_callB (cr_max rfl) maxLN (b_max hB) (na_cons (ne_var 1) na_nil)) (ne_var 2) (nomark _)))))
    (nss_one (ns_raiseX e_NoText (hr.mono (by omega)) rfl (takes_of rfl rfl rfl rfl) (ne_var 2)))
    nss_nil)
    (nss_one (ns_ret (ne_var 1))))
    nss_nil)
    (nss_cons (ns_set 4 hN rfl (.inl rfl) (ne_cal c_number_in (hr.mono (by omega)) hgd pass_cx (na_cons (ne_var 3) (na_cons (ne_op op_addA addN (ne_var 2) ne_int) na_nil))))
    (nss_cons (ns_if (nt_cmp op_is2 isN2 (ne_var 4) ne_non (nomark _))
    (nss_one (ns_raiseX e_NoText (hr.mono (by omega)) rfl (takes_of rfl rfl rfl rfl) (ne_var 2)))
    nss_nil)
    (nss_one (ns_expr (ne_mt PySem.F.plainAttrs_list PySem.F.slot_list_append PySem.F.type_list_append mt_append chk_list appendN (ne_var 1) (na_cons (ne_var 4) na_nil))))))))
    (nss_one (ns_raiseX e_NoText (hr.mono (by omega)) rfl (takes_of rfl rfl rfl rfl) (ne_callB call_len lenN (b_len hB) (na_cons (ne_var 0) na_nil))))))
abbrev s_read_stand : Stmt := topS 21
abbrev N_read_stand : List Str := ["text", "parts", "rights", "begun", "lefts", "at", "who"]
theorem sc_read_stand : FnScope N_read_stand ["text"] (defScope s_read_stand) := ⟨rfl, rfl, rfl, by decide +kernel, rfl, by decide +kernel, by decide +kernel⟩
noncomputable def m_read_stand : MF := runD 7 (sSeq (sAsg (mFz 2 (mF 1 m_words_in (aCons (mVar 0) aNil))) (gmN 1))
  (sSeq (sAsg (mF 1 m_rights_in (aCons (mVar 1) aNil)) (gmN 2))
  (sSeq (sAsg (m2 (gAdd false) (mCB (on1 gLen) (aCons (mVar 2) aNil)) (mC (.int 1))) (gmN 3))
  (sSeq (sAsg (mLst true aNil) (gmN 4))
  (sSeq (sFor (iRg2 (aCons (mVar 3) (aCons (mCB (on1 gLen) (aCons (mVar 1) aNil)) aNil))) (gmN 5)
  (sSeq (sAsg (mF 2 m_number_in (aCons (m2 gIx (mVar 1) (mVar 5)) (aCons (mC (.int 0)) aNil))) (gmN 6))
  (sSeq (sIf (tOrM (mT (m2 gEq (m2 gSub (mVar 5) (mVar 3)) (mCB (on1 gLen) (aCons (mVar 2) aNil)))) (tOrM (mT (m2 gIs (mVar 6) (mC .non))) (mT (m2 gGt (mVar 6) (m2 gSub (mVar 5) (mVar 3))))))
  (sRaise1 "NoText" "at" (mVar 5))
  sNil)
  (sDrop (mMt isL gAppend (mVar 4) (aCons (mVar 6) aNil))))))
  (sSeq (sIf (mT (m2 gLt (mCB (on1 gLen) (aCons (mVar 4) aNil)) (mCB (on1 gLen) (aCons (mVar 2) aNil))))
  (sRaise1 "NoText" "at" (mCB (on1 gLen) (aCons (mVar 1) aNil)))
  sNil)
  (sRet (mTup (aCons (mVar 2) (aCons (mVar 4) aNil))))))))))
theorem ok_read_stand (hB : Blts mg) (hG : Globs mg K) (h : DefAt K mg "read_stand" s_read_stand ["text"]) (c_words_in : Cal P w K mg base "words_in" 3 1 m_words_in) (c_rights_in : Cal P w K mg base "rights_in" 3 1 m_rights_in) (c_number_in : Cal P w K mg base "number_in" 1 2 m_number_in) (e_NoText : ErrX P w K mg base "NoText" "at" "RingError") : Cal P w K mg base "read_stand" 4 1 m_read_stand := by
  have hN := sc_read_stand.nd
  exact Cal.of (k := 3) h sc_read_stand fun f cdv A outer s H E hr hgd => (nss_cons (ns_set 1 hN rfl (.inl rfl) (ne_fz 2 (ne_cal c_words_in (hr.mono (by omega)) hgd pass_cx (na_cons (ne_var 0) na_nil))))
    (nss_cons (ns_set 2 hN rfl (.inl rfl) (ne_cal c_rights_in (hr.mono (by omega)) hgd pass_cx (na_cons (ne_var 1) na_nil)))
    (nss_cons (ns_set 3 hN rfl (.inl rfl) (ne_op op_addA addN (ne_callB call_len lenN (b_len hB) (na_cons (ne_var 2) na_nil)) ne_int))
    (nss_cons (ns_set 4 hN rfl (.inl rfl) (ne_lst na_nil))
    (nss_cons (ns_for own_cx rfl (ni_range2 (b_range hB) (na_cons (ne_var 3) (na_cons (ne_callB call_len lenN (b_len hB) (na_cons (ne_var 1) na_nil)) na_nil))) (ng_name (own := [5]) 5 (by decide) hN rfl (.inl rfl))
    (nss_cons (ns_set 6 hN rfl (.inl rfl) (ne_cal c_number_in (hr.mono (by omega)) hgd pass_cx (na_cons (ne_ix (ne_var 1) (ne_var 5)) (na_cons ne_int na_nil))))
    (nss_cons (ns_if (nt_w (nw_or (nt_cmp (op_eqE hr.units) eqN (ne_op op_sub subN (ne_var 5) (ne_var 3)) (ne_callB call_len lenN (b_len hB) (na_cons (ne_var 2) na_nil)) (nomark _)) (nw_or (nt_cmp op_is2 isN2 (ne_var 6) ne_non (nomark _)) (nw_or1 (nt_cmp op_gt gtN (ne_var 6) (ne_op op_sub subN (ne_var 5) (ne_var 3)) (nomark _))))))
    (nss_one (ns_raiseX e_NoText (hr.mono (by omega)) rfl (takes_of rfl rfl rfl rfl) (ne_var 5)))
    nss_nil)
    (nss_one (ns_expr (ne_mt PySem.F.plainAttrs_list PySem.F.slot_list_append PySem.F.type_list_append mt_append chk_list appendN (ne_var 4) (na_cons (ne_var 6) na_nil)))))))
    (nss_cons (ns_if (nt_cmp op_lt ltN (ne_callB call_len lenN (b_len hB) (na_cons (ne_var 4) na_nil)) (ne_callB call_len lenN (b_len hB) (na_cons (ne_var 2) na_nil)) (nomark _))
    (nss_one (ns_raiseX e_NoText (hr.mono (by omega)) rfl (takes_of rfl rfl rfl rfl) (ne_callB call_len lenN (b_len hB) (na_cons (ne_var 1) na_nil))))
    nss_nil)
    (nss_one (ns_ret (ne_tup (na_cons (ne_var 2) (na_cons (ne_var 4) na_nil)))))))))))
abbrev s__law_place_of : Stmt := topS 29
abbrev N__law_place_of : List Str := ["_law_caught"]
theorem sc__law_place_of : FnScope N__law_place_of ["_law_caught"] (defScope s__law_place_of) := ⟨rfl, rfl, rfl, by decide +kernel, rfl, by decide +kernel, by decide +kernel⟩
noncomputable def m__law_place_of : MF := runD 1 (sSeq (sIf (tOrM (tNotM (mT (m1 (gIsOwn errTb "NoText") (mVar 0)))) (tOrM (tNotM (mT (m1 (gIsOwn errTb "ValueError") (mVar 0)))) (mT (m1 (gIsi "bool") (m1 (gXF errTb "at") (mVar 0))))))
  (sRet (mC (.str "other")))
  sNil)
  (sSeq (sIf (mT (m1 (gIsOwns errTb ["Forgotten", "NoBorder", "NoDancer", "NoDeed", "NoForm", "NoName", "NoNumber", "NoOrder", "NoStand"]) (mVar 0)))
  (sRet (mC (.str "other")))
  sNil)
  (sRet (mIf (mT (m1 (gIsOwns errTb ["Nothing", "Taken", "TooMany"]) (mVar 0))) (mC (.str "other")) (m1 (gXF errTb "at") (mVar 0))))))
theorem ok__law_place_of (hB : Blts mg) (hG : Globs mg K) (h : DefAt K mg "_law_place_of" s__law_place_of ["_law_caught"]) (o_NoText : OwnK K mg errTb "NoText") (o_E : ∀ c as, errTb.lookup c = some as → ∀ C : Addr, PySem.W.nsIn K mainGlobals c = some (some (.ref C)) → ExcC K C) (o_ValueError : OwnK K mg errTb "ValueError") (n_at : NoFld K errTb "at") (o_Forgotten : OwnK K mg errTb "Forgotten") (o_NoBorder : OwnK K mg errTb "NoBorder") (o_NoDancer : OwnK K mg errTb "NoDancer") (o_NoDeed : OwnK K mg errTb "NoDeed") (o_NoForm : OwnK K mg errTb "NoForm") (o_NoName : OwnK K mg errTb "NoName") (o_NoNumber : OwnK K mg errTb "NoNumber") (o_NoOrder : OwnK K mg errTb "NoOrder") (o_NoStand : OwnK K mg errTb "NoStand") (o_Nothing : OwnK K mg errTb "Nothing") (o_Taken : OwnK K mg errTb "Taken") (o_TooMany : OwnK K mg errTb "TooMany") : Cal P w K mg base "_law_place_of" 1 1 m__law_place_of := by
  have hN := sc__law_place_of.nd
  exact Cal.of (k := 0) h sc__law_place_of fun f cdv A outer s H E hr hgd => (nss_cons (ns_if (nt_w (nw_or (nt_not (nt_val (ne_isOwnX (ownX_of o_E o_NoText) (b_isinstance hB) (ne_var 0)))) (nw_or (nt_not (nt_val (ne_isOwnX (ownX_of o_E o_ValueError) (b_isinstance hB) (ne_var 0)))) (nw_or1 (nt_val (ne_isi (b_isinstance hB) (b_bool hB) boot_bool (by decide) (ne_excF o_E n_at (ne_var 0))))))))
    (nss_one (ns_ret ne_str))
    nss_nil)
    (nss_cons (ns_if (nt_val (ne_isOwnsX (.cons (ownX_of o_E o_Forgotten) (.cons (ownX_of o_E o_NoBorder) (.cons (ownX_of o_E o_NoDancer) (.cons (ownX_of o_E o_NoDeed) (.cons (ownX_of o_E o_NoForm) (.cons (ownX_of o_E o_NoName) (.cons (ownX_of o_E o_NoNumber) (.cons (ownX_of o_E o_NoOrder) (.cons (ownX_of o_E o_NoStand) .nil))))))))) o_E (b_isinstance hB) (ne_var 0)))
    (nss_one (ns_ret ne_str))
    nss_nil)
    (nss_one (ns_ret (ne_if (nt_val (ne_isOwnsX (.cons (ownX_of o_E o_Nothing) (.cons (ownX_of o_E o_Taken) (.cons (ownX_of o_E o_TooMany) .nil))) o_E (b_isinstance hB) (ne_var 0))) ne_str (ne_excF o_E n_at (ne_var 0)))))))
theorem okQ__law_place_of (hB : Blts mg) (hG : Globs mg K) (h : DefAt K mg "_law_place_of" s__law_place_of ["_law_caught"]) (o_NoText : OwnK K mg errTb "NoText") (o_E : ∀ c as, errTb.lookup c = some as → ∀ C : Addr, PySem.W.nsIn K mainGlobals c = some (some (.ref C)) → ExcC K C) (o_ValueError : OwnK K mg errTb "ValueError") (n_at : NoFld K errTb "at") (o_Forgotten : OwnK K mg errTb "Forgotten") (o_NoBorder : OwnK K mg errTb "NoBorder") (o_NoDancer : OwnK K mg errTb "NoDancer") (o_NoDeed : OwnK K mg errTb "NoDeed") (o_NoForm : OwnK K mg errTb "NoForm") (o_NoName : OwnK K mg errTb "NoName") (o_NoNumber : OwnK K mg errTb "NoNumber") (o_NoOrder : OwnK K mg errTb "NoOrder") (o_NoStand : OwnK K mg errTb "NoStand") (o_Nothing : OwnK K mg errTb "Nothing") (o_Taken : OwnK K mg errTb "Taken") (o_TooMany : OwnK K mg errTb "TooMany") : CalQ P w K mg base "_law_place_of" 1 1 m__law_place_of := by
  have hN := sc__law_place_of.nd
  exact CalQ.of (k := 0) h sc__law_place_of fun f cdv A outer s H E hr => (nss_cons (ns_if (nt_w (nw_or (nt_not (nt_val (ne_isOwnX (ownX_of o_E o_NoText) (b_isinstance hB) (ne_var 0)))) (nw_or (nt_not (nt_val (ne_isOwnX (ownX_of o_E o_ValueError) (b_isinstance hB) (ne_var 0)))) (nw_or1 (nt_val (ne_isi (b_isinstance hB) (b_bool hB) boot_bool (by decide) (ne_excF o_E n_at (ne_var 0))))))))
    (nss_one (ns_ret ne_str))
    nss_nil)
    (nss_cons (ns_if (nt_val (ne_isOwnsX (.cons (ownX_of o_E o_Forgotten) (.cons (ownX_of o_E o_NoBorder) (.cons (ownX_of o_E o_NoDancer) (.cons (ownX_of o_E o_NoDeed) (.cons (ownX_of o_E o_NoForm) (.cons (ownX_of o_E o_NoName) (.cons (ownX_of o_E o_NoNumber) (.cons (ownX_of o_E o_NoOrder) (.cons (ownX_of o_E o_NoStand) .nil))))))))) o_E (b_isinstance hB) (ne_var 0)))
    (nss_one (ns_ret ne_str))
    nss_nil)
    (nss_one (ns_ret (ne_if (nt_val (ne_isOwnsX (.cons (ownX_of o_E o_Nothing) (.cons (ownX_of o_E o_Taken) (.cons (ownX_of o_E o_TooMany) .nil))) o_E (b_isinstance hB) (ne_var 0))) ne_str (ne_excF o_E n_at (ne_var 0)))))))
abbrev s__law_asked : Stmt := topS 33
abbrev N__law_asked : List Str := ["_law_what", "_law_found", "e"]
theorem sc__law_asked : FnScope N__law_asked ["_law_what"] (defScope s__law_asked) := ⟨rfl, rfl, rfl, by decide +kernel, rfl, by decide +kernel, by decide +kernel⟩
noncomputable def m__law_asked : MF := runD 3 (sSeq (sAsg (mC .non) (gmN 1))
  (sSeq (sTry (sAsg (mF 1 m_read_stand (aCons (mVar 0) aNil)) (gmN 1)) (hmHot ["NoText"] 2 (sAsg (mF 1 m__law_place_of (aCons (mVar 2) aNil)) (gmN 1))))
  (sRet (mVar 1))))
theorem ok__law_asked (hB : Blts mg) (hG : Globs mg K) (h : DefAt K mg "_law_asked" s__law_asked ["_law_what"]) (c_read_stand : Cal P w K mg base "read_stand" 4 1 m_read_stand) (c__law_place_of : Cal P w K mg base "_law_place_of" 1 1 m__law_place_of) (kp_RingError : KeepX K mg "RingError" ["NoText"]) (cQ__law_place_of : CalQ P w K mg base "_law_place_of" 1 1 m__law_place_of) : Cal P w K mg base "_law_asked" 5 1 m__law_asked := by
  have hN := sc__law_asked.nd
  exact Cal.of (k := 4) h sc__law_asked fun f cdv A outer s H E hr hgd => (nss_cons (ns_set 1 hN rfl (.inl rfl) ne_non)
    (nss_cons (ns_try_hot 2 ["NoText"] kp_RingError rfl rfl hN rfl rfl rfl (fun W pn xe tk => (nssx_one (nsx_set 1 hN rfl (.inl rfl) (nex_cal c_read_stand (hr.mono (by omega)) hgd tk (na_cons (ne_var 0) na_nil))))) (fun a pn => (nss_one (ns_set 1 hN rfl (.inl rfl) (ne_calQ cQ__law_place_of (roomQ hr (by omega)) pass_suite (na_cons (ne_var 2) na_nil))))))
    (nss_one (ns_ret (ne_var 1)))))
abbrev s__law_figures : Stmt := topS 30
abbrev N__law_figures : List Str := ["_law_word", "_law_sign"]
theorem sc__law_figures : FnScope N__law_figures ["_law_word"] (defScope s__law_figures) := ⟨rfl, rfl, rfl, by decide +kernel, rfl, by decide +kernel, by decide +kernel⟩
noncomputable def m__law_figures : MF := runD 2 (sSeq (sIf (tOrM (mT (m2 gEq (mVar 0) (mC (.str "")))) (mT (m2 gNe (mLc false [1] (iStrD (mVar 0)) (gmN 1) (tOrM (mT (m2 gLtS (mVar 1) (mC (.str "0")))) (mT (m2 gGtS (mVar 1) (mC (.str "9"))))) (mVar 1)) (mLst false aNil))))
  (sRet (mC (.bl false)))
  sNil)
  (sRet (mOr (m2 gNe (m2 gIx (mVar 0) (mC (.int 0))) (mC (.str "0"))) (m2 gEq (mVar 0) (mC (.str "0"))))))
theorem ok__law_figures (hB : Blts mg) (hG : Globs mg K) (h : DefAt K mg "_law_figures" s__law_figures ["_law_word"]) : Cal P w K mg base "_law_figures" 1 1 m__law_figures := by
  have hN := sc__law_figures.nd
  exact Cal.of (k := 0) h sc__law_figures fun f cdv A outer s H E hr hgd => (nss_cons (ns_if (nt_w (nw_or (nt_cmp (op_eqE hr.units) eqN (ne_var 0) ne_str (nomark _)) (nw_or1 (nt_cmp (op_neE hr.units) neN (ne_lc (own := [("_law_sign", 1)]) rfl hN (ni_str (ne_var 0)) (blkOk_by (N := N__law_figures) (sc := defScope s__law_figures) (by decide +kernel)) (fun _ _ _ _ _ => (ng_name (own := [1]) 1 (by decide) hN rfl (.inl rfl))) (fun _ _ _ _ _ => (nts_one (nt_w (nw_or (nt_cmp op_lt_str ltSN (ne_var 1) ne_str (nomark _)) (nw_or1 (nt_cmp op_gt_str gtSN (ne_var 1) ne_str (nomark _))))))) (fun _ _ _ _ _ => (ne_var 1))) (ne_lst na_nil) (nomark _)))))
    (nss_one (ns_ret ne_bl))
    nss_nil)
    (nss_one (ns_ret (ne_or (ne_cmp (op_neE hr.units) neN (ne_ix (ne_var 0) ne_int) ne_str (nomark _)) (ne_one (ne_cmp (op_eqE hr.units) eqN (ne_var 0) ne_str (nomark _)))))))
abbrev s__law_begins : Stmt := topS 31
abbrev N__law_begins : List Str := ["_law_parts", "_law_bar", "_law_k", "_law_word"]
theorem sc__law_begins : FnScope N__law_begins ["_law_parts"] (defScope s__law_begins) := ⟨rfl, rfl, rfl, by decide +kernel, rfl, by decide +kernel, by decide +kernel⟩
noncomputable def m__law_begins : MF := runD 4 (sSeq (sAsg (mIf (mT (m2 (gIn false) (mC (.str "|")) (mVar 0))) (mMt isL gIndex (mVar 0) (aCons (mC (.str "|")) aNil)) (mCB (on1 gLen) (aCons (mVar 0) aNil))) (gmN 1))
  (sSeq (sFor (iRg1 (aCons (mVar 1) aNil)) (gmN 2)
  (sIf (tOrM (tNotM (mT (mF 1 m__law_figures (aCons (m2 gIx (mVar 0) (mVar 2)) aNil)))) (mT (m2 gLt (mCB (on1 gInt) (aCons (m2 gIx (mVar 0) (mVar 2)) aNil)) (m2 (gAdd false) (mVar 2) (mC (.int 1))))))
  (sRet (mC (.bl false)))
  sNil))
  (sSeq (sIf (mT (m2 gEq (mVar 1) (mCB (on1 gLen) (aCons (mVar 0) aNil))))
  (sRet (mC (.bl true)))
  sNil)
  (sSeq (sIf (tOrM (mT (m2 gLt (mVar 1) (mC (.int 2)))) (tOrM (mT (m2 gGt (mCB (on1 gMaxL) (aCons (mLc false [3] (iLst (mSl false (mVar 0) oNone (oSome (mVar 1)))) (gmN 3) tTrue (mCB (on1 gInt) (aCons (mVar 3) aNil))) aNil)) (mVar 1))) (mT (m2 gGt (mCB (on1 gLen) (aCons (mVar 0) aNil)) (m2 (gAdd false) (m2 gMul (mC (.int 2)) (mVar 1)) (mC (.int 1)))))))
  (sRet (mC (.bl false)))
  sNil)
  (sSeq (sFor (iRg2 (aCons (m2 (gAdd false) (mVar 1) (mC (.int 1))) (aCons (mCB (on1 gLen) (aCons (mVar 0) aNil)) aNil))) (gmN 2)
  (sIf (tOrM (tNotM (mT (mF 1 m__law_figures (aCons (m2 gIx (mVar 0) (mVar 2)) aNil)))) (mT (m2 gGt (mCB (on1 gInt) (aCons (m2 gIx (mVar 0) (mVar 2)) aNil)) (m2 gSub (m2 gSub (mVar 2) (mVar 1)) (mC (.int 1))))))
  (sRet (mC (.bl false)))
  sNil))
  (sRet (mC (.bl true))))))))
theorem ok__law_begins (hB : Blts mg) (hG : Globs mg K) (h : DefAt K mg "_law_begins" s__law_begins ["_law_parts"]) (c__law_figures : Cal P w K mg base "_law_figures" 1 1 m__law_figures) : Cal P w K mg base "_law_begins" 2 1 m__law_begins := by
  have hN := sc__law_begins.nd
  exact Cal.of (k := 1) h sc__law_begins fun f cdv A outer s H E hr hgd => (nss_cons (ns_set 1 hN rfl (.inl rfl) (ne_if (nt_cmp op_in_seq inN ne_str (ne_var 0) (by rfl)) (ne_mt PySem.F.plainAttrs_list PySem.F.slot_list_index PySem.F.type_list_index mt_index chk_list indexN (ne_var 0) (na_cons ne_str na_nil)) (ne_callB call_len lenN (b_len hB) (na_cons (ne_var 0) na_nil))))
    (nss_cons (ns_for own_cx rfl (ni_range1 (b_range hB) (na_cons (ne_var 1) na_nil)) (ng_name (own := [2]) 2 (by decide) hN rfl (.inl rfl))
    (nss_one (ns_if (nt_w (nw_or (nt_not (nt_val (ne_cal c__law_figures (hr.mono (by omega)) hgd pass_cx (na_cons (ne_ix (ne_var 0) (ne_var 2)) na_nil)))) (nw_or1 (nt_cmp op_lt ltN (ne_callTy call_int3 intN (b_int hB) (na_cons (ne_ix (ne_var 0) (ne_var 2)) na_nil)) (ne_op op_addA addN (ne_var 2) ne_int) (nomark _)))))
    (nss_one (ns_ret ne_bl))
    nss_nil)))
    (nss_cons (ns_if (nt_cmp (op_eqE hr.units) eqN (ne_var 1) (ne_callB call_len lenN (b_len hB) (na_cons (ne_var 0) na_nil)) (nomark _))
    (nss_one (ns_ret ne_bl))
    nss_nil)
    (nss_cons (ns_if (nt_w (nw_or (nt_cmp op_lt ltN (ne_var 1) ne_int (nomark _)) (nw_or (nt_cmp op_gt gtN (ne_callB (cr_max rfl) maxLN (b_max hB) (na_cons (ne_lc (own := [("_law_word", 3)]) rfl hN (ni_list (ne_sl (ne_var 0) no_none (no_some (ne_var 1)))) (blkOk_by (N := N__law_begins) (sc := defScope s__law_begins) (by decide +kernel)) (fun _ _ _ _ _ => (ng_name (own := [3]) 3 (by decide) hN rfl (.inl rfl))) (fun _ _ _ _ _ => nts_nil) (fun _ _ _ _ _ => (ne_callTy call_int3 intN (b_int hB) (na_cons (ne_var 3) na_nil)))) na_nil)) (ne_var 1) (nomark _)) (nw_or1 (nt_cmp op_gt gtN (ne_callB call_len lenN (b_len hB) (na_cons (ne_var 0) na_nil)) (ne_op op_addA addN (ne_op op_mulA mulN ne_int (ne_var 1)) ne_int) (nomark _))))))
    (nss_one (ns_ret ne_bl))
    nss_nil)
    (nss_cons (ns_for own_cx rfl (ni_range2 (b_range hB) (na_cons (ne_op op_addA addN (ne_var 1) ne_int) (na_cons (ne_callB call_len lenN (b_len hB) (na_cons (ne_var 0) na_nil)) na_nil))) (ng_name (own := [2]) 2 (by decide) hN rfl (.inl rfl))
    (nss_one (ns_if (nt_w (nw_or (nt_not (nt_val (ne_cal c__law_figures (hr.mono (by omega)) hgd pass_cx (na_cons (ne_ix (ne_var 0) (ne_var 2)) na_nil)))) (nw_or1 (nt_cmp op_gt gtN (ne_callTy call_int3 intN (b_int hB) (na_cons (ne_ix (ne_var 0) (ne_var 2)) na_nil)) (ne_op op_sub subN (ne_op op_sub subN (ne_var 2) (ne_var 1)) ne_int) (nomark _)))))
    (nss_one (ns_ret ne_bl))
    nss_nil)))
    (nss_one (ns_ret ne_bl)))))))
abbrev s__law_due : Stmt := topS 32
abbrev N__law_due : List Str := ["_law_line", "_law_parts", "_law_many", "_law_bar", "_law_word"]
theorem sc__law_due : FnScope N__law_due ["_law_line"] (defScope s__law_due) := ⟨rfl, rfl, rfl, by decide +kernel, rfl, by decide +kernel, by decide +kernel⟩
noncomputable def m__law_due : MF := runD 5 (sSeq (sAsg (mSplit false (mVar 0) (mC (.str " "))) (gmN 1))
  (sSeq (sFor (iRg2 (aCons (mC (.int 1)) (aCons (m2 (gAdd false) (mCB (on1 gLen) (aCons (mVar 1) aNil)) (mC (.int 1))) aNil))) (gmN 2)
  (sIf (tNotM (mT (mF 1 m__law_begins (aCons (mSl false (mVar 1) oNone (oSome (mVar 2))) aNil))))
  (sRet (m2 gSub (mVar 2) (mC (.int 1))))
  sNil))
  (sSeq (sIf (tOrM (mT (m2 (gIn true) (mC (.str "|")) (mVar 1))) (mT (m2 gLt (mCB (on1 gLen) (aCons (mVar 1) aNil)) (m2 (gAdd false) (m2 gMul (mC (.int 2)) (mMt isL gIndex (mVar 1) (aCons (mC (.str "|")) aNil))) (mC (.int 1))))))
  (sRet (mCB (on1 gLen) (aCons (mVar 1) aNil)))
  sNil)
  (sSeq (sAsg (mMt isL gIndex (mVar 1) (aCons (mC (.str "|")) aNil)) (gmN 3))
  (sRet (mTup (aCons (mLc true [4] (iLst (mSl false (mVar 1) oNone (oSome (mVar 3)))) (gmN 4) tTrue (mCB (on1 gInt) (aCons (mVar 4) aNil))) (aCons (mLc true [4] (iLst (mSl false (mVar 1) (oSome (m2 (gAdd false) (mVar 3) (mC (.int 1)))) oNone)) (gmN 4) tTrue (mCB (on1 gInt) (aCons (mVar 4) aNil))) aNil))))))))
theorem ok__law_due (hB : Blts mg) (hG : Globs mg K) (h : DefAt K mg "_law_due" s__law_due ["_law_line"]) (c__law_begins : Cal P w K mg base "_law_begins" 2 1 m__law_begins) : Cal P w K mg base "_law_due" 3 1 m__law_due := by
  have hN := sc__law_due.nd
  exact Cal.of (k := 2) h sc__law_due fun f cdv A outer s H E hr hgd => (nss_cons (ns_set 1 hN rfl (.inl rfl) (ne_split (ne_var 0) ne_str))
    (nss_cons (ns_for own_cx rfl (ni_range2 (b_range hB) (na_cons ne_int (na_cons (ne_op op_addA addN (ne_callB call_len lenN (b_len hB) (na_cons (ne_var 1) na_nil)) ne_int) na_nil))) (ng_name (own := [2]) 2 (by decide) hN rfl (.inl rfl))
    (nss_one (ns_if (nt_not (nt_val (ne_cal c__law_begins (hr.mono (by omega)) hgd pass_cx (na_cons (ne_sl (ne_var 1) no_none (no_some (ne_var 2))) na_nil))))
    (nss_one (ns_ret (ne_op op_sub subN (ne_var 2) ne_int)))
    nss_nil)))
    (nss_cons (ns_if (nt_w (nw_or (nt_cmp op_notIn_seq inN ne_str (ne_var 1) (by rfl)) (nw_or1 (nt_cmp op_lt ltN (ne_callB call_len lenN (b_len hB) (na_cons (ne_var 1) na_nil)) (ne_op op_addA addN (ne_op op_mulA mulN ne_int (ne_mt PySem.F.plainAttrs_list PySem.F.slot_list_index PySem.F.type_list_index mt_index chk_list indexN (ne_var 1) (na_cons ne_str na_nil))) ne_int) (nomark _)))))
    (nss_one (ns_ret (ne_callB call_len lenN (b_len hB) (na_cons (ne_var 1) na_nil))))
    nss_nil)
    (nss_cons (ns_set 3 hN rfl (.inl rfl) (ne_mt PySem.F.plainAttrs_list PySem.F.slot_list_index PySem.F.type_list_index mt_index chk_list indexN (ne_var 1) (na_cons ne_str na_nil)))
    (nss_one (ns_ret (ne_tup (na_cons (ne_lc (own := [("_law_word", 4)]) rfl hN (ni_list (ne_sl (ne_var 1) no_none (no_some (ne_var 3)))) (blkOk_by (N := N__law_due) (sc := defScope s__law_due) (by decide +kernel)) (fun _ _ _ _ _ => (ng_name (own := [4]) 4 (by decide) hN rfl (.inl rfl))) (fun _ _ _ _ _ => nts_nil) (fun _ _ _ _ _ => (ne_callTy call_int3 intN (b_int hB) (na_cons (ne_var 4) na_nil)))) (na_cons (ne_lc (own := [("_law_word", 4)]) rfl hN (ni_list (ne_sl (ne_var 1) (no_some (ne_op op_addA addN (ne_var 3) ne_int)) no_none)) (blkOk_by (N := N__law_due) (sc := defScope s__law_due) (by decide +kernel)) (fun _ _ _ _ _ => (ng_name (own := [4]) 4 (by decide) hN rfl (.inl rfl))) (fun _ _ _ _ _ => nts_nil) (fun _ _ _ _ _ => (ne_callTy call_int3 intN (b_int hB) (na_cons (ne_var 4) na_nil)))) na_nil)))))))))
abbrev s__law_deed_done : Stmt := topS 25
abbrev N__law_deed_done : List Str := ["_law_rights", "_law_lefts", "_law_kind", "_law_dancer", "_law_one", "_law_other"]
theorem sc__law_deed_done : FnScope N__law_deed_done ["_law_rights", "_law_lefts", "_law_kind", "_law_dancer"] (defScope s__law_deed_done) := ⟨rfl, rfl, rfl, by decide +kernel, rfl, by decide +kernel, by decide +kernel⟩
noncomputable def m__law_deed_done : MF := runD 6 (sSeq (sPar 4 5 (aCons (m2 gIx (mVar 1) (m2 gSub (mVar 3) (mC (.int 1)))) (aCons (m2 gIx (mVar 0) (mVar 3)) aNil)))
  (sSeq (sAsg (mIf (mT (m2 gEq (mVar 2) (mC (.str "go")))) (mVar 5) (mVar 3)) (gmSub (mVar 0) (mVar 4)))
  (sAsg (mIf (mT (m2 gEq (mVar 2) (mC (.str "go")))) (mVar 4) (mVar 3)) (gmSub (mVar 1) (m2 gSub (mVar 5) (mC (.int 1)))))))
theorem ok__law_deed_done (hB : Blts mg) (hG : Globs mg K) (h : DefAt K mg "_law_deed_done" s__law_deed_done ["_law_rights", "_law_lefts", "_law_kind", "_law_dancer"]) : Cal P w K mg base "_law_deed_done" 1 4 m__law_deed_done := by
  have hN := sc__law_deed_done.nd
  exact Cal.of (k := 0) h sc__law_deed_done fun f cdv A outer s H E hr hgd => (nss_cons (ns_par 4 5 rfl hN rfl rfl (by decide) rfl rfl (na_cons (ne_ix (ne_var 1) (ne_op op_sub subN (ne_var 3) ne_int)) (na_cons (ne_ix (ne_var 0) (ne_var 3)) na_nil)) (by rfl))
    (nss_cons (ns_asg (ne_if (nt_cmp (op_eqE hr.units) eqN (ne_var 2) ne_str (nomark _)) (ne_var 5) (ne_var 3)) (ng_sub (own := []) (ne_var 0) (ne_var 4)))
    (nss_one (ns_asg (ne_if (nt_cmp (op_eqE hr.units) eqN (ne_var 2) ne_str (nomark _)) (ne_var 4) (ne_var 3)) (ng_sub (own := []) (ne_var 1) (ne_op op_sub subN (ne_var 5) ne_int))))))
abbrev s__law_hands : Stmt := topS 26
abbrev N__law_hands : List Str := ["_law_sack_here", "_law_most", "_law_low", "_law_many", "_law_style", "_law_rights", "_law_lefts", "_law_k", "_law_lap"]
theorem sc__law_hands : FnScope N__law_hands ["_law_sack_here", "_law_most"] (defScope s__law_hands) := ⟨rfl, rfl, rfl, by decide +kernel, rfl, by decide +kernel, by decide +kernel⟩
noncomputable def m__law_hands : MF := runD 9 (sSeq (sAsg (mIf (mT (m2 gEq (mVar 1) (mC (.int 3)))) (mC (.int 2)) (mC (.int 1))) (gmN 2))
  (sSeq (sAsg (m2 (gAdd false) (mVar 2) (mF 2 m__law_take (aCons (mVar 0) (aCons (m2 gSub (m2 (gAdd false) (mCB (on2 gMin2) (aCons (mVar 1) (aCons (m2 gIx (mLst false (aCons (mC (.int 3)) (aCons (mC (.int 8)) (aCons (mC (.int 40)) (aCons (mC (.int 200)) aNil))))) (mF 2 m__law_take (aCons (mVar 0) (aCons (mC (.int 4)) aNil)))) aNil))) (mC (.int 1))) (mVar 2)) aNil)))) (gmN 3))
  (sSeq (sAsg (mF 2 m__law_take (aCons (mVar 0) (aCons (mC (.int 3)) aNil))) (gmN 4))
  (sSeq (sPar 5 6 (aCons (m2 (gRg true) (mC (.int 1)) (m2 (gAdd false) (mVar 3) (mC (.int 2)))) (aCons (m1 (gRg true (.int 0)) (m2 (gAdd false) (mVar 3) (mC (.int 1)))) aNil)))
  (sSeq (sFor (iRg1 (aCons (m2 (gAdd false) (mVar 3) (mC (.int 1))) aNil)) (gmN 7)
  (sIf (tOrM (mT (m2 gEq (mVar 4) (mC (.int 0)))) (tAndM (mT (m2 gEq (mVar 4) (mC (.int 1)))) (mT (m2 gEq (mF 2 m__law_take (aCons (mVar 0) (aCons (mC (.int 4)) aNil))) (mC (.int 0))))))
  (sSeq (sAsg (m2 (gAdd false) (m2 (gAdd false) (mVar 7) (mC (.int 1))) (mF 2 m__law_take (aCons (mVar 0) (aCons (m2 gSub (m2 (gAdd false) (mVar 3) (mC (.int 1))) (mVar 7)) aNil)))) (gmSub (mVar 5) (mVar 7)))
  (sAsg (m2 gSub (mVar 7) (mF 2 m__law_take (aCons (mVar 0) (aCons (m2 (gAdd false) (mVar 7) (mC (.int 1))) aNil)))) (gmSub (mVar 6) (mVar 7))))
  sNil))
  (sSeq (sFor (iRg1 (aCons (m2 gMul (mF 2 m__law_take (aCons (mVar 0) (aCons (m2 (gAdd false) (m2 gMul (mC (.int 2)) (mVar 3)) (mC (.int 1))) aNil))) (mCB (on1 gInt) (aCons (m2 gEq (mVar 4) (mC (.int 2))) aNil))) aNil)) (gmN 8)
  (sDrop (mF 4 m__law_deed_done (aCons (mVar 5) (aCons (mVar 6) (aCons (m2 gIx (mLst false (aCons (mC (.str "go")) (aCons (mC (.str "go")) (aCons (mC (.str "come")) aNil)))) (mF 2 m__law_take (aCons (mVar 0) (aCons (mC (.int 3)) aNil)))) (aCons (m2 (gAdd false) (mC (.int 1)) (mF 2 m__law_take (aCons (mVar 0) (aCons (mVar 3) aNil)))) aNil)))))))
  (sRet (mTup (aCons (mVar 5) (aCons (mVar 6) aNil))))))))))
theorem ok__law_hands (hB : Blts mg) (hG : Globs mg K) (h : DefAt K mg "_law_hands" s__law_hands ["_law_sack_here", "_law_most"]) (c__law_take : Cal P w K mg base "_law_take" 1 2 m__law_take) (c__law_deed_done : Cal P w K mg base "_law_deed_done" 1 4 m__law_deed_done) : Cal P w K mg base "_law_hands" 2 2 m__law_hands := by
  have hN := sc__law_hands.nd
  exact Cal.of (k := 1) h sc__law_hands fun f cdv A outer s H E hr hgd => (nss_cons (ns_set 2 hN rfl (.inl rfl) (ne_if (nt_cmp (op_eqE hr.units) eqN (ne_var 1) ne_int (nomark _)) ne_int ne_int))
    (nss_cons (ns_set 3 hN rfl (.inl rfl) (ne_op op_addA addN (ne_var 2) (ne_cal c__law_take (hr.mono (by omega)) hgd pass_cx (na_cons (ne_var 0) (na_cons (ne_op op_sub subN (ne_op op_addA addN (ne_callB (call_min2 rfl) min2N (b_min hB) (na_cons (ne_var 1) (na_cons (ne_ix (ne_lst (na_cons ne_int (na_cons ne_int (na_cons ne_int (na_cons ne_int na_nil))))) (ne_cal c__law_take (hr.mono (by omega)) hgd pass_cx (na_cons (ne_var 0) (na_cons ne_int na_nil)))) na_nil))) ne_int) (ne_var 2)) na_nil)))))
    (nss_cons (ns_set 4 hN rfl (.inl rfl) (ne_cal c__law_take (hr.mono (by omega)) hgd pass_cx (na_cons (ne_var 0) (na_cons ne_int na_nil))))
    (nss_cons (ns_par 5 6 rfl hN rfl rfl (by decide) rfl rfl (na_cons (ne_listRg2 rfl (b_list hB) (b_range hB) ne_int (ne_op op_addA addN (ne_var 3) ne_int)) (na_cons (ne_listRg1 rfl (b_list hB) (b_range hB) (ne_op op_addA addN (ne_var 3) ne_int)) na_nil)) (by rfl))
    (nss_cons (ns_for own_cx rfl (ni_range1 (b_range hB) (na_cons (ne_op op_addA addN (ne_var 3) ne_int) na_nil)) (ng_name (own := [7]) 7 (by decide) hN rfl (.inl rfl))
    (nss_one (ns_if (nt_w (nw_or (nt_cmp (op_eqE hr.units) eqN (ne_var 4) ne_int (nomark _)) (nw_or1 (nt_w (nw_and (nt_cmp (op_eqE hr.units) eqN (ne_var 4) ne_int (nomark _)) (nw_and1 (nt_cmp (op_eqE hr.units) eqN (ne_cal c__law_take (hr.mono (by omega)) hgd pass_cx (na_cons (ne_var 0) (na_cons ne_int na_nil))) ne_int (nomark _))))))))
    (nss_cons (ns_asg (ne_op op_addA addN (ne_op op_addA addN (ne_var 7) ne_int) (ne_cal c__law_take (hr.mono (by omega)) hgd pass_cx (na_cons (ne_var 0) (na_cons (ne_op op_sub subN (ne_op op_addA addN (ne_var 3) ne_int) (ne_var 7)) na_nil)))) (ng_sub (own := []) (ne_var 5) (ne_var 7)))
    (nss_one (ns_asg (ne_op op_sub subN (ne_var 7) (ne_cal c__law_take (hr.mono (by omega)) hgd pass_cx (na_cons (ne_var 0) (na_cons (ne_op op_addA addN (ne_var 7) ne_int) na_nil)))) (ng_sub (own := []) (ne_var 6) (ne_var 7)))))
    nss_nil)))
    (nss_cons (ns_for own_cx rfl (ni_range1 (b_range hB) (na_cons (ne_op op_mulA mulN (ne_cal c__law_take (hr.mono (by omega)) hgd pass_cx (na_cons (ne_var 0) (na_cons (ne_op op_addA addN (ne_op op_mulA mulN ne_int (ne_var 3)) ne_int) na_nil))) (ne_callTy call_int3 intN (b_int hB) (na_cons (ne_cmp (op_eqE hr.units) eqN (ne_var 4) ne_int (nomark _)) na_nil))) na_nil)) (ng_name (own := [8]) 8 (by decide) hN rfl (.inl rfl))
    (nss_one (ns_expr (ne_cal c__law_deed_done (hr.mono (by omega)) hgd pass_cx (na_cons (ne_var 5) (na_cons (ne_var 6) (na_cons (ne_ix (ne_lst (na_cons ne_str (na_cons ne_str (na_cons ne_str na_nil)))) (ne_cal c__law_take (hr.mono (by omega)) hgd pass_cx (na_cons (ne_var 0) (na_cons ne_int na_nil)))) (na_cons (ne_op op_addA addN ne_int (ne_cal c__law_take (hr.mono (by omega)) hgd pass_cx (na_cons (ne_var 0) (na_cons (ne_var 3) na_nil)))) na_nil))))))))
    (nss_one (ns_ret (ne_tup (na_cons (ne_var 5) (na_cons (ne_var 6) na_nil)))))))))))
abbrev s__law_right : Stmt := topS 34
abbrev N__law_right : List Str := ["_law_sack_here", "_law_most", "_law_line", "_law_signs", "_law_lap", "_law_odd", "_law_hands_here", "_law_who"]
theorem sc__law_right : FnScope N__law_right ["_law_sack_here", "_law_most"] (defScope s__law_right) := ⟨rfl, rfl, rfl, by decide +kernel, rfl, by decide +kernel, by decide +kernel⟩
noncomputable def m__law_right : MF := runD 8 (sSeq (sAsg (mJoin (mC (.str " | ")) (mLc false [6] (iTp (mFz 2 (mF 2 m__law_hands (aCons (mVar 0) (aCons (mCB (on2 gMin2) (aCons (mVar 1) (aCons (mC (.int 8)) aNil))) aNil))))) (gmN 6) tTrue (mJoin (mC (.str " ")) (mLc false [7] (iLst (mVar 6)) (gmN 7) tTrue (mCB (on1 gStr) (aCons (mVar 7) aNil)))))) (gmN 2))
  (sSeq (sAsg (mLst false (aCons (mC (.str "0")) (aCons (mC (.str "1")) (aCons (mC (.str "2")) (aCons (mC (.str "3")) (aCons (mC (.str "9")) (aCons (mC (.str "03")) (aCons (mC (.str "|")) (aCons (mC (.str "")) (aCons (mC (.str "12")) (aCons (mC (.str "x")) (aCons (mC (.str "-1")) (aCons (mC (.str "||")) (aCons (mC (.str "1|")) (aCons (mC (.str "00")) (aCons (mC (.str "5,")) (aCons (mC (.str "\n")) aNil))))))))))))))))) (gmN 3))
  (sSeq (sFor (iRg1 (aCons (mF 2 m__law_take (aCons (mVar 0) (aCons (mC (.int 4)) aNil))) aNil)) (gmN 4)
  (sAsg (mFz 2 (mF 3 m__law_marred (aCons (mVar 0) (aCons (mVar 2) (aCons (mVar 3) aNil))))) (gmN 2)))
  (sSeq (sAsg (mSl false (mVar 2) oNone (oSome (mC (.int 300)))) (gmN 2))
  (sSeq (sIf (tNotM (mT (mF 2 (m__law_same 4) (aCons (mFz 2 (mF 1 m__law_asked (aCons (mVar 2) aNil))) (aCons (mFz 2 (mF 1 m__law_due (aCons (mVar 2) aNil))) aNil)))))
  (sRet (mC (.bl false)))
  sNil)
  (sSeq (sAsg (m2 gIx (mLst false (aCons (mC .non) (aCons (mC (.int 5)) (aCons (mLst false aNil) (aCons (mLst false (aCons (mC (.str "1 2 | 0 1")) aNil)) (aCons (mTup (aCons (mLst false (aCons (mC (.int 1)) (aCons (mC (.int 2)) aNil))) (aCons (mLst false (aCons (mC (.int 0)) (aCons (mC (.int 1)) aNil))) aNil))) (aCons (mC (.bl true)) (aCons mDEmp aNil)))))))) (mF 2 m__law_take (aCons (mVar 0) (aCons (mC (.int 7)) aNil)))) (gmN 5))
  (sRet (m2 gIs (mFz 2 (mF 1 m__law_asked (aCons (mVar 5) aNil))) (mC .non)))))))))
theorem ok__law_right (hB : Blts mg) (hG : Globs mg K) (h : DefAt K mg "_law_right" s__law_right ["_law_sack_here", "_law_most"]) (c__law_take : Cal P w K mg base "_law_take" 1 2 m__law_take) (c__law_marred : Cal P w K mg base "_law_marred" 2 3 m__law_marred) (c__law_same : Cal P w K mg base "_law_same" 4 2 (m__law_same 4)) (c__law_asked : Cal P w K mg base "_law_asked" 5 1 m__law_asked) (c__law_due : Cal P w K mg base "_law_due" 3 1 m__law_due) (c__law_hands : Cal P w K mg base "_law_hands" 2 2 m__law_hands) : Cal P w K mg base "_law_right" 6 2 m__law_right := by
  have hN := sc__law_right.nd
  exact Cal.of (k := 5) h sc__law_right fun f cdv A outer s H E hr hgd => (nss_cons (ns_set 2 hN rfl (.inl rfl) (ne_join ne_str (ne_lc (own := [("_law_hands_here", 6)]) rfl hN (ni_tup (ne_fz 2 (ne_cal c__law_hands (hr.mono (by omega)) hgd pass_cx (na_cons (ne_var 0) (na_cons (ne_callB (call_min2 rfl) min2N (b_min hB) (na_cons (ne_var 1) (na_cons ne_int na_nil))) na_nil))))) (blkOk_by (N := N__law_right) (sc := defScope s__law_right) (by decide +kernel)) (fun _ _ _ _ _ => (ng_name (own := [6]) 6 (by decide) hN rfl (.inl rfl))) (fun _ _ _ _ _ => nts_nil) (fun _ _ _ _ _ => (ne_join ne_str (ne_lc (own := [("_law_who", 7)]) rfl hN (ni_list (ne_var 6)) (blkOk_by (N := N__law_right) (sc := (relS { kind := ScopeKind.function, names := [(".0", NameKind.local), ("_law_hands_here", NameKind.local)], isGenerator := false, isCoroutine := false } (defScope s__law_right))) (by decide +kernel)) (fun _ _ _ _ _ => (ng_name (own := [7]) 7 (by decide) hN rfl (.inl rfl))) (fun _ _ _ _ _ => nts_nil) (fun _ _ _ _ _ => (ne_callTy call_str_int strN (b_str hB) (na_cons (ne_var 7) na_nil)))))))))
    (nss_cons (ns_set 3 hN rfl (.inl rfl) (ne_lst (na_cons ne_str (na_cons ne_str (na_cons ne_str (na_cons ne_str (na_cons ne_str (na_cons ne_str (na_cons ne_str (na_cons ne_str (na_cons ne_str (na_cons ne_str (na_cons ne_str (na_cons ne_str (na_cons ne_str (na_cons ne_str (na_cons ne_str (na_cons ne_str na_nil))))))))))))))))))
    (nss_cons (ns_for own_cx rfl (ni_range1 (b_range hB) (na_cons (ne_cal c__law_take (hr.mono (by omega)) hgd pass_cx (na_cons (ne_var 0) (na_cons ne_int na_nil))) na_nil)) (ng_name (own := [4]) 4 (by decide) hN rfl (.inl rfl))
    (nss_one (ns_set 2 hN rfl (.inl rfl) (ne_fz 2 (ne_cal c__law_marred (hr.mono (by omega)) hgd pass_cx (na_cons (ne_var 0) (na_cons (ne_var 2) (na_cons (ne_var 3) na_nil))))))))
    (nss_cons (ns_set 2 hN rfl (.inl rfl) (ne_sl (ne_var 2) no_none (no_some ne_int)))
    (nss_cons (ns_if (nt_not (nt_val (ne_cal c__law_same (hr.mono (by omega)) hgd pass_cx (na_cons (ne_fz 2 (ne_cal c__law_asked (hr.mono (by omega)) hgd pass_cx (na_cons (ne_var 2) na_nil))) (na_cons (ne_fz 2 (ne_cal c__law_due (hr.mono (by omega)) hgd pass_cx (na_cons (ne_var 2) na_nil))) na_nil)))))
    (nss_one (ns_ret ne_bl))
    nss_nil)
    (nss_cons (ns_set 5 hN rfl (.inl rfl) (ne_ix (ne_lst (na_cons ne_non (na_cons ne_int (na_cons (ne_lst na_nil) (na_cons (ne_lst (na_cons ne_str na_nil)) (na_cons (ne_tup (na_cons (ne_lst (na_cons ne_int (na_cons ne_int na_nil))) (na_cons (ne_lst (na_cons ne_int (na_cons ne_int na_nil))) na_nil))) (na_cons ne_bl (na_cons ne_demp na_nil)))))))) (ne_cal c__law_take (hr.mono (by omega)) hgd pass_cx (na_cons (ne_var 0) (na_cons ne_int na_nil)))))
    (nss_one (ns_ret (ne_cmp op_is2 isN2 (ne_fz 2 (ne_cal c__law_asked (hr.mono (by omega)) hgd pass_cx (na_cons (ne_var 5) na_nil))) ne_non (nomark _))))))))))
abbrev s__law_sack : Stmt := topS 23
abbrev N__law_sack : List Str := ["_law_cell", "_law_k"]
theorem sc__law_sack : FnScope N__law_sack ["_law_cell", "_law_k"] (defScope s__law_sack) := ⟨rfl, rfl, rfl, by decide +kernel, rfl, by decide +kernel, by decide +kernel⟩
noncomputable def m__law_sack : MF := runD 2 (sRet (mLst true (aCons (mCB (on2 gMax2) (aCons (mC (.int 0)) (aCons (m2 gSub (mVar 0) (m2 gPow (mC (.int 10)) (mC (.int 18)))) aNil))) (aCons (m2 (gAdd false) (m2 gMul (m2 gMod (mVar 0) (m2 (gAdd false) (m2 gPow (mC (.int 10)) (mC (.int 41))) (mC (.int 109)))) (mC (.int 97))) (mVar 1)) (aCons (mC (.int 0)) aNil)))))
theorem ok__law_sack (hB : Blts mg) (hG : Globs mg K) (h : DefAt K mg "_law_sack" s__law_sack ["_law_cell", "_law_k"]) : Cal P w K mg base "_law_sack" 1 2 m__law_sack := by
  have hN := sc__law_sack.nd
  exact Cal.of (k := 0) h sc__law_sack fun f cdv A outer s H E hr hgd => (nss_one (ns_ret (ne_lst (na_cons (ne_callB (call_max2 rfl) max2N (b_max hB) (na_cons ne_int (na_cons (ne_op op_sub subN (ne_var 0) (ne_op op_powW powN ne_int ne_int)) na_nil))) (na_cons (ne_op op_addA addN (ne_op op_mulA mulN (ne_op op_mod modN (ne_var 0) (ne_op op_addA addN (ne_op op_powW powN ne_int ne_int) ne_int)) ne_int) (ne_var 1)) (na_cons ne_int na_nil))))))
abbrev s_law : Stmt := topS 35
abbrev N_law : List Str := ["_law_script", "_law_k", "_law_cell"]
theorem sc_law : FnScope N_law ["_law_script"] (defScope s_law) := ⟨rfl, rfl, rfl, by decide +kernel, rfl, by decide +kernel, by decide +kernel⟩
noncomputable def m_law : MF := runD 3 (sSeq (sFor (iEn (aCons (mSl false (m2 (gAdd false) (mVar 0) (mLst false (aCons (mC (.int 0)) aNil))) oNone (oSome (mCB (on2 gMax2) (aCons (mC (.int 1)) (aCons (mCB (on2 gMin2) (aCons (mCB (on1 gLen) (aCons (mVar 0) aNil)) (aCons (mC (.int 24)) aNil))) aNil))))) aNil)) (gmSq 2 (gmCons (gmN 1) (gmCons (gmN 2) gmNil)))
  (sGc [1, 2] (sIf (tNotM (mT (mFz 1 (mF 2 m__law_right (aCons (mF 2 m__law_sack (aCons (mVar 2) (aCons (mVar 1) aNil))) (aCons (mIf (mT (m2 gEq (mVar 0) (mLst false aNil))) (mC (.int 3)) (mC (.int 200))) aNil))))))
  (sRet (mC (.bl false)))
  sNil)))
  (sRet (mC (.bl true))))
theorem ok_law {f : Addr} {fd : FuncData} (hB : Blts mg) (hG : Globs mg K) (h : Fun K "law" "law" s_law f fd) (c__law_right : Cal P w K mg base "_law_right" 6 2 m__law_right) (c__law_sack : Cal P w K mg base "_law_sack" 1 2 m__law_sack) : FnG P w K mg base 7 f fd ["_law_script"] (spN K mg 1 m_law) := by
  have hN := sc_law.nd
  exact okD (k := 6) h sc_law fun cdv A outer s H E hr hgd => (nss_cons (ns_for own_cx rfl (ni_enum (b_enumerate hB) (na_cons (ne_sl (ne_op op_addA addN (ne_var 0) (ne_lst (na_cons ne_int na_nil))) no_none (no_some (ne_callB (call_max2 rfl) max2N (b_max hB) (na_cons ne_int (na_cons (ne_callB (call_min2 rfl) min2N (b_min hB) (na_cons (ne_callB call_len lenN (b_len hB) (na_cons (ne_var 0) na_nil)) (na_cons ne_int na_nil))) na_nil))))) na_nil)) (ng_sq rfl (ngs_cons (ng_name (own := [1, 2]) 1 (by decide) hN rfl (.inl rfl)) (ngs_cons (ng_name (own := [1, 2]) 2 (by decide) hN rfl (.inl rfl)) ngs_nil)))
    (nss_gc [1, 2] (nss_one (ns_if (nt_not (nt_val (ne_fz 1 (ne_cal c__law_right (hr.mono (by omega)) hgd pass_cx (na_cons (ne_cal c__law_sack (hr.mono (by omega)) hgd pass_cx (na_cons (ne_var 2) (na_cons (ne_var 1) na_nil))) (na_cons (ne_if (nt_cmp (op_eqE hr.units) eqN (ne_var 0) (ne_lst na_nil) (nomark _)) ne_int ne_int) na_nil))))))
    (nss_one (ns_ret ne_bl))
    nss_nil))))
    (nss_one (ns_ret ne_bl)))
end
section
variable {K : PySem.W.Frag} {mg : Str → Option Value}
theorem at__law_take {h : Heap} (X : K.In h) (G : h.Ns mainGlobals mg) {f : Addr} {oc : Value} {od an : Option Addr} {osl : Array (Option Value)} {kV dc pm cd ct : Value} (a : PySem.W.nsIn K mainGlobals "_law_take" = some (some (.ref f))) (l : K.lookup f = some ⟨oc, od, .func (PySem.W.fnOf "_law_take" "_law_take" (defArgs s__law_take) (defBody s__law_take) (defScope s__law_take) .none kV dc pm an cd ct), osl⟩) (c : PySem.W.codeIn K cd "_law_take" = true) (k : PySem.W.keepIn K (.ref f) = true) : DefAt K mg "_law_take" s__law_take ["_law_sack_here", "_law_many"] :=
  ⟨f, _, fun_mk l c k, PySem.W.mg_of X G a, (fun_mk l c k).binds fun _ _ _ _ _ _ us hl => match us, hl with | [_, _], _ => rfl⟩
theorem at__law_marred {h : Heap} (X : K.In h) (G : h.Ns mainGlobals mg) {f : Addr} {oc : Value} {od an : Option Addr} {osl : Array (Option Value)} {kV dc pm cd ct : Value} (a : PySem.W.nsIn K mainGlobals "_law_marred" = some (some (.ref f))) (l : K.lookup f = some ⟨oc, od, .func (PySem.W.fnOf "_law_marred" "_law_marred" (defArgs s__law_marred) (defBody s__law_marred) (defScope s__law_marred) .none kV dc pm an cd ct), osl⟩) (c : PySem.W.codeIn K cd "_law_marred" = true) (k : PySem.W.keepIn K (.ref f) = true) : DefAt K mg "_law_marred" s__law_marred ["_law_sack_here", "_law_line", "_law_signs"] :=
  ⟨f, _, fun_mk l c k, PySem.W.mg_of X G a, (fun_mk l c k).binds fun _ _ _ _ _ _ us hl => match us, hl with | [_, _, _], _ => rfl⟩
theorem at__law_same {h : Heap} (X : K.In h) (G : h.Ns mainGlobals mg) {f : Addr} {oc : Value} {od an : Option Addr} {osl : Array (Option Value)} {kV dc pm cd ct : Value} (a : PySem.W.nsIn K mainGlobals "_law_same" = some (some (.ref f))) (l : K.lookup f = some ⟨oc, od, .func (PySem.W.fnOf "_law_same" "_law_same" (defArgs s__law_same) (defBody s__law_same) (defScope s__law_same) .none kV dc pm an cd ct), osl⟩) (c : PySem.W.codeIn K cd "_law_same" = true) (k : PySem.W.keepIn K (.ref f) = true) : DefAt K mg "_law_same" s__law_same ["_law_found", "_law_due_here"] :=
  ⟨f, _, fun_mk l c k, PySem.W.mg_of X G a, (fun_mk l c k).binds fun _ _ _ _ _ _ us hl => match us, hl with | [_, _], _ => rfl⟩
theorem at_words_in {h : Heap} (X : K.In h) (G : h.Ns mainGlobals mg) {f : Addr} {oc : Value} {od an : Option Addr} {osl : Array (Option Value)} {kV dc pm cd ct : Value} (a : PySem.W.nsIn K mainGlobals "words_in" = some (some (.ref f))) (l : K.lookup f = some ⟨oc, od, .func (PySem.W.fnOf "words_in" "words_in" (defArgs s_words_in) (defBody s_words_in) (defScope s_words_in) .none kV dc pm an cd ct), osl⟩) (c : PySem.W.codeIn K cd "words_in" = true) (k : PySem.W.keepIn K (.ref f) = true) : DefAt K mg "words_in" s_words_in ["text"] :=
  ⟨f, _, fun_mk l c k, PySem.W.mg_of X G a, (fun_mk l c k).binds fun _ _ _ _ _ _ us hl => match us, hl with | [_], _ => rfl⟩
theorem at_number_in {h : Heap} (X : K.In h) (G : h.Ns mainGlobals mg) {f : Addr} {oc : Value} {od an : Option Addr} {osl : Array (Option Value)} {kV dc pm cd ct : Value} (a : PySem.W.nsIn K mainGlobals "number_in" = some (some (.ref f))) (l : K.lookup f = some ⟨oc, od, .func (PySem.W.fnOf "number_in" "number_in" (defArgs s_number_in) (defBody s_number_in) (defScope s_number_in) .none kV dc pm an cd ct), osl⟩) (c : PySem.W.codeIn K cd "number_in" = true) (k : PySem.W.keepIn K (.ref f) = true) : DefAt K mg "number_in" s_number_in ["word", "least"] :=
  ⟨f, _, fun_mk l c k, PySem.W.mg_of X G a, (fun_mk l c k).binds fun _ _ _ _ _ _ us hl => match us, hl with | [_, _], _ => rfl⟩
theorem at_rights_in {h : Heap} (X : K.In h) (G : h.Ns mainGlobals mg) {f : Addr} {oc : Value} {od an : Option Addr} {osl : Array (Option Value)} {kV dc pm cd ct : Value} (a : PySem.W.nsIn K mainGlobals "rights_in" = some (some (.ref f))) (l : K.lookup f = some ⟨oc, od, .func (PySem.W.fnOf "rights_in" "rights_in" (defArgs s_rights_in) (defBody s_rights_in) (defScope s_rights_in) .none kV dc pm an cd ct), osl⟩) (c : PySem.W.codeIn K cd "rights_in" = true) (k : PySem.W.keepIn K (.ref f) = true) : DefAt K mg "rights_in" s_rights_in ["parts"] :=
  ⟨f, _, fun_mk l c k, PySem.W.mg_of X G a, (fun_mk l c k).binds fun _ _ _ _ _ _ us hl => match us, hl with | [_], _ => rfl⟩
theorem at_read_stand {h : Heap} (X : K.In h) (G : h.Ns mainGlobals mg) {f : Addr} {oc : Value} {od an : Option Addr} {osl : Array (Option Value)} {kV dc pm cd ct : Value} (a : PySem.W.nsIn K mainGlobals "read_stand" = some (some (.ref f))) (l : K.lookup f = some ⟨oc, od, .func (PySem.W.fnOf "read_stand" "read_stand" (defArgs s_read_stand) (defBody s_read_stand) (defScope s_read_stand) .none kV dc pm an cd ct), osl⟩) (c : PySem.W.codeIn K cd "read_stand" = true) (k : PySem.W.keepIn K (.ref f) = true) : DefAt K mg "read_stand" s_read_stand ["text"] :=
  ⟨f, _, fun_mk l c k, PySem.W.mg_of X G a, (fun_mk l c k).binds fun _ _ _ _ _ _ us hl => match us, hl with | [_], _ => rfl⟩
theorem at__law_place_of {h : Heap} (X : K.In h) (G : h.Ns mainGlobals mg) {f : Addr} {oc : Value} {od an : Option Addr} {osl : Array (Option Value)} {kV dc pm cd ct : Value} (a : PySem.W.nsIn K mainGlobals "_law_place_of" = some (some (.ref f))) (l : K.lookup f = some ⟨oc, od, .func (PySem.W.fnOf "_law_place_of" "_law_place_of" (defArgs s__law_place_of) (defBody s__law_place_of) (defScope s__law_place_of) .none kV dc pm an cd ct), osl⟩) (c : PySem.W.codeIn K cd "_law_place_of" = true) (k : PySem.W.keepIn K (.ref f) = true) : DefAt K mg "_law_place_of" s__law_place_of ["_law_caught"] :=
  ⟨f, _, fun_mk l c k, PySem.W.mg_of X G a, (fun_mk l c k).binds fun _ _ _ _ _ _ us hl => match us, hl with | [_], _ => rfl⟩
theorem at__law_asked {h : Heap} (X : K.In h) (G : h.Ns mainGlobals mg) {f : Addr} {oc : Value} {od an : Option Addr} {osl : Array (Option Value)} {kV dc pm cd ct : Value} (a : PySem.W.nsIn K mainGlobals "_law_asked" = some (some (.ref f))) (l : K.lookup f = some ⟨oc, od, .func (PySem.W.fnOf "_law_asked" "_law_asked" (defArgs s__law_asked) (defBody s__law_asked) (defScope s__law_asked) .none kV dc pm an cd ct), osl⟩) (c : PySem.W.codeIn K cd "_law_asked" = true) (k : PySem.W.keepIn K (.ref f) = true) : DefAt K mg "_law_asked" s__law_asked ["_law_what"] :=
  ⟨f, _, fun_mk l c k, PySem.W.mg_of X G a, (fun_mk l c k).binds fun _ _ _ _ _ _ us hl => match us, hl with | [_], _ => rfl⟩
theorem at__law_figures {h : Heap} (X : K.In h) (G : h.Ns mainGlobals mg) {f : Addr} {oc : Value} {od an : Option Addr} {osl : Array (Option Value)} {kV dc pm cd ct : Value} (a : PySem.W.nsIn K mainGlobals "_law_figures" = some (some (.ref f))) (l : K.lookup f = some ⟨oc, od, .func (PySem.W.fnOf "_law_figures" "_law_figures" (defArgs s__law_figures) (defBody s__law_figures) (defScope s__law_figures) .none kV dc pm an cd ct), osl⟩) (c : PySem.W.codeIn K cd "_law_figures" = true) (k : PySem.W.keepIn K (.ref f) = true) : DefAt K mg "_law_figures" s__law_figures ["_law_word"] :=
  ⟨f, _, fun_mk l c k, PySem.W.mg_of X G a, (fun_mk l c k).binds fun _ _ _ _ _ _ us hl => match us, hl with | [_], _ => rfl⟩
theorem at__law_begins {h : Heap} (X : K.In h) (G : h.Ns mainGlobals mg) {f : Addr} {oc : Value} {od an : Option Addr} {osl : Array (Option Value)} {kV dc pm cd ct : Value} (a : PySem.W.nsIn K mainGlobals "_law_begins" = some (some (.ref f))) (l : K.lookup f = some ⟨oc, od, .func (PySem.W.fnOf "_law_begins" "_law_begins" (defArgs s__law_begins) (defBody s__law_begins) (defScope s__law_begins) .none kV dc pm an cd ct), osl⟩) (c : PySem.W.codeIn K cd "_law_begins" = true) (k : PySem.W.keepIn K (.ref f) = true) : DefAt K mg "_law_begins" s__law_begins ["_law_parts"] :=
  ⟨f, _, fun_mk l c k, PySem.W.mg_of X G a, (fun_mk l c k).binds fun _ _ _ _ _ _ us hl => match us, hl with | [_], _ => rfl⟩
theorem at__law_due {h : Heap} (X : K.In h) (G : h.Ns mainGlobals mg) {f : Addr} {oc : Value} {od an : Option Addr} {osl : Array (Option Value)} {kV dc pm cd ct : Value} (a : PySem.W.nsIn K mainGlobals "_law_due" = some (some (.ref f))) (l : K.lookup f = some ⟨oc, od, .func (PySem.W.fnOf "_law_due" "_law_due" (defArgs s__law_due) (defBody s__law_due) (defScope s__law_due) .none kV dc pm an cd ct), osl⟩) (c : PySem.W.codeIn K cd "_law_due" = true) (k : PySem.W.keepIn K (.ref f) = true) : DefAt K mg "_law_due" s__law_due ["_law_line"] :=
  ⟨f, _, fun_mk l c k, PySem.W.mg_of X G a, (fun_mk l c k).binds fun _ _ _ _ _ _ us hl => match us, hl with | [_], _ => rfl⟩
theorem at__law_deed_done {h : Heap} (X : K.In h) (G : h.Ns mainGlobals mg) {f : Addr} {oc : Value} {od an : Option Addr} {osl : Array (Option Value)} {kV dc pm cd ct : Value} (a : PySem.W.nsIn K mainGlobals "_law_deed_done" = some (some (.ref f))) (l : K.lookup f = some ⟨oc, od, .func (PySem.W.fnOf "_law_deed_done" "_law_deed_done" (defArgs s__law_deed_done) (defBody s__law_deed_done) (defScope s__law_deed_done) .none kV dc pm an cd ct), osl⟩) (c : PySem.W.codeIn K cd "_law_deed_done" = true) (k : PySem.W.keepIn K (.ref f) = true) : DefAt K mg "_law_deed_done" s__law_deed_done ["_law_rights", "_law_lefts", "_law_kind", "_law_dancer"] :=
  ⟨f, _, fun_mk l c k, PySem.W.mg_of X G a, (fun_mk l c k).binds fun _ _ _ _ _ _ us hl => match us, hl with | [_, _, _, _], _ => rfl⟩
theorem at__law_hands {h : Heap} (X : K.In h) (G : h.Ns mainGlobals mg) {f : Addr} {oc : Value} {od an : Option Addr} {osl : Array (Option Value)} {kV dc pm cd ct : Value} (a : PySem.W.nsIn K mainGlobals "_law_hands" = some (some (.ref f))) (l : K.lookup f = some ⟨oc, od, .func (PySem.W.fnOf "_law_hands" "_law_hands" (defArgs s__law_hands) (defBody s__law_hands) (defScope s__law_hands) .none kV dc pm an cd ct), osl⟩) (c : PySem.W.codeIn K cd "_law_hands" = true) (k : PySem.W.keepIn K (.ref f) = true) : DefAt K mg "_law_hands" s__law_hands ["_law_sack_here", "_law_most"] :=
  ⟨f, _, fun_mk l c k, PySem.W.mg_of X G a, (fun_mk l c k).binds fun _ _ _ _ _ _ us hl => match us, hl with | [_, _], _ => rfl⟩
theorem at__law_right {h : Heap} (X : K.In h) (G : h.Ns mainGlobals mg) {f : Addr} {oc : Value} {od an : Option Addr} {osl : Array (Option Value)} {kV dc pm cd ct : Value} (a : PySem.W.nsIn K mainGlobals "_law_right" = some (some (.ref f))) (l : K.lookup f = some ⟨oc, od, .func (PySem.W.fnOf "_law_right" "_law_right" (defArgs s__law_right) (defBody s__law_right) (defScope s__law_right) .none kV dc pm an cd ct), osl⟩) (c : PySem.W.codeIn K cd "_law_right" = true) (k : PySem.W.keepIn K (.ref f) = true) : DefAt K mg "_law_right" s__law_right ["_law_sack_here", "_law_most"] :=
  ⟨f, _, fun_mk l c k, PySem.W.mg_of X G a, (fun_mk l c k).binds fun _ _ _ _ _ _ us hl => match us, hl with | [_, _], _ => rfl⟩
theorem at__law_sack {h : Heap} (X : K.In h) (G : h.Ns mainGlobals mg) {f : Addr} {oc : Value} {od an : Option Addr} {osl : Array (Option Value)} {kV dc pm cd ct : Value} (a : PySem.W.nsIn K mainGlobals "_law_sack" = some (some (.ref f))) (l : K.lookup f = some ⟨oc, od, .func (PySem.W.fnOf "_law_sack" "_law_sack" (defArgs s__law_sack) (defBody s__law_sack) (defScope s__law_sack) .none kV dc pm an cd ct), osl⟩) (c : PySem.W.codeIn K cd "_law_sack" = true) (k : PySem.W.keepIn K (.ref f) = true) : DefAt K mg "_law_sack" s__law_sack ["_law_cell", "_law_k"] :=
  ⟨f, _, fun_mk l c k, PySem.W.mg_of X G a, (fun_mk l c k).binds fun _ _ _ _ _ _ us hl => match us, hl with | [_, _], _ => rfl⟩
theorem blts_of {h : Heap} (X : K.In h) (G : h.Ns mainGlobals mg) (z0 : PySem.W.nsIn K mainGlobals "all" = some none) (z1 : PySem.W.nsIn K mainGlobals "bool" = some none) (z2 : PySem.W.nsIn K mainGlobals "enumerate" = some none) (z3 : PySem.W.nsIn K mainGlobals "int" = some none) (z4 : PySem.W.nsIn K mainGlobals "isinstance" = some none) (z5 : PySem.W.nsIn K mainGlobals "len" = some none) (z6 : PySem.W.nsIn K mainGlobals "list" = some none) (z7 : PySem.W.nsIn K mainGlobals "max" = some none) (z8 : PySem.W.nsIn K mainGlobals "min" = some none) (z9 : PySem.W.nsIn K mainGlobals "range" = some none) (z10 : PySem.W.nsIn K mainGlobals "str" = some none) (z11 : PySem.W.nsIn K mainGlobals "tuple" = some none) (z12 : PySem.W.nsIn K mainGlobals "zip" = some none) : Blts mg := by
  show ∀ x ∈ bltNames, mg x = none
  unfold bltNames
  exact List.forall_mem_cons.mpr ⟨PySem.W.mg_none_of X G z0, List.forall_mem_cons.mpr ⟨PySem.W.mg_none_of X G z1, List.forall_mem_cons.mpr ⟨PySem.W.mg_none_of X G z2, List.forall_mem_cons.mpr ⟨PySem.W.mg_none_of X G z3, List.forall_mem_cons.mpr ⟨PySem.W.mg_none_of X G z4, List.forall_mem_cons.mpr ⟨PySem.W.mg_none_of X G z5, List.forall_mem_cons.mpr ⟨PySem.W.mg_none_of X G z6, List.forall_mem_cons.mpr ⟨PySem.W.mg_none_of X G z7, List.forall_mem_cons.mpr ⟨PySem.W.mg_none_of X G z8, List.forall_mem_cons.mpr ⟨PySem.W.mg_none_of X G z9, List.forall_mem_cons.mpr ⟨PySem.W.mg_none_of X G z10, List.forall_mem_cons.mpr ⟨PySem.W.mg_none_of X G z11, List.forall_mem_cons.mpr ⟨PySem.W.mg_none_of X G z12, fun x hx => nomatch hx⟩⟩⟩⟩⟩⟩⟩⟩⟩⟩⟩⟩⟩
theorem gc_BAR {h : Heap} (X : K.In h) (G : h.Ns mainGlobals mg) {t : Tok} (a : PySem.W.nsIn K mainGlobals "BAR" = some (some (.str "|" t))) : GlobC mg K "BAR" k_BAR := ⟨_, .str "|", PySem.W.mg_of X G a, ⟨t, rfl⟩, fun _ _ => rfl⟩
theorem gc_FIGURES {h : Heap} (X : K.In h) (G : h.Ns mainGlobals mg) {t : Tok} (a : PySem.W.nsIn K mainGlobals "FIGURES" = some (some (.str "0123456789" t))) : GlobC mg K "FIGURES" k_FIGURES := ⟨_, .str "0123456789", PySem.W.mg_of X G a, ⟨t, rfl⟩, fun _ _ => rfl⟩
def s_I_NoText : Stmt := match topS 14 with
  | .ClassDef _ _ _ (s :: _) _ _ _ _ _ _ _ => s
  | s => s
theorem sc_I_NoText : FnScope ["self", "at"] ["self", "at"] (defScope s_I_NoText) := ⟨rfl, rfl, rfl, by decide +kernel, rfl, by decide +kernel, by decide +kernel⟩
theorem okI_NoText {P : Program} {w : World} {base : Heap} {C R f : Addr} {fd : FuncData} (T0 : BaseX K R) (gR : mg "RingError" = some (.ref R)) (h : Fun K "__init__" "NoText.__init__" s_I_NoText f fd) : FnOk P w K mg base CX0 1 f fd ["self", "at"] (spI K C "at") :=
  h.ok (k := 0) sc_I_NoText spI_len fun cdv A outer s H vs Q E hr hsp => ⟨_, pss_cons (ps_expr (pe_baseInit T0 gR rfl (by decide) (pa_cons (pv 0) (pa_cons pe_str pa_nil)))) (pss_one (ps_ost (pv 0) (pv 1))), spI_read (De := { nx := fun _ H' => Q .non H', rt := Q }) hsp (fun _ _ h => h) (fun _ _ h => h)⟩
theorem err_NoText {h : Heap} (X : K.In h) (G : h.Ns mainGlobals mg) {C R S f N : Addr} {nm qn : Str} {bs : List Value} {sn : List Str} {sub : List Value} {ab : Bool} {col : Option Bool} {dd : Option Addr} {m0 m1 m2 m3 m5 : Option Value} {oc : Value} {od an : Option Addr} {osl : Array (Option Value)} {kV dc pm cd ct : Value}
    (aC : PySem.W.nsIn K mainGlobals "NoText" = some (some (.ref C))) (aR : PySem.W.nsIn K mainGlobals "RingError" = some (some (.ref R))) (aS : PySem.W.nsIn K mainGlobals "RingError" = some (some (.ref S)))
    (lC : K.lookup C = some (excClassObj nm qn C N bs [.ref R, .type "ValueError", .type "Exception", .type "BaseException", .type "object"] true sn sub ab col dd m0 m1 m2 m3 m5 "ValueError.__new__")) (sa : PySem.W.findIn K (.ref C) "__setattr__" = some (some (.builtin "object.__setattr__"))) (ga : PySem.W.findIn K (.ref C) "__getattribute__" = some (some (.builtin "BaseException.__getattribute__"))) (gg : PySem.W.findIn K (.ref C) "__getattr__" = some none) (nf : PySem.W.findIn K (.ref C) "at" = some none) (eC : PySem.W.subIn K (.ref C) (.type "BaseException") = some true) (tC : PySem.W.typeIn K (.ref C) = some (.type "type")) (kC : PySem.W.keepIn K (.ref C) = true) (hC : PySem.W.hasDictIn K C = true) (iC : PySem.W.findIn K (.ref C) "__init__" = some (some (.ref f))) (tI : PySem.W.typeIn K (.ref f) = some (.type "function")) (xa : PySem.W.findIn K (.ref C) "__class__" = some (some (.builtin "object.__class__"))) (xn : PySem.W.specialIn K (.builtin "object.__class__") "__get__" = some (some (.builtin "getset_descriptor.__get__"))) (xt : PySem.W.takesIn K (.builtin "object.__class__") = some true) (xm : PySem.W.mroIn K C (.type "object") = some true) (rd : PySem.W.readsIn K R (.type "type") = true) (rg : PySem.W.specialIn K (.ref R) "__getattribute__" = some (some (.builtin "type.__getattribute__"))) (ri : PySem.W.findCls K (.ref R) (.type "type") "__init__" = some (.val (.builtin "ValueError.__init__"))) (s1 : PySem.W.subIn K (.ref S) (.type "BaseException") = some true) (s2 : PySem.W.hasDictIn K S = true) (s3 : PySem.W.typeIn K (.ref S) = some (.type "type")) (s4 : PySem.W.subIn K (.ref C) (.ref S) = some true) (tv : PySem.W.subIn K (.ref C) (.type "ValueError") = some true)
    (l : K.lookup f = some ⟨oc, od, .func (PySem.W.fnOf "__init__" "NoText.__init__" (defArgs s_I_NoText) (defBody s_I_NoText) (defScope s_I_NoText) .none kV dc pm an cd ct), osl⟩) (c : PySem.W.codeIn K cd "NoText.__init__" = true) (k : PySem.W.keepIn K (.ref f) = true) : ∀ (P : Program) (w : World) (base : Heap), ErrX P w K mg base "NoText" "at" "RingError" := fun P w base => by
  have F := fun_mk (st := s_I_NoText) l c k
  have F0 : FnOk P w K mg base CX0 1 f _ ["self", "at"] (spI K C "at") := okI_NoText ⟨rd, rg, ri⟩ (PySem.W.mg_of X G aR) F
  have ox : OexC K C := ⟨⟨nm, qn, N, bs, _, sn, sub, ab, col, dd, m0, m1, m2, m3, m5, lC, rfl⟩, sa, eC, tC, kC⟩
  exact errX_mk (PySem.W.mg_of X G aC) ox nf iC tI F0 (F.binds fun _ _ _ _ _ _ us hl => match us, hl with | [_, _], _ => rfl) ga gg eC hC xa xn xt xm (PySem.W.mg_of X G aS) s1 s2 s3 s4 tv
theorem fa_o_NoText {h : Heap} (X : K.In h) (G : h.Ns mainGlobals mg) {C0 : Addr} (aC0 : PySem.W.nsIn K mainGlobals "NoText" = some (some (.ref C0))) (h2 : PySem.W.hasDictIn K C0 = true) (h3 : PySem.W.typeIn K (.ref C0) = some (.type "type")) : OwnK K mg errTb "NoText" := ownK_ref (PySem.W.mg_of X G aC0) (kitT_cons aC0 (kit_self.trans (by decide +kernel : some true = some ((["NoText", "RingError", "ValueError"] : List Str).contains "NoText"))) kitT_nil)
theorem fa_o_E {h : Heap} (X : K.In h) (G : h.Ns mainGlobals mg) {C0 : Addr} (aC0 : PySem.W.nsIn K mainGlobals "NoText" = some (some (.ref C0))) (ga0 : PySem.W.findIn K (.ref C0) "__getattribute__" = some (some (.builtin "BaseException.__getattribute__"))) (gg0 : PySem.W.findIn K (.ref C0) "__getattr__" = some none) (eC0 : PySem.W.subIn K (.ref C0) (.type "BaseException") = some true) (hC0 : PySem.W.hasDictIn K C0 = true) (xa0 : PySem.W.findIn K (.ref C0) "__class__" = some (some (.builtin "object.__class__"))) (xn0 : PySem.W.specialIn K (.builtin "object.__class__") "__get__" = some (some (.builtin "getset_descriptor.__get__"))) (xt0 : PySem.W.takesIn K (.builtin "object.__class__") = some true) (xm0 : PySem.W.mroIn K C0 (.type "object") = some true) : ∀ c as, errTb.lookup c = some as → ∀ C : Addr, PySem.W.nsIn K mainGlobals c = some (some (.ref C)) → ExcC K C := (exT_cons aC0 ⟨ga0, gg0, eC0, hC0, xa0, xn0, xt0, xm0⟩ exT_nil)
theorem fa_o_ValueError {h : Heap} (X : K.In h) (G : h.Ns mainGlobals mg) {C0 : Addr} (aC0 : PySem.W.nsIn K mainGlobals "NoText" = some (some (.ref C0))) (zv : PySem.W.nsIn K mainGlobals "ValueError" = some none) (tv0 : PySem.W.subIn K (.ref C0) (.type "ValueError") = some true) : OwnK K mg errTb "ValueError" := ownK_ty (PySem.W.mg_none_of X G zv) PyProof.Rows.Boot.«ValueError» (by decide) (kitT_cons aC0 ((kit_ve tv0).trans (by decide +kernel : some true = some ((["NoText", "RingError", "ValueError"] : List Str).contains "ValueError"))) kitT_nil)
theorem fa_n_at {h : Heap} (X : K.In h) (G : h.Ns mainGlobals mg) {C0 : Addr} (aC0 : PySem.W.nsIn K mainGlobals "NoText" = some (some (.ref C0))) (nf0 : PySem.W.findIn K (.ref C0) "at" = some none) : NoFld K errTb "at" := (noF_cons aC0 nf0 noF_nil)
theorem fa_o_Forgotten {h : Heap} (X : K.In h) (G : h.Ns mainGlobals mg) {C0 T : Addr} (aC0 : PySem.W.nsIn K mainGlobals "NoText" = some (some (.ref C0))) (aT : PySem.W.nsIn K mainGlobals "Forgotten" = some (some (.ref T))) (h2 : PySem.W.hasDictIn K T = true) (h3 : PySem.W.typeIn K (.ref T) = some (.type "type")) (ne0 : C0 ≠ T) (h40 : PySem.W.subIn K (.ref C0) (.ref T) = some false) : OwnK K mg errTb "Forgotten" := ownK_ref (PySem.W.mg_of X G aT) (kitT_cons aC0 ((kit_ref ne0 h2 h3 h40).trans (by decide +kernel : some false = some ((["NoText", "RingError", "ValueError"] : List Str).contains "Forgotten"))) kitT_nil)
theorem fa_o_NoBorder {h : Heap} (X : K.In h) (G : h.Ns mainGlobals mg) {C0 T : Addr} (aC0 : PySem.W.nsIn K mainGlobals "NoText" = some (some (.ref C0))) (aT : PySem.W.nsIn K mainGlobals "NoBorder" = some (some (.ref T))) (h2 : PySem.W.hasDictIn K T = true) (h3 : PySem.W.typeIn K (.ref T) = some (.type "type")) (ne0 : C0 ≠ T) (h40 : PySem.W.subIn K (.ref C0) (.ref T) = some false) : OwnK K mg errTb "NoBorder" := ownK_ref (PySem.W.mg_of X G aT) (kitT_cons aC0 ((kit_ref ne0 h2 h3 h40).trans (by decide +kernel : some false = some ((["NoText", "RingError", "ValueError"] : List Str).contains "NoBorder"))) kitT_nil)
theorem fa_o_NoDancer {h : Heap} (X : K.In h) (G : h.Ns mainGlobals mg) {C0 T : Addr} (aC0 : PySem.W.nsIn K mainGlobals "NoText" = some (some (.ref C0))) (aT : PySem.W.nsIn K mainGlobals "NoDancer" = some (some (.ref T))) (h2 : PySem.W.hasDictIn K T = true) (h3 : PySem.W.typeIn K (.ref T) = some (.type "type")) (ne0 : C0 ≠ T) (h40 : PySem.W.subIn K (.ref C0) (.ref T) = some false) : OwnK K mg errTb "NoDancer" := ownK_ref (PySem.W.mg_of X G aT) (kitT_cons aC0 ((kit_ref ne0 h2 h3 h40).trans (by decide +kernel : some false = some ((["NoText", "RingError", "ValueError"] : List Str).contains "NoDancer"))) kitT_nil)
theorem fa_o_NoDeed {h : Heap} (X : K.In h) (G : h.Ns mainGlobals mg) {C0 T : Addr} (aC0 : PySem.W.nsIn K mainGlobals "NoText" = some (some (.ref C0))) (aT : PySem.W.nsIn K mainGlobals "NoDeed" = some (some (.ref T))) (h2 : PySem.W.hasDictIn K T = true) (h3 : PySem.W.typeIn K (.ref T) = some (.type "type")) (ne0 : C0 ≠ T) (h40 : PySem.W.subIn K (.ref C0) (.ref T) = some false) : OwnK K mg errTb "NoDeed" := ownK_ref (PySem.W.mg_of X G aT) (kitT_cons aC0 ((kit_ref ne0 h2 h3 h40).trans (by decide +kernel : some false = some ((["NoText", "RingError", "ValueError"] : List Str).contains "NoDeed"))) kitT_nil)
theorem fa_o_NoForm {h : Heap} (X : K.In h) (G : h.Ns mainGlobals mg) {C0 T : Addr} (aC0 : PySem.W.nsIn K mainGlobals "NoText" = some (some (.ref C0))) (aT : PySem.W.nsIn K mainGlobals "NoForm" = some (some (.ref T))) (h2 : PySem.W.hasDictIn K T = true) (h3 : PySem.W.typeIn K (.ref T) = some (.type "type")) (ne0 : C0 ≠ T) (h40 : PySem.W.subIn K (.ref C0) (.ref T) = some false) : OwnK K mg errTb "NoForm" := ownK_ref (PySem.W.mg_of X G aT) (kitT_cons aC0 ((kit_ref ne0 h2 h3 h40).trans (by decide +kernel : some false = some ((["NoText", "RingError", "ValueError"] : List Str).contains "NoForm"))) kitT_nil)
theorem fa_o_NoName {h : Heap} (X : K.In h) (G : h.Ns mainGlobals mg) {C0 T : Addr} (aC0 : PySem.W.nsIn K mainGlobals "NoText" = some (some (.ref C0))) (aT : PySem.W.nsIn K mainGlobals "NoName" = some (some (.ref T))) (h2 : PySem.W.hasDictIn K T = true) (h3 : PySem.W.typeIn K (.ref T) = some (.type "type")) (ne0 : C0 ≠ T) (h40 : PySem.W.subIn K (.ref C0) (.ref T) = some false) : OwnK K mg errTb "NoName" := ownK_ref (PySem.W.mg_of X G aT) (kitT_cons aC0 ((kit_ref ne0 h2 h3 h40).trans (by decide +kernel : some false = some ((["NoText", "RingError", "ValueError"] : List Str).contains "NoName"))) kitT_nil)
theorem fa_o_NoNumber {h : Heap} (X : K.In h) (G : h.Ns mainGlobals mg) {C0 T : Addr} (aC0 : PySem.W.nsIn K mainGlobals "NoText" = some (some (.ref C0))) (aT : PySem.W.nsIn K mainGlobals "NoNumber" = some (some (.ref T))) (h2 : PySem.W.hasDictIn K T = true) (h3 : PySem.W.typeIn K (.ref T) = some (.type "type")) (ne0 : C0 ≠ T) (h40 : PySem.W.subIn K (.ref C0) (.ref T) = some false) : OwnK K mg errTb "NoNumber" := ownK_ref (PySem.W.mg_of X G aT) (kitT_cons aC0 ((kit_ref ne0 h2 h3 h40).trans (by decide +kernel : some false = some ((["NoText", "RingError", "ValueError"] : List Str).contains "NoNumber"))) kitT_nil)
theorem fa_o_NoOrder {h : Heap} (X : K.In h) (G : h.Ns mainGlobals mg) {C0 T : Addr} (aC0 : PySem.W.nsIn K mainGlobals "NoText" = some (some (.ref C0))) (aT : PySem.W.nsIn K mainGlobals "NoOrder" = some (some (.ref T))) (h2 : PySem.W.hasDictIn K T = true) (h3 : PySem.W.typeIn K (.ref T) = some (.type "type")) (ne0 : C0 ≠ T) (h40 : PySem.W.subIn K (.ref C0) (.ref T) = some false) : OwnK K mg errTb "NoOrder" := ownK_ref (PySem.W.mg_of X G aT) (kitT_cons aC0 ((kit_ref ne0 h2 h3 h40).trans (by decide +kernel : some false = some ((["NoText", "RingError", "ValueError"] : List Str).contains "NoOrder"))) kitT_nil)
theorem fa_o_NoStand {h : Heap} (X : K.In h) (G : h.Ns mainGlobals mg) {C0 T : Addr} (aC0 : PySem.W.nsIn K mainGlobals "NoText" = some (some (.ref C0))) (aT : PySem.W.nsIn K mainGlobals "NoStand" = some (some (.ref T))) (h2 : PySem.W.hasDictIn K T = true) (h3 : PySem.W.typeIn K (.ref T) = some (.type "type")) (ne0 : C0 ≠ T) (h40 : PySem.W.subIn K (.ref C0) (.ref T) = some false) : OwnK K mg errTb "NoStand" := ownK_ref (PySem.W.mg_of X G aT) (kitT_cons aC0 ((kit_ref ne0 h2 h3 h40).trans (by decide +kernel : some false = some ((["NoText", "RingError", "ValueError"] : List Str).contains "NoStand"))) kitT_nil)
theorem fa_o_Nothing {h : Heap} (X : K.In h) (G : h.Ns mainGlobals mg) {C0 T : Addr} (aC0 : PySem.W.nsIn K mainGlobals "NoText" = some (some (.ref C0))) (aT : PySem.W.nsIn K mainGlobals "Nothing" = some (some (.ref T))) (h2 : PySem.W.hasDictIn K T = true) (h3 : PySem.W.typeIn K (.ref T) = some (.type "type")) (ne0 : C0 ≠ T) (h40 : PySem.W.subIn K (.ref C0) (.ref T) = some false) : OwnK K mg errTb "Nothing" := ownK_ref (PySem.W.mg_of X G aT) (kitT_cons aC0 ((kit_ref ne0 h2 h3 h40).trans (by decide +kernel : some false = some ((["NoText", "RingError", "ValueError"] : List Str).contains "Nothing"))) kitT_nil)
theorem fa_o_Taken {h : Heap} (X : K.In h) (G : h.Ns mainGlobals mg) {C0 T : Addr} (aC0 : PySem.W.nsIn K mainGlobals "NoText" = some (some (.ref C0))) (aT : PySem.W.nsIn K mainGlobals "Taken" = some (some (.ref T))) (h2 : PySem.W.hasDictIn K T = true) (h3 : PySem.W.typeIn K (.ref T) = some (.type "type")) (ne0 : C0 ≠ T) (h40 : PySem.W.subIn K (.ref C0) (.ref T) = some false) : OwnK K mg errTb "Taken" := ownK_ref (PySem.W.mg_of X G aT) (kitT_cons aC0 ((kit_ref ne0 h2 h3 h40).trans (by decide +kernel : some false = some ((["NoText", "RingError", "ValueError"] : List Str).contains "Taken"))) kitT_nil)
theorem fa_o_TooMany {h : Heap} (X : K.In h) (G : h.Ns mainGlobals mg) {C0 T : Addr} (aC0 : PySem.W.nsIn K mainGlobals "NoText" = some (some (.ref C0))) (aT : PySem.W.nsIn K mainGlobals "TooMany" = some (some (.ref T))) (h2 : PySem.W.hasDictIn K T = true) (h3 : PySem.W.typeIn K (.ref T) = some (.type "type")) (ne0 : C0 ≠ T) (h40 : PySem.W.subIn K (.ref C0) (.ref T) = some false) : OwnK K mg errTb "TooMany" := ownK_ref (PySem.W.mg_of X G aT) (kitT_cons aC0 ((kit_ref ne0 h2 h3 h40).trans (by decide +kernel : some false = some ((["NoText", "RingError", "ValueError"] : List Str).contains "TooMany"))) kitT_nil)
theorem fa_kp_RingError {h : Heap} (X : K.In h) (G : h.Ns mainGlobals mg) {C0 R : Addr} (aC0 : PySem.W.nsIn K mainGlobals "NoText" = some (some (.ref C0))) (aR : PySem.W.nsIn K mainGlobals "RingError" = some (some (.ref R))) (s1 : PySem.W.subIn K (.ref R) (.type "BaseException") = some true) (s2 : PySem.W.hasDictIn K R = true) (s3 : PySem.W.typeIn K (.ref R) = some (.type "type")) (s40 : PySem.W.subIn K (.ref C0) (.ref R) = some true) : KeepX K mg "RingError" ["NoText"] := keepX_of (PySem.W.mg_of X G aR) (keepF_cons aC0 (PySem.W.mg_of X G aC0) (PySem.W.exm_ref s1 s2 s3 s40) keepF_nil)
theorem all_mk {l0 : PySem.W.OpenLaw} {w : World} {h : Heap} {fa : Addr} (X : K.In h) (G : h.Ns mainGlobals mg) (hfa : mg "law" = some (.ref fa)) (hB : Blts mg) (hG : Globs mg K)
    (d__law_take : DefAt K mg "_law_take" s__law_take ["_law_sack_here", "_law_many"]) (d__law_marred : DefAt K mg "_law_marred" s__law_marred ["_law_sack_here", "_law_line", "_law_signs"]) (d__law_same : DefAt K mg "_law_same" s__law_same ["_law_found", "_law_due_here"]) (d_words_in : DefAt K mg "words_in" s_words_in ["text"]) (d_number_in : DefAt K mg "number_in" s_number_in ["word", "least"]) (d_rights_in : DefAt K mg "rights_in" s_rights_in ["parts"]) (d_read_stand : DefAt K mg "read_stand" s_read_stand ["text"]) (d__law_place_of : DefAt K mg "_law_place_of" s__law_place_of ["_law_caught"]) (d__law_asked : DefAt K mg "_law_asked" s__law_asked ["_law_what"]) (d__law_figures : DefAt K mg "_law_figures" s__law_figures ["_law_word"]) (d__law_begins : DefAt K mg "_law_begins" s__law_begins ["_law_parts"]) (d__law_due : DefAt K mg "_law_due" s__law_due ["_law_line"]) (d__law_deed_done : DefAt K mg "_law_deed_done" s__law_deed_done ["_law_rights", "_law_lefts", "_law_kind", "_law_dancer"]) (d__law_hands : DefAt K mg "_law_hands" s__law_hands ["_law_sack_here", "_law_most"]) (d__law_right : DefAt K mg "_law_right" s__law_right ["_law_sack_here", "_law_most"]) (d__law_sack : DefAt K mg "_law_sack" s__law_sack ["_law_cell", "_law_k"]) (e_NoText : ∀ (P : Program) (w : World) (base : Heap), ErrX P w K mg base "NoText" "at" "RingError") (o_NoText : OwnK K mg errTb "NoText") (o_E : ∀ c as, errTb.lookup c = some as → ∀ C : Addr, PySem.W.nsIn K mainGlobals c = some (some (.ref C)) → ExcC K C) (o_ValueError : OwnK K mg errTb "ValueError") (n_at : NoFld K errTb "at") (o_Forgotten : OwnK K mg errTb "Forgotten") (o_NoBorder : OwnK K mg errTb "NoBorder") (o_NoDancer : OwnK K mg errTb "NoDancer") (o_NoDeed : OwnK K mg errTb "NoDeed") (o_NoForm : OwnK K mg errTb "NoForm") (o_NoName : OwnK K mg errTb "NoName") (o_NoNumber : OwnK K mg errTb "NoNumber") (o_NoOrder : OwnK K mg errTb "NoOrder") (o_NoStand : OwnK K mg errTb "NoStand") (o_Nothing : OwnK K mg errTb "Nothing") (o_Taken : OwnK K mg errTb "Taken") (o_TooMany : OwnK K mg errTb "TooMany") (kp_RingError : KeepX K mg "RingError" ["NoText"])
    {f : Addr} {oc : Value} {od an : Option Addr} {osl : Array (Option Value)} {kV dc pm cd ct : Value} (a : PySem.W.nsIn K mainGlobals "law" = some (some (.ref f))) (l : K.lookup f = some ⟨oc, od, .func (PySem.W.fnOf "law" "law" (defArgs s_law) (defBody s_law) (defScope s_law) .none kV dc pm an cd ct), osl⟩) (c : PySem.W.codeIn K cd "law" = true) (k : PySem.W.keepIn K (.ref f) = true) :
    ∃ fd : FuncData, (∀ (s : Shared) (v : Value), BindsTo s fd ⟨[v], []⟩ [("_law_script", v)]) ∧ ∀ base : Heap, K.In base → base.Ns mainGlobals mg → FnG l0.prog w K mg base 7 fa fd ["_law_script"] (spN K mg 1 m_law) := by
  have e := hfa.symm.trans (PySem.W.mg_of X G a)
  cases e
  refine ⟨PySem.W.fnOf "law" "law" (defArgs s_law) (defBody s_law) (defScope s_law) .none kV dc pm an cd ct, fun s v => .of_eq rfl, fun base _ _ => ?_⟩
  have c__law_take := ok__law_take (P := l0.prog) (w := w) (base := base) hB hG d__law_take 
  have c__law_marred := ok__law_marred (P := l0.prog) (w := w) (base := base) hB hG d__law_marred c__law_take
  have c__law_same := ok__law_same (P := l0.prog) (w := w) (base := base) hB hG d__law_same  4
  have c_words_in := ok_words_in (P := l0.prog) (w := w) (base := base) hB hG d_words_in (e_NoText l0.prog w base)
  have c_number_in := ok_number_in (P := l0.prog) (w := w) (base := base) hB hG d_number_in 
  have c_rights_in := ok_rights_in (P := l0.prog) (w := w) (base := base) hB hG d_rights_in c_number_in (e_NoText l0.prog w base)
  have c_read_stand := ok_read_stand (P := l0.prog) (w := w) (base := base) hB hG d_read_stand c_words_in c_rights_in c_number_in (e_NoText l0.prog w base)
  have c__law_place_of := ok__law_place_of (P := l0.prog) (w := w) (base := base) hB hG d__law_place_of o_NoText o_E o_ValueError n_at o_Forgotten o_NoBorder o_NoDancer o_NoDeed o_NoForm o_NoName o_NoNumber o_NoOrder o_NoStand o_Nothing o_Taken o_TooMany
  have cQ__law_place_of := okQ__law_place_of (P := l0.prog) (w := w) (base := base) hB hG d__law_place_of o_NoText o_E o_ValueError n_at o_Forgotten o_NoBorder o_NoDancer o_NoDeed o_NoForm o_NoName o_NoNumber o_NoOrder o_NoStand o_Nothing o_Taken o_TooMany
  have c__law_asked := ok__law_asked (P := l0.prog) (w := w) (base := base) hB hG d__law_asked c_read_stand c__law_place_of kp_RingError cQ__law_place_of
  have c__law_figures := ok__law_figures (P := l0.prog) (w := w) (base := base) hB hG d__law_figures 
  have c__law_begins := ok__law_begins (P := l0.prog) (w := w) (base := base) hB hG d__law_begins c__law_figures
  have c__law_due := ok__law_due (P := l0.prog) (w := w) (base := base) hB hG d__law_due c__law_begins
  have c__law_deed_done := ok__law_deed_done (P := l0.prog) (w := w) (base := base) hB hG d__law_deed_done 
  have c__law_hands := ok__law_hands (P := l0.prog) (w := w) (base := base) hB hG d__law_hands c__law_take c__law_deed_done
  have c__law_right := ok__law_right (P := l0.prog) (w := w) (base := base) hB hG d__law_right c__law_take c__law_marred c__law_same c__law_asked c__law_due c__law_hands
  have c__law_sack := ok__law_sack (P := l0.prog) (w := w) (base := base) hB hG d__law_sack 
  exact ok_law hB hG (fun_mk l c k) c__law_right c__law_sack
end
end Tk

namespace Tk
open PySem PySem.Spec PyProof.Rows L2 Nv
local macro_rules | `(tactic| walk_at "sp") => `(tactic| with_unfolding_all first | (exact (by simp only [pmV_nil, List.length_cons, List.length_nil, Nat.reduceAdd, if_true, List.filterMap_cons, List.filterMap_nil, List.getElem?_cons_zero, List.getElem?_cons_succ]; rfl)) | rfl)
local macro_rules | `(tactic| walk_at "sn") => `(tactic| with_unfolding_all first | (exact (by simp only [List.set_cons_zero, List.set_cons_succ]; rfl)) | rfl)
local macro_rules | `(tactic| walk_at "sr") => `(tactic| with_unfolding_all first | (exact (by simp only [List.map_cons, List.map_nil, List.length_cons, List.length_nil, Nat.reduceAdd, Nat.reduceSub, List.reduceReplicate, List.cons_append, List.nil_append]; rfl)) | rfl)
local macro_rules | `(tactic| walk_at "sw") => `(tactic| with_unfolding_all first | (exact (by simp only [wipeS, List.set_cons_zero, List.set_cons_succ]; rfl)) | rfl)
local macro_rules | `(tactic| walk_at "sd") => `(tactic| first | assumption | decide | omega | (simp (config := { failIfUnchanged := false }) [rgD_length, rgDown_length, enumD_length, pairsLen] <;> omega))
local macro_rules | `(tactic| walk_at "lo") => `(tactic| (refine low_of ?_ ?_ <;> walk_at "sd"))
local macro_rules | `(tactic| walk_at "le") => `(tactic| (refine len_le ?_ <;> walk_at "sd"))
local macro_rules | `(tactic| walk_at "cl") => `(tactic| with_unfolding_all first | assumption | rfl | exact at_app | exact at_app0 | exact at_lo (by assumption) | exact get_set_self at_app0 | exact get_set_self at_app | exact get_set_self (by assumption) | exact get_set_self (by rfl))
local macro_rules | `(tactic| walk_at "evs") => `(tactic| with_reducible first
  | refine w_seq ?_ | refine w_then ?_ | refine w_thenR ?_ | refine w_thenB ?_ | refine w_thenC ?_ | refine w_nil ?_ | refine w_bk ?_ | refine w_ct ?_ | refine w_drop ?_ | refine w_ret ?_ | refine w_retN ?_ | refine w_asg ?_ | refine w_gmNn (by walk_at "sn") ?_ | refine w_gmN ?_ | refine w_gmNil ?_ | refine w_gmCons ?_ | refine w_gmTup (by with_unfolding_all rfl) ?_ | refine w_gmSqT (by with_unfolding_all rfl) ?_ | refine w_gmSqL (by with_unfolding_all rfl) ?_ | refine w_parn ?_ | refine slset_i (by walk_at "sn") ?_ | refine w_aug (by with_unfolding_all rfl) ?_ | refine w_gmSub ?_
  | refine w_var (by with_unfolding_all rfl) ?_ | refine w_c ?_ | refine w_2 ?_ | refine w_1 ?_ | refine w_T ?_ | refine w_tAnd ?_ | refine w_tOr ?_ | refine w_tNot ?_ | refine w_and ?_ | refine w_or ?_ | refine w_not ?_ | refine w_if ?_ | refine w_ch ?_ | refine w_aNil ?_ | refine w_aCons ?_ | refine w_lst ?_ | refine w_tup ?_ | refine w_mt ?_ | refine w_mt0 ?_ | refine w_rep ?_ | refine w_cb ?_ | refine w_newF ?_ | refine w_newC ?_ | refine w_sl ?_ | refine w_oNone ?_ | refine w_oSome ?_
  | refine w_F ?_ | refine w_FK ?_ | refine pm_i (by walk_at "sp") ?_
  | refine w_sFor ?_ | refine w_gc ?_ | refine gc_r ?_ | refine gc_b ?_ | refine w_runKn (by walk_at "sr") ?_ | refine w_runK ?_ | refine w_mLc ?_ | refine w_iLst ?_ | refine w_iRg1 ?_ | refine w_iRg2 ?_ | refine w_iRg3 ?_ | refine w_iEn ?_ | refine w_iZp ?_ | refine w_tTrue ?_
  | refine w_isC (by with_unfolding_all rfl) ?_ | refine w_isNotC (by with_unfolding_all rfl) ?_ | refine w_isiT (by with_unfolding_all first | assumption | rfl) (by decide +kernel) ?_ | refine w_isiF (by with_unfolding_all first | assumption | rfl) (by decide +kernel) ?_ | refine w_isiLT (by with_unfolding_all first | assumption | rfl) (by decide +kernel) ?_ | refine w_isiLF (by with_unfolding_all first | assumption | rfl) (by decide +kernel) ?_
  | refine ite_t (by with_unfolding_all first | rfl | assumption) ?_ | refine ite_f (by with_unfolding_all first | rfl | assumption) ?_
  | refine w_iTp ?_ | refine tup_t ?_ | refine lstG_l ?_ | refine lstG_c (by walk_at "cl") ?_ | refine one_1 ?_ | refine one_i ?_
  | refine bl_b ?_ | refine int_i ?_ | refine par_2 ?_
  | refine w_addI ?_ | refine w_subI ?_ | refine w_negI ?_ | refine w_ltI ?_ | refine w_leI ?_ | refine w_gtI ?_ | refine w_geI ?_ | refine w_eqI ?_ | refine w_neI ?_ | refine w_eqS ?_ | refine w_neS ?_ | refine w_eqB ?_ | refine w_neB ?_
  | refine w_mulI (by with_unfolding_all first | with_reducible assumption | (right; left; with_reducible assumption) | (left; with_reducible assumption) | (left; decide) | (right; left; decide) | assumption) ?_ | refine w_modI (by with_unfolding_all first | assumption | decide) ?_ | refine w_divI (by with_unfolding_all first | assumption | decide) (by with_unfolding_all first | assumption | decide) ?_ | refine w_powI (by with_unfolding_all decide) (by with_unfolding_all decide) (by with_unfolding_all first | assumption | decide) (by with_unfolding_all first | assumption | decide) ?_
  | refine w_ixL (by with_unfolding_all first | assumption | rfl) ?_ | refine w_ixT (by with_unfolding_all first | assumption | rfl) ?_ | refine w_ixC (by walk_at "cl") (by with_unfolding_all first | assumption | rfl) ?_
  | refine w_set (by walk_at "cl") (by with_unfolding_all first | assumption | rfl) ?_ | refine w_append (by walk_at "cl") (by first | assumption | exact lt0 | exact lt1 | exact lt1a) ?_ | refine w_lenL ?_ | refine w_lenT ?_ | refine w_lenC (by walk_at "cl") ?_ | refine w_max2 ?_ | refine w_min2 ?_ | refine w_intI ?_ | refine w_intB ?_ | refine w_runn (by walk_at "sr") ?_ | refine w_run ?_
  | refine len_and (by with_unfolding_all rfl) ?_ | refine low_and (by first | assumption | decide) ?_ | refine le_and (by first | assumption | exact le0 | exact le1 | exact le2 | exact le3 | exact le4 | exact le5 | exact le6 | exact le7 | exact le8) ?_ | refine w_lcNil ?_ | refine w_lcCons ?_ | refine isL_and (by with_unfolding_all first | assumption | rfl) ?_ | refine isS_and (by with_unfolding_all rfl) ?_
  | refine IsLst.len (by assumption) ?_ | refine IsLst.ix (by assumption) (by with_unfolding_all first | assumption | rfl) ?_ | refine w_forq ?_ | refine w_forqR ?_ | refine w_forqC ?_ | refine w_forqB ?_ | refine low_and (by walk_at "lo") ?_ | refine le_and (by walk_at "le") ?_)
local macro_rules | `(tactic| walk_at "ev") => `(tactic| first | with_reducible refine w_sif ?_ | walk_at "evs")
local macro_rules | `(tactic| walk_at "evp") => `(tactic| first
  | with_reducible apply w_andV | with_reducible apply w_orV | with_reducible apply w_tAndV | with_reducible apply w_tOrV | exact ⟨rfl, rfl⟩ | walk_at "ev")
local macro_rules | `(tactic| walk_at "evq") => `(tactic| first
  | with_reducible apply w_andV | with_reducible apply w_orV | with_reducible apply w_tAndV | with_reducible apply w_tOrV | exact ⟨rfl, rfl⟩ | walk_at "evs")

abbrev iL (l : List Int) : Cell := .lst (l.map D.int)
@[simp] theorem closed_iL (n : Nat) (l : List Int) : closedC n (iL l) = true := closedDs_ints n l
@[simp] theorem closed_iL' (n : Nat) (l : List Int) : closedC n (.lst (l.map D.int)) = true := closedDs_ints n l
theorem closed_sL (n : Nat) (l : List Str) : closedC n (.lst (l.map D.str)) = true := closedDs_strs n l
structure Vs (rs ls : List Int) : Prop where
  len : ls.length = rs.length
  two : 2 ≤ rs.length
  top : rs.length ≤ 202
  r : ∀ (i : Nat) (x : Int), rs[i]? = some x → i + 1 ≤ x ∧ x ≤ rs.length
  l : ∀ (i : Nat) (x : Int), ls[i]? = some x → 0 ≤ x ∧ x ≤ i
theorem get_ex {A : Type} {l : List A} {i : Nat} (h : i < l.length) : ∃ x, l[i]? = some x := ⟨l[i], List.getElem?_eq_getElem h⟩
theorem getD_of {l : List Int} {i : Nat} {x : Int} (h : l[i]? = some x) : l.getD i 0 = x := by rw [List.getD_eq_getElem?_getD, h]; rfl
theorem Vs.setR {rs ls : List Int} {i : Nat} {x : Int} (h : Vs rs ls) (h1 : i + 1 ≤ x) (h2 : x ≤ rs.length) : Vs (rs.set i x) ls := by
  refine ⟨by simp [h.len], by simpa using h.two, by simpa using h.top, fun j y hj => ?_, h.l⟩
  rw [List.getElem?_set] at hj
  rw [List.length_set]
  split at hj
  · rename_i e
    subst e
    split at hj
    · cases hj
      exact ⟨h1, h2⟩
    · cases hj
  · exact h.r j y hj
theorem Vs.setL {rs ls : List Int} {i : Nat} {x : Int} (h : Vs rs ls) (h1 : 0 ≤ x) (h2 : x ≤ i) : Vs rs (ls.set i x) := by
  refine ⟨by simp [h.len], h.two, h.top, h.r, fun j y hj => ?_⟩
  rw [List.getElem?_set] at hj
  split at hj
  · rename_i e
    subst e
    split at hj
    · cases hj
      exact ⟨h1, h2⟩
    · cases hj
  · exact h.l j y hj
theorem Vs.sm1 {rs ls : List Int} (v : Vs rs ls) : ∀ x ∈ rs, smI x := fun x hx => by
  obtain ⟨i, hi, e⟩ := List.getElem_of_mem hx
  have h1 := v.r i x (by rw [List.getElem?_eq_getElem hi, e])
  have := v.top
  exact ⟨by omega, by omega⟩
theorem Vs.sm2 {rs ls : List Int} (v : Vs rs ls) : ∀ x ∈ ls, smI x := fun x hx => by
  obtain ⟨i, hi, e⟩ := List.getElem_of_mem hx
  have h1 := v.l i x (by rw [List.getElem?_eq_getElem hi, e])
  have := v.top
  have := v.len
  exact ⟨by omega, by omega⟩
/-- whom i holds by the right hand, whom by the left (of i + 1) -/
theorem Vs.rx {rs ls : List Int} (v : Vs rs ls) {i : Int} (h0 : 0 ≤ i) (h1 : i < rs.length) : ∃ x, rs[i.toNat]? = some x ∧ atI (rs.map D.int) i = some (.int x) ∧ i + 1 ≤ x ∧ x ≤ rs.length ∧ rs.getD i.toNat 0 = x := by
  obtain ⟨x, hx⟩ := get_ex (l := rs) (i := i.toNat) (by omega)
  have := v.r _ _ hx
  exact ⟨x, hx, atI_map h0 hx, by omega, by omega, getD_of hx⟩
theorem Vs.lx {rs ls : List Int} (v : Vs rs ls) {i : Int} (h0 : 0 ≤ i) (h1 : i < rs.length) : ∃ x, ls[i.toNat]? = some x ∧ atI (ls.map D.int) i = some (.int x) ∧ 0 ≤ x ∧ x ≤ i ∧ ls.getD i.toNat 0 = x := by
  have hl := v.len
  obtain ⟨x, hx⟩ := get_ex (l := ls) (i := i.toNat) (by omega)
  have := v.l _ _ hx
  exact ⟨x, hx, atI_map h0 hx, by omega, by omega, getD_of hx⟩
theorem start_vs {n : Nat} (h1 : 1 ≤ n) (h2 : n ≤ 201) : ∃ rs ls, Vs rs ls ∧ rs.length = n + 1 ∧ rangeD 1 (n + 2 : Int) = rs.map D.int ∧ rangeD 0 (n + 1 : Int) = ls.map D.int := by
  refine ⟨(List.range (n + 1)).map fun i : Nat => 1 + (i : Int), (List.range (n + 1)).map fun i : Nat => (i : Int), ⟨by simp, by simp; omega, by simp; omega, fun i x h => ?_, fun i x h => ?_⟩, by simp, ?_, ?_⟩
  · rw [List.getElem?_map, Option.map_eq_some_iff] at h
    obtain ⟨a, h, rfl⟩ := h
    rw [List.getElem?_eq_some_iff] at h
    obtain ⟨h2, h3⟩ := h
    rw [List.getElem_range] at h3
    rw [List.length_range] at h2
    simp
    omega
  · rw [List.getElem?_map, Option.map_eq_some_iff] at h
    obtain ⟨a, h, rfl⟩ := h
    rw [List.getElem?_eq_some_iff] at h
    obtain ⟨h2, h3⟩ := h
    rw [List.getElem_range] at h3
    omega
  · unfold rangeD
    rw [show ((n : Int) + 2 - 1).toNat = n + 1 from by omega]
    simp
  · unfold rangeD
    rw [show ((n : Int) + 1 - 0).toNat = n + 1 from by omega]
    simp
abbrev sD (rs ls : List Int) : D := .tup [.lst (rs.map D.int), .lst (ls.map D.int)]
theorem map_all {A : Type} {f : A → Bool} : ∀ {l : List A}, (∀ x ∈ l, f x = true) → (l.map f).all id = true := fun {l} h => by
  rw [List.all_map]
  exact List.all_eq_true.mpr h
/-- a stand, of lists or cells -/
def IsSt (C : Store) (x : D) (rs ls : List Int) : Prop := ∃ a b, x = .tup [a, b] ∧ IsLst C a (rs.map D.int) ∧ IsLst C b (ls.map D.int)
theorem IsSt.f {C : Store} (rs ls : List Int) : IsSt C (sD rs ls) rs ls := ⟨_, _, rfl, .f _, .f _⟩
theorem IsSt.c {C : Store} {i j : Nat} {rs ls : List Int} (h1 : C[i]? = some (iL rs)) (h2 : C[j]? = some (iL ls)) : IsSt C (.tup [.cell i, .cell j]) rs ls := ⟨_, _, rfl, .c _ _ h1, .c _ _ h2⟩
theorem IsSt.app {C X : Store} {x : D} {rs ls : List Int} (h : IsSt C x rs ls) : IsSt (C ++ X) x rs ls := by
  obtain ⟨a, b, e, h1, h2⟩ := h
  exact ⟨a, b, e, h1.app, h2.app⟩
theorem Shw.stand {rs ls : List Int} (v : Vs rs ls) : Shw (sD rs ls) 17000 2 (.tuple [.list (rs.map PyData.int), .list (ls.map PyData.int)]) := by
  have h := Shw.tup2 (Shw.ints v.sm1) (Shw.ints v.sm2)
  have h1 := v.top
  have h2 := v.len
  exact ⟨h.to, h.sh, h.la, h.de, Nat.le_trans h.we (by omega), h.si⟩
theorem Alk.stand {C : Store} {n : Nat} {x y : D} {rs ls : List Int} (v : Vs rs ls) (hx : IsSt C x rs ls) (hy : IsSt C y rs ls) : Alk C (n + 3) x y := by
  obtain ⟨a, b, rfl, h1, h2⟩ := hx
  obtain ⟨a', b', rfl, h3, h4⟩ := hy
  have t1 := v.top
  have t2 := v.len
  exact Alk.tup2 (Alk.ints h1 h3 (by omega)) (Alk.ints h2 h4 (by omega))
/-- the whole ring -/
def whR (n : Nat) : List Int := (List.range (n + 1)).map fun i : Nat => 1 + (i : Int)
def whL (n : Nat) : List Int := (List.range (n + 1)).map fun i : Nat => (i : Int)
theorem whR_get {n i : Nat} (h : i < n + 1) : (whR n)[i]? = some (1 + (i : Int)) := by simp [whR, h]
theorem whL_get {n i : Nat} (h : i < n + 1) : (whL n)[i]? = some (i : Int) := by simp [whL, h]
theorem whR_len (n : Nat) : (whR n).length = n + 1 := by simp [whR]
theorem whL_len (n : Nat) : (whL n).length = n + 1 := by simp [whL]
theorem wh_vs {n : Nat} (h1 : 1 ≤ n) (h2 : n ≤ 201) : Vs (whR n) (whL n) := by
  refine ⟨by rw [whR_len, whL_len], by rw [whR_len]; omega, by rw [whR_len]; omega, fun i x h => ?_, fun i x h => ?_⟩
  · have hi := (List.getElem?_eq_some_iff.mp h).1
    rw [whR_len] at hi ⊢
    rw [whR_get hi] at h
    cases h
    omega
  · have hi := (List.getElem?_eq_some_iff.mp h).1
    rw [whL_len] at hi
    rw [whL_get hi] at h
    cases h
    omega
theorem rg_whR (n : Nat) : rangeD 1 (n + 2 : Int) = (whR n).map D.int := by
  unfold rangeD whR
  rw [show ((n : Int) + 2 - 1).toNat = n + 1 from by omega]
  simp
theorem rg_whL (n : Nat) : rangeD 0 (n + 1 : Int) = (whL n).map D.int := by
  unfold rangeD whL
  rw [show ((n : Int) + 1 - 0).toNat = n + 1 from by omega]
  simp

theorem cut_take {A : Type} (f : A → D) (l : List A) (m : Int) (h : 0 ≤ m) : cutD (l.map f) none (some m) = (l.take m.toNat).map f := by
  rw [cutD_map]
  congr 1
  unfold HT.sIx
  simp only
  rw [if_neg (by omega), List.drop_zero, Nat.sub_zero]
  by_cases hm : m.toNat ≤ l.length
  · rw [Nat.min_eq_left hm]
  · rw [Nat.min_eq_right (by omega), List.take_of_length_le (Nat.le_refl _), List.take_of_length_le (by omega)]
theorem cut_drop {A : Type} (f : A → D) (l : List A) (m : Int) (h : 0 ≤ m) : cutD (l.map f) (some m) none = (l.drop m.toNat).map f := by
  rw [cutD_map]
  congr 1
  unfold HT.sIx
  simp only
  rw [if_neg (by omega)]
  by_cases hm : m.toNat ≤ l.length
  · rw [Nat.min_eq_left hm, List.take_of_length_le (by simp)]
  · rw [Nat.min_eq_right (by omega), List.drop_of_length_le (Nat.le_refl _), List.drop_of_length_le (by omega)]
    simp

section
variable {rs ls : List Int} {C : Store} {QD : D → Store → Prop} {x : D}
end

/-- a sack, drawn from at most m times -/
def Sk (m : Nat) (c : Cell) : Prop := ∃ a b k : Int, c = .lst [.int a, .int b, .int k] ∧ 0 ≤ a ∧ 0 ≤ b ∧ b < 10 ^ 50 ∧ 0 ≤ k ∧ k ≤ m
theorem Sk.mono {m n : Nat} {c : Cell} (h : Sk m c) (hn : m ≤ n) : Sk n c := by
  obtain ⟨a, b, k, e, h1, h2, h3, h4, h5⟩ := h
  exact ⟨a, b, k, e, h1, h2, h3, h4, by omega⟩
theorem closed3 (n : Nat) (a b c : Int) : closedC n (.lst [.int a, .int b, .int c]) = true := rfl
theorem Sk.closed {m : Nat} {c : Cell} (h : Sk m c) (n : Nat) : closedC n c = true := by
  obtain ⟨a, b, k, rfl, _⟩ := h
  rfl
theorem take_ok {C : Store} {k m : Nat} {n : Int} {S : Cell} {QD : D → Store → Prop} (hC : C[k]? = some S) (h : Sk m S) (hm : m ≤ 10 ^ 9) (h0 : 0 < n) (h1 : n ≤ 10 ^ 60)
    (q : ∀ (r : Int) (S' : Cell), 0 ≤ r → r < n → Sk (m + 1) S' → QD (.int r) (C.set k S')) : W (m__law_take [.cell k, .int n] C) QD := by
  obtain ⟨a, b, c, rfl, ha, hb, hb2, hc, hc2⟩ := h
  unfold m__law_take
  repeat' walk_at "ev"
  by_cases ha0 : 0 < a
  · refine ite_t (by simpa using ha0) ?_
    repeat' walk_at "ev"
    refine fin_set1 rfl rfl rfl (q _ _ (Int.emod_nonneg _ (by omega)) (Int.emod_lt_of_pos _ h0) ⟨_, _, _, rfl, Int.ediv_nonneg ha (by omega), hb, hb2, hc, by omega⟩)
  · refine ite_f (by simpa using ha0) ?_
    have hk : (C.set k (.lst [.int a, .int b, .int (c + 1)]))[k]? = some (.lst [.int a, .int b, .int (c + 1)]) := get_set_self hC
    have p1 : -powLine < b + 650060 * (c + 1) := by unfold powLine; omega
    have p2 : b + 650060 * (c + 1) < powLine := by unfold powLine; omega
    have s1 : smallI (c + 1) = true := by
      unfold smallI
      rw [Bool.and_eq_true]
      exact ⟨decide_eq_true (by omega), decide_eq_true (by omega)⟩
    have g0 := Int.emod_nonneg ((b + 650060 * (c + 1)) ^ Int.toNat 3) (b := 10 ^ Int.toNat 36 + 67) (by decide)
    have g1 := Int.emod_lt_of_pos ((b + 650060 * (c + 1)) ^ Int.toNat 3) (b := 10 ^ Int.toNat 36 + 67) (by decide)
    repeat' walk_at "ev"
    generalize (b + 650060 * (c + 1)) ^ Int.toNat 3 % (10 ^ Int.toNat 36 + 67) = G at g0 g1 ⊢
    rw [show Int.toNat 36 = 36 from rfl] at g1
    have g2 : 0 ≤ G * (c + 1) := Int.mul_nonneg g0 (by omega)
    have g3 : G * (c + 1) ≤ 10 ^ 40 * 10 ^ 10 := Int.mul_le_mul (by omega) (by omega) (by omega) (by omega)
    have p3 : -powLine < G * (c + 1) + 99991 := by unfold powLine; omega
    have p4 : G * (c + 1) + 99991 < powLine := by unfold powLine; omega
    repeat' walk_at "ev"
    refine fin_set1 rfl rfl rfl (q _ _ (Int.emod_nonneg _ (by omega)) (Int.emod_lt_of_pos _ h0) ⟨_, _, _, rfl, ha, hb, hb2, by omega, by omega⟩)

/-! what ends by an error -/
def EXp {A : Type} (o : R A) (P : Exn → Store → Prop) : Prop := ∃ x C, o = .ex x C ∧ P x C
section
variable {A S S2 : Type} {P : Exn → Store → Prop} {sl : Sl} {C : Store} {m : ME} {mas : MG (List D)} {u u1 u2 : MS} {t : MG Bool} {x f : Str} {n : Nat} {mf : MF} {g : MT} {ds : List D} {hm : Exn → MS} {QS : Fl → Sl → Store → Prop}
theorem x_bind {B : Type} {o : R A} {k : A → R B} (h : EXp o P) : EXp (o.bind k) P := by
  obtain ⟨x, C, rfl, p⟩ := h
  exact ⟨x, C, rfl, p⟩
theorem x_bindW {o : R (S × Store)} {k : S × Store → R A} (h : W o fun a C => EXp (k (a, C)) P) : EXp (o.bind k) P := by
  obtain ⟨a, C, rfl, p⟩ := h
  exact p
theorem x_seq1 (h : EXp (u1 sl C) P) : EXp (sSeq u1 u2 sl C) P := x_bind h
theorem x_seq (h : WS (u1 sl C) fun f sl1 C1 => f = .nx ∧ EXp (u2 sl1 C1) P) : EXp (sSeq u1 u2 sl C) P := by
  obtain ⟨f, sl1, C1, e, rfl, p⟩ := h
  unfold sSeq
  rw [e]
  exact p
theorem x_if (h : W (t sl C) fun b C1 => if b = true then EXp (u1 sl C1) P else EXp (u2 sl C1) P) : EXp (sIf t u1 u2 sl C) P := x_bindW (h.imp fun b C1 h => by
  cases b with
  | true => exact h
  | false => exact h)
theorem x_raise (h : W (m sl C) fun d C1 => P ⟨x, some (f, d)⟩ C1) : EXp (sRaise1 x f m sl C) P := x_bindW (h.imp fun d C1 h => ⟨_, _, rfl, h⟩)
theorem x_asg (h : EXp (m sl C) P) : EXp (sAsg m g sl C) P := x_bind h
theorem x_drop (h : EXp (m sl C) P) : EXp (sDrop m sl C) P := x_bind h
theorem x_ret (h : EXp (m sl C) P) : EXp (sRet m sl C) P := x_bind h
theorem x_fz {n : Nat} (h : EXp (m sl C) P) : EXp (mFz n m sl C) P := x_bind h
theorem x_aCons {ms : MG (List D)} (h : EXp (m sl C) P) : EXp (aCons m ms sl C) P := x_bind h
theorem x_Fa (h : EXp (mas sl C) P) : EXp (mF n mf mas sl C) P := x_bind h
theorem x_F (h : W (mas sl C) fun xs C1 => xs.length = n ∧ EXp (mf xs C1) P) : EXp (mF n mf mas sl C) P := x_bindW (h.imp fun xs C1 h => by
  simp only [if_pos h.1]
  exact h.2)
theorem x_runn {sl' : Sl} (e : ds.map some ++ List.replicate (n - ds.length) none = sl') (h : EXp (u sl' C) P) : EXp (runD n u ds C) P := by
  subst e
  exact x_bind h
theorem w_tryN {mb : MS} (h : WS (mb sl C) QS) : WS (sTry mb hm sl C) QS := by
  obtain ⟨f, sl1, C1, e, q⟩ := h
  refine ⟨f, sl1, C1, ?_, q⟩
  unfold sTry
  rw [e]
theorem w_tryX {mb : MS} (h : EXp (mb sl C) fun x C1 => WS (hm x sl C1) QS) : WS (sTry mb hm sl C) QS := by
  obtain ⟨x, C1, e, f, sl2, C2, e2, q⟩ := h
  refine ⟨f, sl2, C2, ?_, q⟩
  unfold sTry
  rw [e]
  exact e2
end
theorem idxF_str {w : Str} : ∀ {l : List Str}, w ∈ l → idxF (.str w) (l.map D.str) = some (l.idxOf w)
  | [], h => nomatch h
  | a :: l, h => by
    rw [List.map_cons]
    unfold idxF
    rw [List.idxOf_cons]
    by_cases ha : a = w
    · have : eqF (.str a) (.str w) = true := by show (a == w) = true; simpa using ha
      rw [if_pos this, ha]
      simp
    · have h1 : ¬ eqF (.str a) (.str w) = true := by show ¬ (a == w) = true; simpa using ha
      have h2 : (a == w) = false := by simpa using ha
      rcases List.mem_cons.mp h with e | h
      · exact absurd e.symm ha
      · rw [if_neg h1, idxF_str h, h2]
        rfl
theorem w_indexS {w : Str} {l : List Str} {C : Store} {QD : D → Store → Prop} (h : w ∈ l) (q : QD (.int (l.idxOf w : Nat)) C) : W (gIndex (.lst (l.map D.str)) [.str w] C) QD := by
  refine W.of (a := .int (l.idxOf w : Nat)) (C := C) ?_ q
  have hf : (l.map D.str).all flatD = true := by simp [flatD]
  show (if (flatD (.str w) && (l.map D.str).all flatD) = true then (match idxF (.str w) (l.map D.str) with
    | some j => R.ok (D.int (j : Nat), C)
    | none => .no) else .no) = _
  rw [hf, idxF_str h]
  rfl
theorem w_hmPick {x f w : Str} {d : D} {i j : Nat} {sl : Sl} {C : Store} {QS : Fl → Sl → Store → Prop} (hi : i < sl.length) (q : QS .nx ((sl.set j (some (.tup [.str w, d]))).set i none) C) : WS (hmPick x f w i j ⟨x, some (f, d)⟩ sl C) QS := by
  refine ⟨.nx, _, C, ?_, q⟩
  show (if x = x ∧ f = f ∧ i < sl.length then _ else _) = _
  rw [if_pos ⟨rfl, rfl, hi⟩]
theorem w_hmFld {x f : Str} {d : D} {i j : Nat} {sl : Sl} {C : Store} {QS : Fl → Sl → Store → Prop} (hi : i < sl.length) (q : QS .nx ((sl.set j (some d)).set i none) C) : WS (hmFld x f i j ⟨x, some (f, d)⟩ sl C) QS := by
  refine ⟨.nx, _, C, ?_, q⟩
  show (if x = x ∧ f = f ∧ i < sl.length then _ else _) = _
  rw [if_pos ⟨rfl, rfl, hi⟩]

theorem x_forM {g : MT} {u : MS} {gd : Gd} {P : Exn → Store → Prop} (Inv : Nat → Sl → Store → Prop) (k : Nat) (hg : ∀ i sl C, Inv i sl C → okG gd C) {ds : List D} {sl : Sl} {C : Store}
    (step : ∀ i d sl C, i < k → ds[i]? = some d → Inv i sl C → W (g d sl C) fun sl1 C1 => WS (u sl1 C1) fun f sl2 C2 => f = .nx ∧ Inv (i + 1) sl2 C2)
    (last : ∀ d sl C, ds[k]? = some d → Inv k sl C → W (g d sl C) fun sl1 C1 => EXp (u sl1 C1) P) (hk : k < ds.length) (h0 : Inv 0 sl C) : EXp (Nv.forM g u gd ds sl C) P := by
  suffices h : ∀ (m : Nat) (es : List D) (i : Nat) sl C, es = ds.drop i → k = i + m → Inv i sl C → EXp (Nv.forM g u gd es sl C) P from h k ds 0 sl C rfl (by omega) h0
  intro m
  induction m with
  | zero =>
    intro es i sl C he hi inv
    have hik : i = k := by omega
    subst hik
    obtain ⟨d, hd⟩ : ∃ d, ds[i]? = some d := ⟨ds[i], List.getElem?_eq_getElem hk⟩
    rw [List.drop_eq_getElem_cons hk] at he
    have hdk : ds[i] = d := by
      rw [List.getElem?_eq_getElem hk] at hd
      exact Option.some.inj hd
    rw [hdk] at he
    subst he
    unfold Nv.forM
    rw [if_pos (hg _ _ _ inv)]
    obtain ⟨sl1, C1, e1, h1⟩ := last d sl C hd inv
    rw [e1]
    obtain ⟨x, C2, e2, p⟩ := h1
    refine ⟨x, C2, ?_, p⟩
    show (u sl1 C1).bind _ = _
    rw [e2]
    rfl
  | succ m ih =>
    intro es i sl C he hi inv
    have hil : i < ds.length := by omega
    obtain ⟨d, hd⟩ : ∃ d, ds[i]? = some d := ⟨ds[i], List.getElem?_eq_getElem hil⟩
    rw [List.drop_eq_getElem_cons hil] at he
    have hdk : ds[i] = d := by
      rw [List.getElem?_eq_getElem hil] at hd
      exact Option.some.inj hd
    rw [hdk] at he
    subst he
    unfold Nv.forM
    rw [if_pos (hg _ _ _ inv)]
    obtain ⟨sl1, C1, e1, f, sl2, C2, e2, rfl, h2⟩ := step i d sl C (by omega) hd inv
    rw [e1]
    obtain ⟨x, C3, e3, p⟩ := ih (ds.drop (i + 1)) (i + 1) sl2 C2 rfl (by omega) h2
    refine ⟨x, C3, ?_, p⟩
    show (u sl1 C1).bind _ = _
    rw [e2]
    exact e3

/-! texts as lists of signs -/
section
open TL
/-- a number's figures -/
def numS (i : Int) : Str := Str.ofString (toString i)
theorem tl_numS (n : Nat) : tl (numS (n : Int)) = numL n := tl_num n
theorem numS_len {n k : Nat} (hk : 0 < k) (h : n < 10 ^ k) : (numS (n : Int)).length ≤ k := by
  rw [len_tl, tl_numS]
  exact numL_len hk h
theorem numL_head : ∀ n : Nat, (numL n)[0]? = some 48 → n = 0 := by
  intro n
  induction n using Nat.strongRecOn with
  | _ n ih =>
    intro h
    by_cases h1 : n < 10
    · rw [numL_lt h1] at h
      simp at h
      omega
    · rw [numL_step (by omega), List.getElem?_append_left (by have := numL_ne (n / 10); cases e : numL (n / 10) with
        | nil => exact absurd e this
        | cons a b => simp)] at h
      have := ih (n / 10) (by omega) h
      omega
theorem numL_last (n : Nat) : ∃ c l, numL n = l ++ [c] ∧ 48 ≤ c ∧ c ≤ 57 := by
  by_cases h : n < 10
  · exact ⟨48 + n, [], by rw [numL_lt h]; rfl, by omega, by omega⟩
  · exact ⟨48 + n % 10, numL (n / 10), numL_step (by omega), by omega, by omega⟩
theorem cutS_last {a : Str} {c : Nat} : cutS (a ++ ⟨#[c]⟩) (some (-1)) none = ⟨#[c]⟩ := by
  refine ext_tl ?_
  have hl : (a ++ (⟨#[c]⟩ : Str)).length = a.length + 1 := by rw [len_tl, tl_append, List.length_append, ← len_tl]; rfl
  show ((tl (a ++ (⟨#[c]⟩ : Str))).drop (HT.sIx (a ++ (⟨#[c]⟩ : Str)).length 0 (some (-1)))).take (HT.sIx (a ++ (⟨#[c]⟩ : Str)).length (a ++ (⟨#[c]⟩ : Str)).length none - HT.sIx (a ++ (⟨#[c]⟩ : Str)).length 0 (some (-1))) = [c]
  rw [hl, show HT.sIx (a.length + 1) 0 (some (-1)) = a.length from by show (if (-1 : Int) < 0 then ((-1 : Int) + ((a.length + 1 : Nat) : Int)).toNat else min (-1 : Int).toNat (a.length + 1)) = a.length; rw [if_pos (by decide)]; omega, show HT.sIx (a.length + 1) (a.length + 1) none = a.length + 1 from rfl, tl_append, len_tl a, List.drop_append_of_le_length (Nat.le_refl _), List.drop_length, List.nil_append]
  simp [tl]
theorem cutS_init {a : Str} {c : Nat} : cutS (a ++ ⟨#[c]⟩) none (some (-1)) = a := by
  refine ext_tl ?_
  have hl : (a ++ (⟨#[c]⟩ : Str)).length = a.length + 1 := by rw [len_tl, tl_append, List.length_append, ← len_tl]; rfl
  show ((tl (a ++ (⟨#[c]⟩ : Str))).drop (HT.sIx (a ++ (⟨#[c]⟩ : Str)).length 0 none)).take (HT.sIx (a ++ (⟨#[c]⟩ : Str)).length (a ++ (⟨#[c]⟩ : Str)).length (some (-1)) - HT.sIx (a ++ (⟨#[c]⟩ : Str)).length 0 none) = tl a
  rw [hl, show HT.sIx (a.length + 1) (a.length + 1) (some (-1)) = a.length from by show (if (-1 : Int) < 0 then ((-1 : Int) + ((a.length + 1 : Nat) : Int)).toNat else min (-1 : Int).toNat (a.length + 1)) = a.length; rw [if_pos (by decide)]; omega, show HT.sIx (a.length + 1) 0 none = 0 from rfl, tl_append, List.drop_zero, Nat.sub_zero, len_tl a, List.take_append_of_le_length (Nat.le_refl _), List.take_length]
theorem str_snoc {z : Str} {l : List Nat} {c : Nat} (h : tl z = l ++ [c]) : z = ⟨l.toArray⟩ ++ ⟨#[c]⟩ := by
  refine ext_tl ?_
  rw [h, tl_append]
theorem numS_last (n : Nat) : cutS (numS (n : Int)) (some (-1)) none ≠ "," := by
  obtain ⟨c, l, e, h1, h2⟩ := numL_last n
  rw [str_snoc (tl_numS n |>.trans e), cutS_last]
  intro h
  have := congrArg tl h
  have e2 : tl ("," : Str) = [44] := by rfl
  rw [e2] at this
  have : ([c] : List Nat) = [44] := this
  cases this
  omega
theorem numS_free {n s : Nat} (h : s < 48 ∨ 57 < s) : s ∉ tl (numS (n : Int)) := by
  rw [tl_numS]
  exact numL_free h
theorem int_numS {n : Nat} (h : (numS (n : Int)).length ≤ 640) : PySem.intText? (numS (n : Int)) = some (n : Int) := int_num (by rw [← tl_numS, ← len_tl]; omega)
/-- the words of a history's text -/
def wsOf : List (Str × Int) → List Str
  | [] => [Str.empty]
  | [e] => [e.1, numS e.2]
  | e :: f :: es => e.1 :: (numS e.2 ++ ",") :: wsOf (f :: es)
def lineOf (es : List (Str × Int)) : List Str := es.map fun e => e.1 ++ " " ++ numS e.2
theorem wsOf_ne : ∀ es, wsOf es ≠ []
  | [] => by simp [wsOf]
  | [e] => by simp [wsOf]
  | e :: f :: es => by simp [wsOf]
theorem joinL_cons {S p : List Nat} {l : List (List Nat)} (h : l ≠ []) : joinL S (p :: l) = p ++ (S ++ joinL S l) := by
  cases l with
  | nil => exact absurd rfl h
  | cons q r => rfl
theorem line_ws : ∀ es : List (Str × Int), joinL (tl ", ") ((lineOf es).map tl) = joinL (tl " ") ((wsOf es).map tl)
  | [] => rfl
  | [e] => by
    show tl (e.1 ++ " " ++ numS e.2) = tl e.1 ++ (tl " " ++ tl (numS e.2))
    rw [tl_append, tl_append, List.append_assoc]
  | e :: f :: es => by
    have ih := line_ws (f :: es)
    have h1 : (wsOf (f :: es)).map tl ≠ [] := fun h => wsOf_ne _ (List.map_eq_nil_iff.mp h)
    show tl (e.1 ++ " " ++ numS e.2) ++ (tl ", " ++ joinL (tl ", ") ((lineOf (f :: es)).map tl)) = joinL (tl " ") (tl e.1 :: tl (numS e.2 ++ ",") :: (wsOf (f :: es)).map tl)
    rw [ih, joinL_cons (by simp), joinL_cons h1, tl_append, tl_append, tl_append, show tl ", " = tl "," ++ tl " " from rfl]
    simp only [List.append_assoc]
theorem line_join (es : List (Str × Int)) : Txt.join ", " (lineOf es) = Txt.join " " (wsOf es) := by
  refine ext_tl ?_
  rw [join_eq, join_eq, tl_join, tl_join, line_ws]
theorem wsOf_free : ∀ es : List (Str × Int), (∀ e ∈ es, 32 ∉ tl e.1 ∧ 0 ≤ e.2) → ∀ p ∈ wsOf es, 32 ∉ tl p := by
  have key : ∀ i : Int, 0 ≤ i → 32 ∉ tl (numS i) := fun i h => by
    obtain ⟨n, rfl⟩ := Int.eq_ofNat_of_zero_le h
    exact numS_free (.inl (by decide))
  intro es
  induction es with
  | nil =>
    intro _ p hp
    cases List.mem_singleton.mp hp
    decide
  | cons e es ih =>
    intro h p hp
    have he := h e (List.mem_cons_self ..)
    cases es with
    | nil =>
      have hp : p ∈ [e.1, numS e.2] := hp
      simp only [List.mem_cons, List.not_mem_nil, or_false] at hp
      rcases hp with rfl | rfl
      · exact he.1
      · exact key _ he.2
    | cons f es =>
      have hp : p ∈ e.1 :: (numS e.2 ++ ",") :: wsOf (f :: es) := hp
      rcases List.mem_cons.mp hp with rfl | hp
      · exact he.1
      rcases List.mem_cons.mp hp with rfl | hp
      · rw [tl_append]
        intro hm
        rcases List.mem_append.mp hm with hm | hm
        · exact key _ he.2 hm
        · rw [show tl ("," : Str) = [44] from rfl] at hm
          simp at hm
      · exact ih (fun e he => h e (List.mem_cons_of_mem _ he)) p hp
theorem line_split (es : List (Str × Int)) (h : ∀ e ∈ es, 32 ∉ tl e.1 ∧ 0 ≤ e.2) : Txt.split (Txt.join ", " (lineOf es)) " " = wsOf es := by
  rw [line_join]
  exact split_join (s := 32) (S := []) (by rfl) (by decide +kernel) (wsOf_ne es) (wsOf_free es h)
theorem wsOf_len : ∀ es : List (Str × Int), es ≠ [] → (wsOf es).length = 2 * es.length
  | [], h => absurd rfl h
  | [e], _ => rfl
  | e :: f :: es, _ => by
    show (wsOf (f :: es)).length + 2 = _
    rw [wsOf_len (f :: es) (by simp)]
    simp
    omega
theorem wsOf_even : ∀ (es : List (Str × Int)) (j : Nat) (e : Str × Int), es[j]? = some e → (wsOf es)[2 * j]? = some e.1 ∧ (wsOf es)[2 * j + 1]? = some (if j + 1 < es.length then numS e.2 ++ "," else numS e.2)
  | [], j, e, h => by simp at h
  | [a], 0, e, h => by
    cases h
    exact ⟨rfl, rfl⟩
  | [a], j + 1, e, h => by simp at h
  | a :: f :: es, 0, e, h => by
    cases h
    refine ⟨rfl, ?_⟩
    rw [if_pos (by simp)]
    rfl
  | a :: f :: es, j + 1, e, h => by
    have ih := wsOf_even (f :: es) j e h
    rw [show 2 * (j + 1) = 2 * j + 1 + 1 from by omega]
    refine ⟨ih.1, ?_⟩
    show (wsOf (f :: es))[2 * j + 1]? = _
    rw [ih.2]
    simp only [List.length_cons]
    split <;> split <;> first | rfl | omega
end

/-! any text, cut and read -/
section
open TL
theorem spl_sp : ∀ (l acc : List Nat), 32 ∉ acc → spl [32] 0 acc l ≠ [] ∧ joinL [32] (spl [32] 0 acc l) = acc ++ l ∧ (∀ p ∈ spl [32] 0 acc l, 32 ∉ p) ∧ ∀ p ∈ spl [32] 0 acc l, ∀ c ∈ p, c ∈ acc ∨ c ∈ l
  | [], acc, ha => by
    rw [spl_nil]
    refine ⟨by simp, by simp [joinL], fun p hp => ?_, fun p hp c hc => ?_⟩
    · rw [List.mem_singleton.mp hp]
      exact ha
    · rw [List.mem_singleton.mp hp] at hc
      exact .inl hc
  | c :: r, acc, ha => by
    by_cases h : c = 32
    · subst h
      rw [spl_hit (show pre [32] (32 :: r) = true from by simp [pre])]
      obtain ⟨i1, i2, i3, i4⟩ := spl_sp r [] (by simp)
      refine ⟨by simp, ?_, fun p hp => ?_, fun p hp d hd => ?_⟩
      · show joinL [32] (acc :: spl [32] 0 [] r) = _
        rw [joinL_cons i1, i2]
        simp
      · rcases List.mem_cons.mp hp with rfl | hp
        · exact ha
        · exact i3 p hp
      · rcases List.mem_cons.mp hp with rfl | hp
        · exact .inl hd
        · rcases i4 p hp d hd with h | h
          · cases h
          · exact .inr (List.mem_cons_of_mem _ h)
    · rw [spl_miss (show pre [32] (c :: r) = false from by simp [pre, h])]
      obtain ⟨i1, i2, i3, i4⟩ := spl_sp r (acc ++ [c]) (by simp [ha]; exact fun q => h q.symm)
      refine ⟨i1, by rw [i2]; simp, i3, fun p hp d hd => ?_⟩
      rcases i4 p hp d hd with h | h
      · rcases List.mem_append.mp h with h | h
        · exact .inl h
        · rw [List.mem_singleton.mp h]
          exact .inr (List.mem_cons_self ..)
      · exact .inr (List.mem_cons_of_mem _ h)
abbrev cutW (z : Str) : List Str := Txt.split z " "
theorem cutW_tl (z : Str) : (cutW z).map tl = spl [32] 0 [] (tl z) := split_spl z " " (by decide +kernel) (kind_ok (by decide +kernel))
theorem cutW_ne (z : Str) : cutW z ≠ [] := fun h => by
  have := (spl_sp (tl z) [] (by simp)).1
  rw [← cutW_tl, h] at this
  exact this rfl
theorem cutW_join (z : Str) : Txt.join " " (cutW z) = z := ext_tl (by
  rw [join_eq, tl_join, cutW_tl]
  exact (spl_sp (tl z) [] (by simp)).2.1)
theorem cutW_free {z p : Str} (h : p ∈ cutW z) : 32 ∉ tl p := (spl_sp (tl z) [] (by simp)).2.2.1 (tl p) (by rw [← cutW_tl]; exact List.mem_map_of_mem h)
theorem cutW_mem {z p : Str} (h : p ∈ cutW z) {c : Nat} (hc : c ∈ tl p) : c ∈ tl z := by
  rcases (spl_sp (tl z) [] (by simp)).2.2.2 (tl p) (by rw [← cutW_tl]; exact List.mem_map_of_mem h) c hc with h | h
  · cases h
  · exact h
theorem cut_join {ps : List Str} (hne : ps ≠ []) (h : ∀ p ∈ ps, 32 ∉ tl p) : cutW (Txt.join " " ps) = ps := split_join (s := 32) (S := []) (by rfl) (by decide +kernel) hne h
/-- how long words are together, each with a blank -/
def wtW (ps : List Str) : Nat := (ps.map fun p => p.length + 1).sum
theorem wtW_app (a b : List Str) : wtW (a ++ b) = wtW a + wtW b := by simp [wtW]
theorem wtW_cons (a : Str) (b : List Str) : wtW (a :: b) = a.length + 1 + wtW b := by simp [wtW]
theorem joinL_wt : ∀ {ps : List Str}, ps ≠ [] → (joinL [32] (ps.map tl)).length + 1 = wtW ps
  | [], h => absurd rfl h
  | [p], _ => by
    show (tl p).length + 1 = _
    rw [wtW_cons, ← len_tl]
    rfl
  | p :: q :: r, _ => by
    have ih := joinL_wt (ps := q :: r) (by simp)
    rw [wtW_cons, ← ih]
    show (tl p ++ ([32] ++ joinL [32] ((q :: r).map tl))).length + 1 = _
    rw [List.length_append, List.length_append, ← len_tl]
    simp
    omega
theorem join_wt {ps : List Str} (h : ps ≠ []) : (Txt.join " " ps).length + 1 = wtW ps := by
  rw [len_tl, join_eq, tl_join]
  exact joinL_wt h
theorem join_le (ps : List Str) : (Txt.join " " ps).length ≤ wtW ps := by
  by_cases h : ps = []
  · subst h
    exact Nat.zero_le _
  · have := join_wt h
    omega
theorem cutW_wt (z : Str) : wtW (cutW z) = z.length + 1 := by
  rw [← join_wt (cutW_ne z), cutW_join]
theorem wtW_mem {ps : List Str} {p : Str} (h : p ∈ ps) : p.length + 1 ≤ wtW ps := by
  induction ps with
  | nil => cases h
  | cons a b ih =>
    rw [wtW_cons]
    rcases List.mem_cons.mp h with rfl | h
    · omega
    · have := ih h
      omega
theorem wtW_len (ps : List Str) : ps.length ≤ wtW ps := by
  induction ps with
  | nil => exact Nat.zero_le _
  | cons a b ih =>
    rw [wtW_cons, List.length_cons]
    omega
/-! numbers -/
def digB (z : Str) : Bool := (tl z).all fun c => decide (48 ≤ c ∧ c ≤ 57)
def wellB (z : Str) : Bool := !decide (z = "") && digB z && !(decide ((tl z)[0]? = some 48) && !decide (z = "0"))
def valN (z : Str) : Int := (NumText.digitsVal (tl z) : Nat)
def okN (z : Str) (least : Int) : Bool := wellB z && decide (least ≤ valN z)
theorem digitsVal_snoc (l : List Nat) (c : Nat) : NumText.digitsVal (l ++ [c]) = NumText.digitsVal l * 10 + (c - 48) := by
  unfold NumText.digitsVal
  rw [List.foldl_append]
  rfl
theorem canon : ∀ (n : Nat) (l : List Nat), l.length = n → l ≠ [] → (∀ c ∈ l, 48 ≤ c ∧ c ≤ 57) → (l[0]? = some 48 → l = [48]) → l = numL (NumText.digitsVal l) := by
  intro n
  induction n with
  | zero => intro l hl hne; exact absurd (List.length_eq_zero_iff.mp hl) hne
  | succ n ih =>
    intro l hl hne hd h0
    obtain ⟨l', c, rfl⟩ : ∃ l' c, l = l' ++ [c] := ⟨l.dropLast, l.getLast hne, (List.dropLast_concat_getLast hne).symm⟩
    have hc := hd c (by simp)
    by_cases he : l' = []
    · subst he
      show [c] = numL (NumText.digitsVal [c])
      rw [show NumText.digitsVal [c] = c - 48 from by unfold NumText.digitsVal; simp, numL_lt (by omega), show 48 + (c - 48) = c from by omega]
    · have hl' : l'.length = n := by
        rw [List.length_append] at hl
        simpa using hl
      have hz : l'[0]? ≠ some 48 := fun h => by
        have := h0 (by rw [List.getElem?_append_left (List.length_pos_iff.mpr he)]; exact h)
        have := congrArg List.length this
        rw [List.length_append] at this
        have : l'.length = 0 := by simpa using this
        exact he (List.length_eq_zero_iff.mp this)
      have e := ih l' hl' he (fun c hc => hd c (List.mem_append_left _ hc)) fun h => absurd h hz
      have hv : 1 ≤ NumText.digitsVal l' := by
        rcases Nat.eq_zero_or_pos (NumText.digitsVal l') with h | h
        · rw [h] at e
          rw [e] at hz
          exact absurd rfl hz
        · exact h
      rw [digitsVal_snoc, numL_step (by omega), show (NumText.digitsVal l' * 10 + (c - 48)) / 10 = NumText.digitsVal l' from by omega, show 48 + (NumText.digitsVal l' * 10 + (c - 48)) % 10 = c from by omega, ← e]
theorem well_num {z : Str} (h : wellB z = true) : z = numS (valN z) := by
  unfold wellB at h
  rw [Bool.and_eq_true, Bool.and_eq_true] at h
  obtain ⟨⟨h1, h2⟩, h3⟩ := h
  refine ext_tl ?_
  unfold valN
  rw [tl_numS]
  refine canon _ (tl z) rfl (fun e => ?_) (fun c hc => of_decide_eq_true (List.all_eq_true.mp h2 c hc)) fun e => ?_
  · have : z = "" := ext_tl e
    rw [this] at h1
    exact absurd h1 (by decide)
  · rw [e, decide_eq_true rfl] at h3
    have : z = "0" := by
      by_cases hz : z = "0"
      · exact hz
      · rw [decide_eq_false hz] at h3
        exact absurd h3 (by decide)
    rw [this]
    rfl
theorem well_of {n : Nat} : wellB (numS (n : Int)) = true := by
  unfold wellB digB
  rw [tl_numS]
  have h1 : decide (numS (n : Int) = "") = false := decide_eq_false fun e => numL_ne n (by rw [← tl_numS, e]; rfl)
  have h2 : ((numL n).all fun c => decide (48 ≤ c ∧ c ≤ 57)) = true := List.all_eq_true.mpr fun c hc => decide_eq_true (numL_digits n c hc)
  rw [h1, h2]
  by_cases h : (numL n)[0]? = some 48
  · rw [numL_head n h]
    decide +kernel
  · rw [decide_eq_false h]
    rfl
theorem val_num (n : Nat) : valN (numS (n : Int)) = n := by
  unfold valN
  rw [tl_numS, numL_val]
theorem valN_nn (z : Str) : 0 ≤ valN z := Int.natCast_nonneg _
end

/-! numbers as words, words of a text -/
section
open TL
variable {C : Store} {QD : D → Store → Prop}
theorem figs (c : Nat) : c ∈ (("0123456789" : Str)).cps.toList ↔ 48 ≤ c ∧ c ≤ 57 := by
  rw [show (("0123456789" : Str)).cps.toList = [48, 49, 50, 51, 52, 53, 54, 55, 56, 57] from by rfl]
  simp only [List.mem_cons, List.not_mem_nil, or_false]
  omega
theorem wordsin_ok {a : Str} (ha : a.length ≤ 16000000) (q : QD (.cell C.length) (C ++ [.lst ((Txt.split a " ").map D.str)])) : W (m_words_in [.str a] C) QD := by
  unfold m_words_in
  repeat' walk_at "ev"
  refine w_split (a := a) (b := " ") ?_
  repeat' walk_at "ev"
  refine ⟨rfl, ?_⟩
  repeat' walk_at "ev"
  refine ⟨rfl, by decide +kernel, ha, ?_⟩
  repeat' walk_at "ev"
  exact W.of (fin_cell0 (closed_sL _ _)) q
theorem numberin_z {z : Str} {n least : Int} {c : Nat} (hl : z.length ≤ 640) (hne : decide (z = "") = false) (h0 : atI (tl z) 0 = some c) (hd : ∀ c ∈ tl z, 48 ≤ c ∧ c ≤ 57) (hz : decide ((⟨#[c]⟩ : Str) = "0") = true → (!decide (z = "0")) = false)
    (hi : PySem.intText? z = some n) (hle : least ≤ n) (q : QD (.int n) C) : W (m_number_in [.str z, .int least] C) QD := by
  have hge : decide (n ≥ least) = true := decide_eq_true hle
  unfold m_number_in
  repeat' walk_at "ev"
  refine w_iStr ?_
  repeat' walk_at "ev"
  refine ⟨_, rfl, ?_⟩
  refine le_and (len_le (by rw [List.length_map, Array.length_toList]; exact Nat.le_trans hl (by decide))) ?_
  refine w_lcTrue (fun i d hd' => ?_) ?_
  · rw [List.getElem?_map, Option.map_eq_some_iff] at hd'
    obtain ⟨c, hc, rfl⟩ := hd'
    have hm : c ∈ tl z := List.mem_of_getElem? hc
    repeat' walk_at "ev"
    refine w_inSign ?_
    exact ⟨congrArg D.bl (decide_eq_true ((figs c).mpr (hd c hm))), rfl⟩
  repeat' walk_at "ev"
  refine w_all ?_
  rw [all_true]
  repeat' walk_at "ev"
  refine w_ixStr (Nat.le_trans hl (by decide)) h0 ?_
  repeat' walk_at "ev"
  refine w_ite (fun h => ?_) (fun h => ?_)
  · have e2 := hz h
    repeat' walk_at "ev"
    refine w_intT hi hl ?_
    repeat' walk_at "ev"
    refine w_intT hi hl ?_
    repeat' walk_at "ev"
    exact fin_same rfl rfl q
  · repeat' walk_at "ev"
    refine w_intT hi hl ?_
    repeat' walk_at "ev"
    refine w_intT hi hl ?_
    repeat' walk_at "ev"
    exact fin_same rfl rfl q
theorem numberin_ok {n : Nat} {least : Int} (hn : n < 10 ^ 60) (hle : least ≤ n) (q : QD (.int n) C) : W (m_number_in [.str (numS n), .int least] C) QD := by
  have hl : (numS (n : Int)).length ≤ 60 := numS_len (by decide) hn
  obtain ⟨c, hc⟩ : ∃ c, (numL n)[0]? = some c := by
    cases e : numL n with
    | nil => exact absurd e (numL_ne n)
    | cons a b => exact ⟨a, rfl⟩
  refine numberin_z (c := c) (Nat.le_trans hl (by decide)) (decide_eq_false fun e => numL_ne n ?_) ?_ ?_ (fun h => ?_) (int_numS (Nat.le_trans hl (by decide))) hle q
  · rw [← tl_numS, e]
    rfl
  · rw [tl_numS]
    exact L2.atI_nat (j := 0) hc
  · rw [tl_numS]
    exact numL_digits n
  · have e1 : tl (⟨#[c]⟩ : Str) = tl "0" := congrArg tl (of_decide_eq_true h)
    have e2 : [c] = [48] := e1
    cases e2
    rw [numL_head n hc]
    decide +kernel
end

section
open TL
variable {C : Store} {QD : D → Store → Prop}
/-- what number_in tells of a word -/
def numD (z : Str) (least : Int) : D := if okN z least = true then .int (valN z) else .non
theorem number_any {z : Str} {least : Int} (hl : z.length ≤ 640) (q : QD (numD z least) C) : W (m_number_in [.str z, .int least] C) QD := by
  have hlz : (tl z).length ≤ 640 := by rw [← len_tl]; exact hl
  unfold m_number_in
  repeat' walk_at "ev"
  by_cases h0 : z = ""
  · refine ite_t (decide_eq_true h0) ?_
    repeat' walk_at "ev"
    refine fin_same rfl rfl ?_
    rw [show numD z least = .non from by unfold numD okN wellB; rw [decide_eq_true h0]; rfl] at q
    exact q
  refine ite_f (decide_eq_false h0) ?_
  repeat' walk_at "ev"
  refine w_iStr ?_
  repeat' walk_at "ev"
  refine ⟨_, rfl, ?_⟩
  refine le_and (len_le (by rw [List.length_map]; exact Nat.le_trans hlz (by decide))) ?_
  refine w_lcA (l := tl z) (φ := fun c => .str ⟨#[c]⟩) (f := fun c => .bl (decide (48 ≤ c ∧ c ≤ 57))) (okG_nil _) (fun i c hc => ?_) ?_
  · repeat' walk_at "ev"
    refine w_inSign ?_
    refine ⟨congrArg D.bl ?_, rfl⟩
    by_cases h : 48 ≤ c ∧ c ≤ 57
    · rw [decide_eq_true h]
      exact decide_eq_true ((figs c).mpr h)
    · rw [decide_eq_false h]
      exact decide_eq_false fun q => h ((figs c).mp q)
  repeat' walk_at "ev"
  rw [show (tl z).map (fun c => D.bl (decide (48 ≤ c ∧ c ≤ 57))) = ((tl z).map fun c => decide (48 ≤ c ∧ c ≤ 57)).map D.bl from by rw [List.map_map]; rfl]
  refine w_all ?_
  rw [show ((tl z).map fun c => decide (48 ≤ c ∧ c ≤ 57)).all id = digB z from by unfold digB; rw [List.all_map]; rfl]
  cases hd : digB z with
  | false =>
    repeat' walk_at "ev"
    refine fin_same rfl rfl ?_
    rw [show numD z least = .non from by unfold numD okN wellB; rw [hd]; simp] at q
    exact q
  | true =>
    obtain ⟨c, r, hc⟩ : ∃ c r, tl z = c :: r := by
      cases e : tl z with
      | nil => exact absurd (ext_tl e : z = "") h0
      | cons a b => exact ⟨a, b, rfl⟩
    have h1 : atI (tl z) 0 = some c := L2.atI_nat (j := 0) (by rw [hc]; rfl)
    have hi : PySem.intText? z = some (valN z) := intText_digits (fun c hc => of_decide_eq_true (List.all_eq_true.mp hd c hc)) (by show tl z ≠ []; rw [hc]; simp) (Nat.le_trans hl (by decide))
    repeat' walk_at "ev"
    refine w_ixStr (Nat.le_trans hl (by decide)) h1 ?_
    repeat' walk_at "ev"
    have f1 : wellB z = true → decide (valN z ≥ least) = true → W (fin C (.int (valN z)) C) QD := fun hw h => by
      refine fin_same rfl rfl ?_
      rw [show numD z least = .int (valN z) from by unfold numD okN; rw [hw, show decide (least ≤ valN z) = true from decide_eq_true (of_decide_eq_true h)]; rfl] at q
      exact q
    have f2 : wellB z = true → decide (valN z ≥ least) = false → W (fin C .non C) QD := fun hw h => by
      refine fin_same rfl rfl ?_
      rw [show numD z least = .non from by unfold numD okN; rw [hw, show decide (least ≤ valN z) = false from decide_eq_false (of_decide_eq_false h)]; rfl] at q
      exact q
    have c0 : (tl z)[0]? = some c := by rw [hc]; rfl
    have hne : decide (z = "") = false := decide_eq_false h0
    refine w_ite (fun h => ?_) (fun h => ?_)
    · have h48 : c = 48 := by
        have e : tl (⟨#[c]⟩ : Str) = tl "0" := congrArg tl (of_decide_eq_true h)
        have e : [c] = [48] := e
        cases e
        rfl
      subst h48
      repeat' walk_at "ev"
      refine w_ite (fun h2 => ?_) (fun h2 => ?_)
      · repeat' walk_at "ev"
        refine fin_same rfl rfl ?_
        rw [show numD z least = .non from by unfold numD okN wellB; rw [hne, hd, c0, h2, decide_eq_true rfl]; rfl] at q
        exact q
      · have hw : wellB z = true := by unfold wellB; rw [hne, hd, h2]; simp
        repeat' walk_at "ev"
        refine w_intT hi hl ?_
        repeat' walk_at "ev"
        refine w_ite (fun h => ?_) (fun h => ?_)
        · repeat' walk_at "ev"
          refine w_intT hi hl ?_
          exact f1 hw h
        · repeat' walk_at "ev"
          exact f2 hw h
    · have hn : decide ((tl z)[0]? = some 48) = false := decide_eq_false fun e => by
        rw [c0] at e
        cases e
        exact absurd h (by decide +kernel)
      have hw : wellB z = true := by unfold wellB; rw [hne, hd, hn]; rfl
      repeat' walk_at "ev"
      refine w_intT hi hl ?_
      repeat' walk_at "ev"
      refine w_ite (fun h => ?_) (fun h => ?_)
      · repeat' walk_at "ev"
        refine w_intT hi hl ?_
        exact f1 hw h
      · repeat' walk_at "ev"
        exact f2 hw h
end

theorem w_iZpT2 {mas : MG (List D)} {sl : Sl} {C : Store} {QK : Wk → Store → Prop} (h : W (mas sl C) fun xs C1 => ∃ a b, xs = [.tup a, .tup b] ∧ QK (pairs a b, []) C1) : W (iZp mas sl C) QK := W.bind (h.imp fun x C1 h => by
  obtain ⟨a, b, rfl, h⟩ := h
  exact W.ok h)
theorem sameA_ok {C : Store} {n : Nat} {x y : D} (h : Alk C n x y) : ∀ {QD : D → Store → Prop}, QD (.bl true) C → W (m__law_same n [x, y] C) QD := by
  induction h with
  | int n i =>
    intro QD q
    unfold m__law_same
    repeat' walk_at "ev"
    rw [decide_eq_true rfl]
    exact fin_same rfl rfl q
  | str n i =>
    intro QD q
    unfold m__law_same
    repeat' walk_at "ev"
    rw [decide_eq_true rfl]
    exact fin_same rfl rfl q
  | bl n i =>
    intro QD q
    unfold m__law_same
    repeat' walk_at "ev"
    rw [decide_eq_true rfl]
    exact fin_same rfl rfl q
  | non n =>
    intro QD q
    unfold m__law_same
    repeat' walk_at "ev"
    refine w_eqP (p := .none) (q := .none) rfl rfl rfl rfl (fun a e => by cases e) ?_
    exact fin_same rfl rfl q
  | lst n x y xs ys hx hy hl ll h ih =>
    intro QD q
    have tx := hx.ty
    have ty := hy.ty
    obtain ⟨gx, ex, ox⟩ := hx.it
    obtain ⟨gy, ey, oy⟩ := hy.it
    unfold m__law_same
    repeat' walk_at "ev"
    refine ite_t (decide_eq_true (by omega)) ?_
    repeat' walk_at "ev"
    refine ⟨_, ex, _, ey, ?_⟩
    refine le_and (len_le (by simp only [pairsLen]; omega)) ?_
    refine w_lcTrueG (ox.app oy) (fun i d hd => ?_) ?_
    · obtain ⟨a, b, rfl, ha, hb⟩ := pairsGet hd
      repeat' walk_at "ev"
      exact ih i a b ha hb ⟨rfl, rfl⟩
    · repeat' walk_at "ev"
      refine w_all ?_
      rw [all_true]
      exact fin_same rfl rfl q
  | tup n xs ys hl ll h ih =>
    intro QD q
    unfold m__law_same
    repeat' walk_at "ev"
    refine ite_t (decide_eq_true (by omega)) ?_
    refine w_cb ?_
    refine w_aCons ?_
    refine w_mLc ?_
    refine w_iZpT2 ?_
    repeat' walk_at "ev"
    refine ⟨_, _, rfl, ?_⟩
    refine le_and (len_le (by simp only [pairsLen]; omega)) ?_
    refine w_lcTrue (fun i d hd => ?_) ?_
    · obtain ⟨a, b, rfl, ha, hb⟩ := pairsGet hd
      repeat' walk_at "ev"
      exact ih i a b ha hb ⟨rfl, rfl⟩
    · repeat' walk_at "ev"
      refine w_all ?_
      rw [all_true]
      exact fin_same rfl rfl q

theorem jnL_len (S : List Nat) : ∀ ps : List (List Nat), (TL.joinL S ps).length ≤ (ps.map List.length).sum + ps.length * S.length
  | [] => Nat.zero_le _
  | [p] => by
    show p.length ≤ p.length + 0 + 1 * S.length
    omega
  | p :: q :: r => by
    have ih := jnL_len S (q :: r)
    show (p ++ (S ++ TL.joinL S (q :: r))).length ≤ p.length + ((q :: r).map List.length).sum + ((q :: r).length + 1) * S.length
    rw [List.length_append, List.length_append, Nat.add_mul, Nat.one_mul]
    omega
theorem join_len (y : Str) (ps : List Str) : (Txt.join y ps).length ≤ (ps.map (·.length)).sum + ps.length * y.length := by
  have h := jnL_len (TL.tl y) (ps.map TL.tl)
  rw [← TL.tl_join, ← TL.join_eq] at h
  have e : (ps.map TL.tl).map List.length = ps.map (·.length) := by
    rw [List.map_map]
    refine List.map_congr_left fun x _ => ?_
    show x.cps.toList.length = x.cps.size
    simp
  rw [e, List.length_map] at h
  have e1 : (TL.tl (Txt.join y ps)).length = (Txt.join y ps).length := by
    show (Txt.join y ps).cps.toList.length = (Txt.join y ps).cps.size
    simp
  have e2 : (TL.tl y).length = y.length := by
    show y.cps.toList.length = y.cps.size
    simp
  rwa [e1, e2] at h
theorem sum_le {k : Nat} : ∀ {l : List Str}, (∀ x ∈ l, x.length ≤ k) → (l.map (·.length)).sum ≤ l.length * k
  | [], _ => Nat.zero_le _
  | x :: l, h => by
    have h1 := h x List.mem_cons_self
    have h2 := sum_le fun y hy => h y (List.mem_cons_of_mem x hy)
    show x.length + (l.map (·.length)).sum ≤ (l.length + 1) * k
    rw [Nat.add_mul, Nat.one_mul]
    omega

/-! deeds of the law, written and read -/
abbrev dE (e : Str × Int) : D := .tup [.str e.1, .int e.2]
def OkE (e : Str × Int) : Prop := (e.1 = "go" ∨ e.1 = "come") ∧ 1 ≤ e.2 ∧ e.2 ≤ 9 * 10 ^ 29
theorem dE_closed (n : Nat) (l : List (Str × Int)) : closedC n (.lst (l.map dE)) = true := closedDs_map (fun _ => rfl) l
theorem pick2 {r : Int} (h0 : 0 ≤ r) (h1 : r < 2) : ∃ x : Str, atI [D.str "go", D.str "come"] r = some (.str x) ∧ (x = "go" ∨ x = "come") := by
  have : r = 0 ∨ r = 1 := by omega
  rcases this with rfl | rfl
  · exact ⟨"go", rfl, .inl rfl⟩
  · exact ⟨"come", rfl, .inr rfl⟩
theorem pick3I {a b c : Int} {r : Int} (h0 : 0 ≤ r) (h1 : r < 3) : ∃ x : Int, atI [D.int a, D.int b, D.int c] r = some (.int x) ∧ (x = a ∨ x = b ∨ x = c) := by
  have : r = 0 ∨ r = 1 ∨ r = 2 := by omega
  rcases this with rfl | rfl | rfl
  · exact ⟨_, rfl, .inl rfl⟩
  · exact ⟨_, rfl, .inr (.inl rfl)⟩
  · exact ⟨_, rfl, .inr (.inr rfl)⟩
section
open TL
variable {C : Store} {QD : D → Store → Prop}
theorem strOk_of {z : Str} (h : ∀ c ∈ tl z, c < 128) : PyData.strOk z = true := by
  show (z.cps.all fun c => decide (c < 0x110000)) = true
  rw [← Array.all_toList, List.all_eq_true]
  intro c hc
  have := h c hc
  exact decide_eq_true (by omega)
theorem OkE.asc {e : Str × Int} (h : OkE e) : (∀ c ∈ tl e.1, 33 ≤ c ∧ c < 128) ∧ e.1.length ≤ 4 := by
  rcases h.1 with h | h <;> rw [h] <;> exact ⟨by decide +kernel, by decide +kernel⟩
theorem OkE.nat {e : Str × Int} (h : OkE e) : ∃ n : Nat, e.2 = n ∧ 1 ≤ n ∧ n < 10 ^ 30 := ⟨e.2.toNat, by have := h.2; omega, by have := h.2; omega, by have := h.2; omega⟩
theorem numS_asc {n : Nat} : ∀ c ∈ tl (numS (n : Int)), 48 ≤ c ∧ c ≤ 57 := by
  rw [tl_numS]
  exact numL_digits n
theorem wsOf_ok : ∀ {es : List (Str × Int)}, (∀ e ∈ es, OkE e) → ∀ p ∈ wsOf es, ∀ c ∈ tl p, c < 128
  | [], _, p, hp, c, hc => by
    cases List.mem_singleton.mp hp
    have hc : c ∈ ([] : List Nat) := hc
    cases hc
  | [e], h, p, hp, c, hc => by
    obtain ⟨n, en, _⟩ := (h e (List.mem_cons_self ..)).nat
    have hp : p ∈ [e.1, numS e.2] := hp
    simp only [List.mem_cons, List.not_mem_nil, or_false] at hp
    rcases hp with rfl | rfl
    · exact ((h e (List.mem_cons_self ..)).asc.1 c hc).2
    · rw [en] at hc
      have := numS_asc c hc
      omega
  | e :: f :: es, h, p, hp, c, hc => by
    obtain ⟨n, en, _⟩ := (h e (List.mem_cons_self ..)).nat
    have hp : p ∈ e.1 :: (numS e.2 ++ ",") :: wsOf (f :: es) := hp
    rcases List.mem_cons.mp hp with rfl | hp
    · exact ((h e (List.mem_cons_self ..)).asc.1 c hc).2
    rcases List.mem_cons.mp hp with rfl | hp
    · rw [tl_append, en] at hc
      rcases List.mem_append.mp hc with hc | hc
      · have := numS_asc c hc
        omega
      · rw [show tl ("," : Str) = [44] from rfl] at hc
        cases List.mem_singleton.mp hc
        decide
    · exact wsOf_ok (fun e he => h e (List.mem_cons_of_mem _ he)) p hp c hc
theorem part_len {e : Str × Int} (h : OkE e) : (e.1 ++ " " ++ numS e.2).length ≤ 40 := by
  obtain ⟨n, en, _, h1⟩ := h.nat
  have h2 := h.asc.2
  have h3 : (numS (n : Int)).length ≤ 30 := numS_len (by decide) h1
  rw [len_tl, tl_append, tl_append, List.length_append, List.length_append, ← len_tl, ← len_tl, ← len_tl, en, show (" " : Str).length = 1 from rfl]
  omega
theorem line_sum {es : List (Str × Int)} (hes : ∀ e ∈ es, OkE e) (hl : es.length ≤ 400) : ((lineOf es).map (·.length)).sum + (lineOf es).length * (", " : Str).length ≤ 16800 := by
  have h1 := sum_le (k := 40) (l := lineOf es) fun x hx => by
    obtain ⟨e, he, rfl⟩ := List.mem_map.mp hx
    exact part_len (hes e he)
  have h2 : (lineOf es).length = es.length := List.length_map ..
  rw [show (", " : Str).length = 2 from rfl]
  omega
theorem comma_eq : ("," : Str) = ⟨#[44]⟩ := ext_tl rfl
end

/-! a stand's text -/
section
open TL
def rowS (l : List Int) : Str := Txt.join " " (l.map numS)
def wsS (rs ls : List Int) : List Str := rs.map numS ++ (("|" : Str) :: ls.map numS)
def standS (rs ls : List Int) : Str := rowS rs ++ " | " ++ rowS ls
theorem joinL_app {S : List Nat} {qs : List (List Nat)} (hq : qs ≠ []) : ∀ {ps : List (List Nat)}, ps ≠ [] → joinL S (ps ++ qs) = joinL S ps ++ (S ++ joinL S qs)
  | [], h => absurd rfl h
  | [p], _ => joinL_cons hq
  | p :: q :: r, _ => by
    show joinL S (p :: (q :: r ++ qs)) = (p ++ (S ++ joinL S (q :: r))) ++ (S ++ joinL S qs)
    rw [joinL_cons (by simp), joinL_app hq (ps := q :: r) (by simp)]
    simp only [List.append_assoc]
theorem stand_join {rs ls : List Int} (h1 : rs ≠ []) (h2 : ls ≠ []) : standS rs ls = Txt.join " " (wsS rs ls) := by
  refine ext_tl ?_
  unfold standS rowS wsS
  rw [tl_append, tl_append, join_eq, join_eq, join_eq, tl_join, tl_join, tl_join, List.map_append, List.map_cons, joinL_app (by simp) (by simpa using h1), joinL_cons (by simpa using h2), show tl " | " = tl " " ++ (tl "|" ++ tl " ") from rfl]
  simp only [List.append_assoc]
theorem numS_freeI {x : Int} (h : 0 ≤ x) {s : Nat} (hs : s < 48 ∨ 57 < s) : s ∉ tl (numS x) := by
  obtain ⟨n, rfl⟩ := Int.eq_ofNat_of_zero_le h
  exact numS_free hs
theorem stand_split {rs ls : List Int} (h1 : rs ≠ []) (h2 : ls ≠ []) (hr : ∀ x ∈ rs, 0 ≤ x) (hl : ∀ x ∈ ls, 0 ≤ x) : Txt.split (standS rs ls) " " = wsS rs ls := by
  rw [stand_join h1 h2]
  refine split_join (s := 32) (S := []) (by rfl) (by decide +kernel) (by unfold wsS; simp) fun p hp => ?_
  have hp : p ∈ rs.map numS ++ (("|" : Str) :: ls.map numS) := hp
  rcases List.mem_append.mp hp with hp | hp
  · obtain ⟨x, hx, rfl⟩ := List.mem_map.mp hp
    exact numS_freeI (hr x hx) (.inl (by decide))
  rcases List.mem_cons.mp hp with rfl | hp
  · decide +kernel
  · obtain ⟨x, hx, rfl⟩ := List.mem_map.mp hp
    exact numS_freeI (hl x hx) (.inl (by decide))
theorem wsS_len {rs ls : List Int} : (wsS rs ls).length = rs.length + (ls.length + 1) := by
  unfold wsS
  rw [List.length_append, List.length_cons, List.length_map, List.length_map]
theorem wsS_r {rs ls : List Int} {i : Nat} {x : Int} (h : rs[i]? = some x) : (wsS rs ls)[i]? = some (numS x) := by
  unfold wsS
  rw [List.getElem?_append_left (by rw [List.length_map]; exact (List.getElem?_eq_some_iff.mp h).1), List.getElem?_map, h]
  rfl
theorem wsS_bar {rs ls : List Int} : (wsS rs ls)[rs.length]? = some ("|" : Str) := by
  unfold wsS
  rw [List.getElem?_append_right (by rw [List.length_map]; exact Nat.le_refl _), List.length_map, Nat.sub_self]
  rfl
theorem wsS_l {rs ls : List Int} {i : Nat} {x : Int} (h : ls[i]? = some x) : (wsS rs ls)[rs.length + 1 + i]? = some (numS x) := by
  unfold wsS
  rw [List.getElem?_append_right (by rw [List.length_map]; omega), List.length_map, show rs.length + 1 + i - rs.length = i + 1 from by omega, List.getElem?_cons_succ, List.getElem?_map, h]
  rfl
theorem numS_bar {x : Int} (h : 0 ≤ x) : decide (numS x = "|") = false := decide_eq_false fun e => numS_freeI h (s := 124) (.inr (by decide)) (by
  rw [e]
  decide +kernel)
theorem rowS_len {l : List Int} (h : ∀ x ∈ l, (numS x).length ≤ 13) (hl : l.length ≤ 202) : (rowS l).length ≤ 3000 := by
  have h1 : ∀ y ∈ l.map numS, y.length ≤ 13 := fun y hy => by
    obtain ⟨x, hx, rfl⟩ := List.mem_map.mp hy
    exact h x hx
  have h2 := sum_le h1
  have h3 := join_len " " (l.map numS)
  rw [show (" " : Str).length = 1 from rfl] at h3
  rw [List.length_map] at h2 h3
  show (Txt.join " " (l.map numS)).length ≤ 3000
  omega
end

theorem deed_ok {S : Cell} {rs ls : List Int} {k : Str} {d : Int} {QD : D → Store → Prop} (v : Vs rs ls) (hS : ∀ n, closedC n S = true) (h0 : 1 ≤ d) (h1 : d < rs.length) (q : ∀ rs' ls', Vs rs' ls' → rs'.length = rs.length → QD .non [S, iL rs', iL ls']) :
    W (m__law_deed_done [.cell 1, .cell 2, .str k, .int d] [S, iL rs, iL ls]) QD := by
  obtain ⟨one, ho⟩ := get_ex (l := ls) (i := (d - 1).toNat) (by rw [v.len]; omega)
  obtain ⟨other, ht⟩ := get_ex (l := rs) (i := d.toNat) (by omega)
  have a1 := atI_int (by omega : 0 ≤ d - 1) ho
  have a2 := atI_int (by omega : 0 ≤ d) ht
  have v1 := v.l _ _ ho
  have v2 := v.r _ _ ht
  have i1 : ixN (rs.map D.int).length one = some one.toNat := ixN_int v1.1 (by simp; omega)
  have i2 : ixN (ls.map D.int).length (other - 1) = some (other - 1).toNat := ixN_int (by omega) (by simp [v.len]; omega)
  unfold m__law_deed_done
  repeat' walk_at "ev"
  by_cases e : k = "go"
  · refine ite_t (decide_eq_true e) ?_
    repeat' walk_at "ev"
    refine ite_t (decide_eq_true e) ?_
    repeat' walk_at "ev"
    rw [setI_map, setI_map]
    exact fin_flat0 rfl (cl_cons (hS _) (cl_cons (closed_iL _ _) (cl_cons (closed_iL _ _) cl_nil))) rfl rfl (q _ _ ((v.setR (by omega) (by omega)).setL (by omega) (by omega)) (by simp))
  · refine ite_f (decide_eq_false e) ?_
    repeat' walk_at "ev"
    refine ite_f (decide_eq_false e) ?_
    repeat' walk_at "ev"
    rw [setI_map, setI_map]
    exact fin_flat0 rfl (cl_cons (hS _) (cl_cons (closed_iL _ _) (cl_cons (closed_iL _ _) cl_nil))) rfl rfl (q _ _ ((v.setR (by omega) (by omega)).setL (by omega) (by omega)) (by simp))
theorem pick4 {r : Int} (h0 : 0 ≤ r) (h1 : r < 4) : ∃ x : Int, atI [D.int 3, D.int 8, D.int 40, D.int 200] r = some (.int x) ∧ 3 ≤ x ∧ x ≤ 200 := by
  have : r = 0 ∨ r = 1 ∨ r = 2 ∨ r = 3 := by omega
  rcases this with rfl | rfl | rfl | rfl <;> exact ⟨_, rfl, by decide, by decide⟩
theorem pick3 {r : Int} (h0 : 0 ≤ r) (h1 : r < 3) : ∃ x : Str, atI [D.str "go", D.str "go", D.str "come"] r = some (.str x) := by
  have : r = 0 ∨ r = 1 ∨ r = 2 := by omega
  rcases this with rfl | rfl | rfl <;> exact ⟨_, rfl⟩
theorem hands_ok {S : Cell} {m : Nat} {most : Int} {QD : D → Store → Prop} (hS : Sk m S) (hm : m ≤ 10 ^ 8) (h0 : 2 ≤ most) (h1 : most ≤ 200)
    (q : ∀ S' rs ls, Sk (m + 10000) S' → Vs rs ls → rs.length ≤ most + 1 → QD (.tup [.cell 1, .cell 2]) [S', iL rs, iL ls]) : W (m__law_hands [.cell 0, .int most] [S]) QD := by
  unfold m__law_hands
  repeat' walk_at "ev"
  refine w_ifC fun z hz => ?_
  obtain ⟨low, rfl, l1, l2, l3⟩ : ∃ low : Int, z = .int low ∧ 1 ≤ low ∧ low ≤ 2 ∧ (low = 2 → most = 3) := by
    rcases hz with ⟨h, rfl⟩ | ⟨h, rfl⟩
    · exact ⟨2, rfl, by decide, by decide, fun _ => of_decide_eq_true h⟩
    · exact ⟨1, rfl, by decide, by decide, fun h => absurd h (by decide)⟩
  repeat' walk_at "ev"
  refine take_ok (by rfl) hS (by omega) (by decide) (by decide) fun r S1 r0 r1 hS1 => ?_
  obtain ⟨x, hx, x0, x1⟩ := pick4 r0 r1
  repeat' walk_at "ev"
  refine take_ok (by rfl) hS1 (by omega) (by omega) (by omega) fun r2 S2 r20 r21 hS2 => ?_
  repeat' walk_at "ev"
  obtain ⟨n, hn⟩ : ∃ n : Nat, low + r2 = n := ⟨(low + r2).toNat, by omega⟩
  rw [hn]
  have n1 : 1 ≤ n ∧ n ≤ 201 ∧ (n : Int) ≤ most := by omega
  refine take_ok (by rfl) hS2 (by omega) (by decide) (by decide) fun sty S3 s0 s1 hS3 => ?_
  obtain ⟨rs, ls, v, vl, e1, e2⟩ := start_vs n1.1 n1.2.1
  repeat' walk_at "ev"
  refine w_rg (by simp [lowI]; omega) ?_
  rw [e1]
  repeat' walk_at "ev"
  refine w_rg (by simp [lowI]; omega) ?_
  rw [e2]
  repeat' walk_at "ev"
  refine w_forM (fun i sl C => ∃ S' rs ls x, sl = [some (.cell 0), some (.int most), some (.int low), some (.int n), some (.int sty), some (.cell 1), some (.cell 2), x, none] ∧ C = [S', iL rs, iL ls] ∧ Sk (m + 3 + 3 * i) S' ∧ Vs rs ls ∧ rs.length = n + 1) (fun _ _ _ _ => okG_nil _) ?_ ?_ ⟨_, _, _, _, rfl, rfl, hS3, v, vl⟩
  · intro i d sl C hd hi
    obtain ⟨S', rs, ls, x, rfl, rfl, hS', v, vl⟩ := hi
    obtain ⟨hi, rfl⟩ := rgD_get (n := n + 1) hd
    refine w_gmN ?_
    have ob := v.len
    refine w_sif (w_cut (Q' := fun b C1 => ∃ S', C1 = [S', iL rs, iL ls] ∧ Sk (m + 3 + 3 * i + 1) S') ?_ ?_)
    · repeat' walk_at "ev"
      refine w_ite (fun e => ⟨_, rfl, hS'.mono (by omega)⟩) (fun e => ?_)
      repeat' walk_at "ev"
      refine w_ite (fun e => ?_) (fun e => ?_)
      · repeat' walk_at "ev"
        refine take_ok (by rfl) hS' (by omega) (by decide) (by decide) fun r S'' r0 r1 hS'' => ?_
        repeat' walk_at "ev"
        exact ⟨_, rfl, hS''⟩
      · exact ⟨_, rfl, hS'.mono (by omega)⟩
    · rintro b C1 ⟨S', rfl, hS'⟩
      refine w_ite (fun e => ?_) (fun e => ?_)
      · repeat' walk_at "ev"
        refine take_ok (by rfl) hS' (by omega) (by omega) (by omega) fun r S2 r0 r1 hS2 => ?_
        have i1 : ixN (rs.map D.int).length i = some i := ixN_nat (by simp; omega)
        have i2 : ixN (ls.map D.int).length i = some i := ixN_nat (by simp; omega)
        repeat' walk_at "ev"
        refine take_ok (by rfl) hS2 (by omega) (by omega) (by omega) fun r' S3 r0' r1' hS3 => ?_
        repeat' walk_at "ev"
        rw [setI_map, setI_map]
        exact ⟨S3, _, _, _, rfl, rfl, hS3.mono (by omega), (v.setR (by omega) (by omega)).setL (by omega) (by omega), by simpa using vl⟩
      · repeat' walk_at "ev"
        exact ⟨S', _, _, _, rfl, rfl, hS'.mono (by omega), v, vl⟩
  · intro sl C hi
    obtain ⟨S', rs, ls, x, rfl, rfl, hS', v, vl⟩ := hi
    rw [show (rgD 0 (n + 1 : Int)).length = n + 1 from rgD_len (n + 1)] at hS'
    have s2 : smallI 2 = true := by decide
    repeat' walk_at "ev"
    refine take_ok (by rfl) hS' (by omega) (by omega) (by omega) fun r S2 r0 r1 hS2 => ?_
    repeat' walk_at "ev"
    obtain ⟨k, hk, k1⟩ : ∃ k : Nat, r * (if decide (sty = 2) = true then 1 else 0) = (k : Int) ∧ k ≤ 403 := by
      split
      · exact ⟨r.toNat, by omega, by omega⟩
      · exact ⟨0, by omega, by omega⟩
    refine w_mulI (.inl (by simp [smallI]; omega)) ?_
    rw [hk]
    repeat' walk_at "ev"
    refine w_forM (fun i sl C => ∃ S' rs ls y, sl = [some (.cell 0), some (.int most), some (.int low), some (.int n), some (.int sty), some (.cell 1), some (.cell 2), x, y] ∧ C = [S', iL rs, iL ls] ∧ Sk (m + 4 + 3 * (n + 1) + 2 * i) S' ∧ Vs rs ls ∧ rs.length = n + 1) (fun _ _ _ _ => okG_nil _) ?_ ?_ ⟨_, _, _, _, rfl, rfl, hS2.mono (by omega), v, vl⟩
    · intro i d sl C hd hi
      obtain ⟨S', rs, ls, x, rfl, rfl, hS', v, vl⟩ := hi
      obtain ⟨hi, rfl⟩ := rgD_get (n := k) hd
      repeat' walk_at "ev"
      refine take_ok (by rfl) hS' (by omega) (by decide) (by decide) fun r S2 r0 r1 hS2 => ?_
      obtain ⟨w, hw⟩ := pick3 r0 r1
      repeat' walk_at "ev"
      refine take_ok (by rfl) hS2 (by omega) (by omega) (by omega) fun r S3 r0 r1 hS3 => ?_
      repeat' walk_at "ev"
      refine deed_ok v hS3.closed (by omega) (by omega) fun rs' ls' v' hl => ?_
      exact ⟨_, _, _, _, rfl, rfl, hS3.mono (by omega), v', by omega⟩
    · intro sl C hi
      obtain ⟨S', rs, ls, x, rfl, rfl, hS', v, vl⟩ := hi
      rw [show (rgD 0 (k : Int)).length = k from rgD_len k] at hS'
      repeat' walk_at "ev"
      exact fin_tup2 (C1 := [S']) (C := [S]) rfl (cl_cons (hS'.closed _) cl_nil) (closed_iL _ _) (closed_iL _ _) (q _ _ _ (hS'.mono (by omega)) v (by omega))

section
open TL
variable {C : Store} {QD : D → Store → Prop} {rs ls : List Int}
theorem Vs.rpos (v : Vs rs ls) : ∀ x ∈ rs, 0 ≤ x ∧ x ≤ 202 := fun x hx => by
  obtain ⟨i, hi⟩ := List.mem_iff_getElem?.mp hx
  have := v.r i x hi
  have := v.top
  omega
theorem Vs.lpos (v : Vs rs ls) : ∀ x ∈ ls, 0 ≤ x ∧ x ≤ 202 := fun x hx => by
  obtain ⟨i, hi⟩ := List.mem_iff_getElem?.mp hx
  have := v.l i x hi
  have := (List.getElem?_eq_some_iff.mp hi).1
  have := v.top
  have := v.len
  omega
theorem Vs.ne (v : Vs rs ls) : rs ≠ [] ∧ ls ≠ [] := by
  have h1 := v.two
  have h2 := v.len
  constructor
  · intro h
    subst h
    exact absurd h1 (by decide)
  · intro h
    subst h
    have h2 : 0 = rs.length := h2
    omega
theorem numS_len13 {x : Int} (h : 0 ≤ x ∧ x ≤ 202) : (numS x).length ≤ 13 := by
  obtain ⟨n, rfl⟩ := Int.eq_ofNat_of_zero_le h.1
  exact Nat.le_trans (numS_len (k := 3) (by decide) (by omega)) (by decide)
theorem numberin_int {x least : Int} (h : 0 ≤ x ∧ x ≤ 202) (hle : least ≤ x) (q : QD (.int x) C) : W (m_number_in [.str (numS x), .int least] C) QD := by
  obtain ⟨n, rfl⟩ := Int.eq_ofNat_of_zero_le h.1
  exact numberin_ok (by omega) hle q
theorem w_maxLC {k : Nat} {l : List Int} (hk : C[k]? = some (.lst (l.map D.int))) (hne : l ≠ []) (q : QD (.int (maxL l)) C) : W (on1 gMaxL [.cell k] C) QD := by
  cases l with
  | nil => exact absurd rfl hne
  | cons a l =>
    refine W.of (a := .int (maxL (a :: l))) (C := C) ?_ q
    have e : lstOf C (.cell k) = some ((a :: l).map D.int) := by
      show lstAt C k = _
      unfold lstAt
      simp only [hk]
    show gMaxL (.cell k) C = _
    unfold gMaxL
    rw [e, Option.bind_some, intsOf_map]
theorem rightsin_ok (v : Vs rs ls) (q : QD (.cell C.length) (C ++ [.lst (rs.map D.int)])) : W (m_rights_in [.lst ((wsS rs ls).map D.str)] C) QD := by
  have t0 := v.top
  have t1 := v.two
  have t2 := v.len
  have hlen := wsS_len (rs := rs) (ls := ls)
  unfold m_rights_in
  repeat' walk_at "ev"
  refine w_forM (fun i sl C1 => i ≤ rs.length ∧ ∃ x2 x3 x4, sl = [some (.lst ((wsS rs ls).map D.str)), some (.cell C.length), x2, x3, x4] ∧ C1 = C ++ [.lst ((rs.take i).map D.int)]) (fun _ _ _ _ => okG_nil _) ?_ ?_ ⟨Nat.zero_le _, none, none, none, rfl, rfl⟩
  · intro i d sl C1 hd hi
    obtain ⟨hi, x2, x3, x4, rfl, rfl⟩ := hi
    obtain ⟨a, rfl, ha⟩ := enumGet hd
    rw [List.getElem?_map, Option.map_eq_some_iff] at ha
    obtain ⟨w, hwi, rfl⟩ := ha
    rcases Nat.lt_or_eq_of_le hi with hlt | rfl
    · obtain ⟨x, hx⟩ := get_ex (l := rs) (i := i) hlt
      have hv := v.r i x hx
      have hp := v.rpos x (List.mem_of_getElem? hx)
      rw [wsS_r hx] at hwi
      cases hwi
      have hb := numS_bar hp.1
      generalize hz : numS x = z at hb ⊢
      repeat' walk_at "ev"
      rw [← hz]
      refine numberin_int hp (by omega) ?_
      rw [hz]
      have hisL : isL (C ++ [.lst ((rs.take i).map D.int)]) (.cell C.length) = true := w_chkC at_app0
      have lt : ((rs.take i).map D.int).length < sizeLine := by rw [List.length_map, List.length_take, sizeLine_eq]; omega
      repeat' walk_at "ev"
      refine ⟨hlt, _, _, _, rfl, ?_⟩
      rw [List.take_add_one, hx, List.map_append, set_app0]
      rfl
    · rw [wsS_bar] at hwi
      cases hwi
      rw [List.take_length]
      have hmax := maxL_spec v.ne.1
      have hm1 := v.rpos _ hmax.1
      obtain ⟨j, hj⟩ := List.mem_iff_getElem?.mp hmax.1
      have hm2 := (v.r j _ hj).2
      have e0 : decide (("|" : Str) = "|") = true := decide_eq_true rfl
      have e1 : decide ((rs.length : Int) < 2) = false := decide_eq_false (by omega)
      have e2 : decide (maxL rs > (rs.length : Int)) = false := decide_eq_false (by omega)
      repeat' walk_at "ev"
      refine w_maxLC at_app0 v.ne.1 ?_
      repeat' walk_at "ev"
      exact W.of (fin_cell0 (closed_iL _ _)) q
  · intro sl C1 hi
    obtain ⟨hi, _⟩ := hi
    rw [show (enumD 0 ((wsS rs ls).map D.str)).length = rs.length + (ls.length + 1) from by rw [enumD_length, List.length_map, hlen]] at hi
    omega
theorem readstand_ok (v : Vs rs ls) {line : Str} (hline : line = standS rs ls) (q : QD (.tup [.cell C.length, .cell (C.length + 1)]) (C ++ [.lst (rs.map D.int), .lst (ls.map D.int)])) : W (m_read_stand [.str line] C) QD := by
  have t0 := v.top
  have t1 := v.two
  have t2 := v.len
  have hlen := wsS_len (rs := rs) (ls := ls)
  have hs : Txt.split line " " = wsS rs ls := by
    rw [hline]
    exact stand_split v.ne.1 v.ne.2 (fun x hx => (v.rpos x hx).1) fun x hx => (v.lpos x hx).1
  have hll : line.length ≤ 10000 := by
    rw [hline]
    have h1 := rowS_len (fun x hx => numS_len13 (v.rpos x hx)) t0
    have h2 := rowS_len (l := ls) (fun x hx => numS_len13 (v.lpos x hx)) (by omega)
    unfold standS
    rw [len_tl, tl_append, tl_append, List.length_append, List.length_append, ← len_tl, ← len_tl, ← len_tl, show (" | " : Str).length = 3 from rfl]
    omega
  clear hline
  unfold m_read_stand
  repeat' walk_at "ev"
  refine w_fzL ?_
  repeat' walk_at "ev"
  refine wordsin_ok (by omega) ?_
  rw [hs]
  refine ⟨_, rfl, rfl, closedDs_strs 0 _, ?_⟩
  repeat' walk_at "ev"
  refine rightsin_ok v ?_
  repeat' walk_at "ev"
  rw [show C ++ [Cell.lst (rs.map D.int)] ++ [Cell.lst []] = C ++ [.lst (rs.map D.int), .lst []] from by simp, show (C ++ [Cell.lst (rs.map D.int)]).length = C.length + 1 from by simp]
  repeat' walk_at "ev"
  rw [show (((wsS rs ls).map D.str).length : Int) = ((rs.map D.int).length : Int) + 1 + (ls.length : Int) from by rw [List.length_map, hlen, List.length_map]; omega]
  repeat' walk_at "ev"
  refine ⟨_, _, rfl, by simp [lowI]; omega, ?_⟩
  simp only [List.length_map]
  refine w_forM (fun i sl C1 => ∃ x5 x6, sl = [some (.str line), some (.lst ((wsS rs ls).map D.str)), some (.cell C.length), some (.int ((rs.length : Int) + 1)), some (.cell (C.length + 1)), x5, x6] ∧ C1 = C ++ [.lst (rs.map D.int), .lst ((ls.take i).map D.int)]) (fun _ _ _ _ => okG_nil _) ?_ ?_ ⟨none, none, rfl, rfl⟩
  · intro i d sl C1 hd hi
    obtain ⟨x5, x6, rfl, rfl⟩ := hi
    obtain ⟨hlt, rfl⟩ := rgD_get2 hd
    obtain ⟨x, hx⟩ := get_ex (l := ls) (i := i) hlt
    have hv := v.l i x hx
    have hp := v.lpos x (List.mem_of_getElem? hx)
    have ha : atI ((wsS rs ls).map D.str) ((rs.length : Int) + 1 + (i : Int)) = some (.str (numS x)) := by
      rw [show (rs.length : Int) + 1 + (i : Int) = ((rs.length + 1 + i : Nat) : Int) from by omega]
      refine Nv.atI_nat ?_
      rw [List.getElem?_map, wsS_l hx]
      rfl
    generalize hz : numS x = z at ha
    repeat' walk_at "ev"
    rw [← hz]
    refine numberin_int hp hp.1 ?_
    have hisL : isL (C ++ [.lst (rs.map D.int), .lst ((ls.take i).map D.int)]) (.cell (C.length + 1)) = true := w_chkC at_app
    have lt : ((ls.take i).map D.int).length < sizeLine := by rw [List.length_map, List.length_take, sizeLine_eq]; omega
    repeat' walk_at "ev"
    refine ite_f (decide_eq_false (by rw [List.length_map]; omega)) ?_
    repeat' walk_at "ev"
    refine ite_f (decide_eq_false (by omega)) ?_
    repeat' walk_at "ev"
    refine ⟨_, _, rfl, ?_⟩
    rw [set_app, List.take_add_one, hx, List.map_append]
    rfl
  · intro sl C1 hi
    obtain ⟨x5, x6, rfl, rfl⟩ := hi
    rw [rgD_len2, List.take_length]
    repeat' walk_at "ev"
    refine ite_f (decide_eq_false (by rw [List.length_map, List.length_map]; omega)) ?_
    repeat' walk_at "ev"
    exact fin_two0 (j := 0) (k := 1) rfl rfl (by decide) (closed_iL _ _) (closed_iL _ _) q
theorem Sho.stand (v : Vs rs ls) : Sho (sD rs ls) 90000 2 := by
  have row : ∀ {l : List Int}, (∀ x ∈ l, 0 ≤ x ∧ x ≤ 202) → l.length ≤ 202 → Sho (.lst (l.map D.int)) 22018 1 := fun {l} h hl => by
    refine (Sho.lst (w := 108) (n := 0) fun x hx => ?_).mono (by rw [List.length_map]; omega) (Nat.le_refl _)
    obtain ⟨z, hz, rfl⟩ := List.mem_map.mp hx
    have := h z hz
    exact Sho.int (by omega)
  refine (Sho.tup (w := 22018) (n := 1) fun x hx => ?_).mono (by show 22019 * 2 ≤ 90000; decide) (Nat.le_refl _)
  simp only [List.mem_cons, List.not_mem_nil, or_false] at hx
  have := v.len
  have := v.top
  rcases hx with rfl | rfl
  · exact row v.rpos v.top
  · exact row v.lpos (by omega)
theorem rowjoin_ok {sl : Sl} {l : List Int} (hl : l.length ≤ 202) (hs : ∀ x ∈ l, 0 ≤ x ∧ x ≤ 202) {m : ME} (hm : W (m sl C) fun d C1 => d = .lst (l.map fun x => D.str (numS x)) ∧ C1 = C) (q : QD (.str (rowS l)) C) : W (mJoin (mC (.str " ")) m sl C) QD := by
  refine w_join ?_
  repeat' walk_at "ev"
  refine ⟨_, rfl, ?_⟩
  refine W.imp hm fun d C1 h => ?_
  obtain ⟨rfl, rfl⟩ := h
  have h1 : ∀ x ∈ l.map numS, x.length ≤ 13 := fun x hx => by
    obtain ⟨z, hz, rfl⟩ := List.mem_map.mp hx
    exact numS_len13 (hs z hz)
  have h2 := sum_le h1
  rw [List.length_map] at h2
  refine ⟨l.map numS, by rw [List.map_map]; rfl, ?_, q⟩
  rw [List.length_map, show (Str.ofString " ").length = 1 from rfl]
  omega
theorem rowcells {sl : Sl} {l : List Int} (hl : l.length ≤ 202) (hs : ∀ x ∈ l, 0 ≤ x ∧ x ≤ 202) {i j : Nat} (hv : W (mVar i sl C) (fun d C1 => d = .lst (l.map D.int) ∧ C1 = C)) (h2 : j < sl.length) :
    W (mLc false [j] (iLst (mVar i)) (gmN j) tTrue (mCB (on1 gStr) (aCons (mVar j) aNil)) sl C) fun d C1 => d = .lst (l.map fun x => D.str (numS x)) ∧ C1 = C := by
  have hsz : (l.map D.int).length ≤ sizeLine := by
    rw [List.length_map]
    exact Nat.le_trans hl (by decide)
  refine w_mLc (w_iLst ?_)
  refine W.imp hv fun d C1 h => ?_
  obtain ⟨rfl, rfl⟩ := h
  refine ⟨_, rfl, le_and hsz ?_⟩
  refine w_lcA (φ := D.int) (l := l) (f := fun x => D.str (numS x)) (okG_nil _) (fun i x hx => ?_) ?_
  · have hx2 := hs x (List.mem_of_getElem? hx)
    have hb : x.natAbs < 10 ^ 400 := Nat.lt_of_lt_of_le (m := 1000) (by omega) (by decide +kernel)
    refine w_gmN (w_cb (w_aCons (w_var (d := .int x) ?_ (w_aNil (w_strI hb ⟨rfl, rfl⟩)))))
    have hlen : j < (wipeS sl [j]).length := by
      show j < (sl.set j none).length
      rw [List.length_set]
      exact h2
    rw [List.getElem?_set_self hlen]
  · exact w_newF ⟨rfl, rfl⟩
end

/-! what a history's text is, word by word -/
section
open TL
def endC (w : Str) : Bool := decide (cutS w (some (-1)) none = ",")
def bareW (w : Str) : Str := if endC w = true then cutS w none (some (-1)) else w
def kindB (w : Str) : Bool := (["go", "come"] : List Str).any fun y => y == w
def goesE (ws : List Str) (i : Nat) : Bool := decide (i = 0) || endC (ws.getD (i - 1) Str.empty)
def badD (ws : List Str) (i : Nat) : Bool := if i % 2 = 0 then !goesE ws i || !kindB (ws.getD i Str.empty) else !okN (bareW (ws.getD i Str.empty)) 1
def foundD (ws : List Str) (m : Nat) : List (Str × Int) := (List.range m).map fun j => (ws.getD (2 * j) Str.empty, valN (bareW (ws.getD (2 * j + 1) Str.empty)))
def firstB (bad : Nat → Bool) (n : Nat) : Option Nat := (List.range n).find? bad
def gAt (ws : List Str) (i : Nat) : Bool := goesE ws (i - i % 2)
def finD (ws : List Str) : Bool := !goesE ws ws.length && decide (ws.length % 2 = 0)
def resD (ws : List Str) : Except Nat (List (Str × Int)) := if ws = [Str.empty] then .ok [] else match firstB (badD ws) ws.length with
  | some k => .error k
  | none => if finD ws = true then .ok (foundD ws (ws.length / 2)) else .error ws.length
theorem firstB_some {bad : Nat → Bool} {n k : Nat} (h : firstB bad n = some k) : k < n ∧ bad k = true ∧ ∀ j, j < k → bad j = false := by
  have := List.find?_range_eq_some.mp h
  exact ⟨List.mem_range.mp this.2.1, this.1, fun j hj => by simpa using this.2.2 j hj⟩
theorem firstB_none {bad : Nat → Bool} {n : Nat} (h : firstB bad n = none) : ∀ j, j < n → bad j = false := fun j hj => by
  have := List.find?_eq_none.mp h j (List.mem_range.mpr hj)
  simpa using this
theorem getD_at {ws : List Str} {i : Nat} {w : Str} (h : ws[i]? = some w) : ws.getD i Str.empty = w := by rw [List.getD_eq_getElem?_getD, h]; rfl
theorem bare_len (w : Str) : (bareW w).length ≤ w.length := by
  unfold bareW
  split
  · exact cutS_length w _ _
  · exact Nat.le_refl _
theorem foundD_succ (ws : List Str) (m : Nat) : foundD ws (m + 1) = foundD ws m ++ [(ws.getD (2 * m) Str.empty, valN (bareW (ws.getD (2 * m + 1) Str.empty)))] := by
  unfold foundD
  rw [List.range_succ, List.map_append]
  rfl
theorem foundD_len (ws : List Str) (m : Nat) : (foundD ws m).length = m := by simp [foundD]
end

section
open TL
variable {C : Store} {QD : D → Store → Prop} {P : Exn → Store → Prop}
theorem x_sFor {mi : MI} {g : MT} {u : MS} {sl : Sl} (h : W (mi sl C) fun p C1 => EXp (Nv.forM g u p.2 p.1 sl C1) P) : EXp (sFor mi g u sl C) P := x_bindW h
def deedD (k z : Str) : D := if okN z 1 = true then .tup [.str k, .int (valN z)] else .non
variable {ws : List Str} {line : Str} {i : Nat} {w : Str} {x6 : Option D}
theorem slice_end {w : Str} : decide (cutS w (some (-1)) none = ",") = endC w := rfl
end

section
open TL
variable {C : Store} {QD : D → Store → Prop} {P : Exn → Store → Prop} {line : Str} {ws : List Str}
theorem words_small (hl : line.length ≤ 640) : (∀ w ∈ cutW line, w.length ≤ 640) ∧ (cutW line).length ≤ 1000 := by
  have h := cutW_wt line
  refine ⟨fun w hw => ?_, ?_⟩
  · have := wtW_mem hw
    omega
  · have := wtW_len (cutW line)
    omega
theorem goesE0 : goesE ws 0 = true := rfl
theorem gAt0 : gAt ws 0 = true := rfl
theorem empty_ok : ∀ x ∈ ([Str.empty] : List Str), PyData.strOk x = true := fun x hx => by cases List.mem_singleton.mp hx; decide +kernel
theorem if_finD {r : Except Nat (List (Str × Int))} (h : (match (none : Option Nat) with
    | some k => Except.error k
    | none => if finD ws = true then Except.ok (foundD ws (ws.length / 2)) else Except.error ws.length) = r) : (if finD ws = true then Except.ok (foundD ws (ws.length / 2)) else Except.error ws.length) = r := h
end

/-! what a stand's text is, word by word -/
section
open TL
abbrev barAt (ws : List Str) : Nat := ws.idxOf ("|" : Str)
def valsS (ws : List Str) (m : Nat) : List Int := (List.range m).map fun i => valN (ws.getD i Str.empty)
def leftS (ws : List Str) (b m : Nat) : List Int := (List.range m).map fun j => valN (ws.getD (b + 1 + j) Str.empty)
def badS (ws : List Str) (i : Nat) : Bool := if i < barAt ws then !okN (ws.getD i Str.empty) ((i : Int) + 1)
  else if i = barAt ws then decide ((i : Int) < 2) || decide (maxL (valsS ws i) > (i : Int))
  else decide (i - barAt ws - 1 = barAt ws) || !okN (ws.getD i Str.empty) 0 || decide (valN (ws.getD i Str.empty) > ((i - barAt ws - 1 : Nat) : Int))
def finS (ws : List Str) : Bool := decide (ws.length = 2 * barAt ws + 1)
def resS (ws : List Str) : Except Nat (List Int × List Int) := match firstB (badS ws) ws.length with
  | some k => .error k
  | none => if finS ws = true then .ok (valsS ws (barAt ws), leftS ws (barAt ws) (barAt ws)) else .error ws.length
theorem valsS_succ (ws : List Str) (m : Nat) : valsS ws (m + 1) = valsS ws m ++ [valN (ws.getD m Str.empty)] := by
  unfold valsS
  rw [List.range_succ, List.map_append]
  rfl
theorem leftS_succ (ws : List Str) (b m : Nat) : leftS ws b (m + 1) = leftS ws b m ++ [valN (ws.getD (b + 1 + m) Str.empty)] := by
  unfold leftS
  rw [List.range_succ, List.map_append]
  rfl
theorem valsS_len (ws : List Str) (m : Nat) : (valsS ws m).length = m := by simp [valsS]
theorem leftS_len (ws : List Str) (b m : Nat) : (leftS ws b m).length = m := by simp [leftS]
theorem bar_no {ws : List Str} {i : Nat} {w : Str} (hw : ws[i]? = some w) (hi : i < barAt ws) : w ≠ "|" := fun e => by
  subst e
  obtain ⟨h1, h2⟩ := List.getElem?_eq_some_iff.mp hw
  have := List.not_of_lt_findIdx (p := fun x => x == ("|" : Str)) (xs := ws) (i := i) hi
  rw [h2] at this
  simp at this
theorem bar_at {ws : List Str} (h : barAt ws < ws.length) : ws[barAt ws]? = some ("|" : Str) := by
  have h2 := List.findIdx_getElem (p := fun x => x == ("|" : Str)) (xs := ws) (w := h)
  rw [List.getElem?_eq_getElem h]
  have : ws[barAt ws] = ("|" : Str) := by simpa using h2
  rw [this]
theorem bar_le (ws : List Str) : barAt ws ≤ ws.length := List.idxOf_le_length
end

section
open TL
variable {C : Store} {QD : D → Store → Prop} {P : Exn → Store → Prop} {ws : List Str} {i : Nat} {w : Str}
theorem numD_t {z : Str} {least : Int} (h : okN z least = true) : numD z least = .int (valN z) := by unfold numD; rw [h]; rfl
theorem numD_f {z : Str} {least : Int} (h : okN z least = false) : numD z least = .non := by unfold numD; rw [h]; rfl
noncomputable abbrev rB : MS := (sSeq (sIf (mT (m2 gEq (mVar 3) (mC k_BAR)))
  (sSeq (sIf (tOrM (mT (m2 gLt (mVar 2) (mC (.int 2)))) (mT (m2 gGt (mCB (on1 gMaxL) (aCons (mVar 1) aNil)) (mVar 2))))
  (sRaise1 "NoText" "at" (mVar 2))
  sNil)
  (sRet (mVar 1)))
  sNil)
  (sSeq (sAsg (mF 2 m_number_in (aCons (mVar 3) (aCons (m2 (gAdd false) (mVar 2) (mC (.int 1))) aNil))) (gmN 4))
  (sSeq (sIf (mT (m2 gIs (mVar 4) (mC .non)))
  (sRaise1 "NoText" "at" (mVar 2))
  sNil)
  (sDrop (mMt isL gAppend (mVar 1) (aCons (mVar 4) aNil))))))
abbrev rSl (ws : List Str) (C : Store) (i : Nat) (w : Str) (x4 : Option D) : Sl := [some (.lst (ws.map D.str)), some (.cell C.length), some (.int (i : Int)), some (.str w), x4]
theorem rB_ok {x4 : Option D} (hw : ws[i]? = some w) (hl : w.length ≤ 640) (hn : ws.length ≤ 1000000) (hi : i < barAt ws) (hb : badS ws i = false) :
    WS (rB (rSl ws C i w x4) (C ++ [.lst ((valsS ws i).map D.int)])) fun f sl2 C2 => f = .nx ∧ ∃ x2 x3 x4, sl2 = [some (.lst (ws.map D.str)), some (.cell C.length), x2, x3, x4] ∧ C2 = C ++ [.lst ((valsS ws (i + 1)).map D.int)] := by
  have hlt : i < ws.length := (List.getElem?_eq_some_iff.mp hw).1
  have hne : decide (w = "|") = false := decide_eq_false (bar_no hw hi)
  unfold badS at hb
  rw [if_pos hi, getD_at hw] at hb
  have hk : okN w ((i : Int) + 1) = true := by simpa using hb
  have lt : ((valsS ws i).map D.int).length < sizeLine := by rw [List.length_map, valsS_len, sizeLine_eq]; omega
  have hisL : isL (C ++ [.lst ((valsS ws i).map D.int)]) (.cell C.length) = true := w_chkC at_app0
  repeat' walk_at "ev"
  refine number_any hl ?_
  rw [numD_t hk]
  repeat' walk_at "ev"
  refine ⟨rfl, _, _, _, rfl, ?_⟩
  rw [set_app0, valsS_succ, List.map_append, getD_at hw]
  rfl
theorem rB_bad {x4 : Option D} (hw : ws[i]? = some w) (hl : w.length ≤ 640) (hi : i < barAt ws) (hb : badS ws i = true) (p : P ⟨"NoText", some ("at", .int (i : Int))⟩ (C ++ [.lst ((valsS ws i).map D.int)])) :
    EXp (rB (rSl ws C i w x4) (C ++ [.lst ((valsS ws i).map D.int)])) P := by
  have hne : decide (w = "|") = false := decide_eq_false (bar_no hw hi)
  unfold badS at hb
  rw [if_pos hi, getD_at hw] at hb
  have hk : okN w ((i : Int) + 1) = false := by simpa using hb
  refine x_seq ?_
  repeat' walk_at "ev"
  refine ⟨rfl, ?_⟩
  refine x_seq ?_
  repeat' walk_at "ev"
  refine number_any hl ?_
  rw [numD_f hk]
  repeat' walk_at "ev"
  refine ⟨rfl, ?_⟩
  refine x_seq1 (x_if ?_)
  repeat' walk_at "ev"
  refine x_raise ?_
  repeat' walk_at "ev"
  exact p
theorem rB_bar {x4 : Option D} (hi : i = barAt ws) (hb : badS ws i = false) :
    WS (rB (rSl ws C i "|" x4) (C ++ [.lst ((valsS ws i).map D.int)])) fun f sl2 C2 => f = .rt (.cell C.length) ∧ C2 = C ++ [.lst ((valsS ws i).map D.int)] := by
  unfold badS at hb
  rw [if_neg (by omega), if_pos hi, Bool.or_eq_false_iff] at hb
  obtain ⟨b1, b2⟩ := hb
  have e0 : decide (("|" : Str) = "|") = true := decide_eq_true rfl
  have h2 : ¬ (i : Int) < 2 := of_decide_eq_false b1
  repeat' walk_at "ev"
  refine w_maxLC at_app0 (fun e => by have := valsS_len ws i; rw [e] at this; have this : 0 = i := this; omega) ?_
  repeat' walk_at "ev"
  exact ⟨rfl, rfl⟩
theorem rB_barx {x4 : Option D} (hi : i = barAt ws) (hb : badS ws i = true) (p : P ⟨"NoText", some ("at", .int (i : Int))⟩ (C ++ [.lst ((valsS ws i).map D.int)])) :
    EXp (rB (rSl ws C i "|" x4) (C ++ [.lst ((valsS ws i).map D.int)])) P := by
  unfold badS at hb
  rw [if_neg (by omega), if_pos hi] at hb
  have e0 : decide (("|" : Str) = "|") = true := decide_eq_true rfl
  refine x_seq1 (x_if ?_)
  repeat' walk_at "ev"
  refine x_seq1 (x_if ?_)
  cases b1 : decide ((i : Int) < 2) with
  | true =>
    repeat' walk_at "ev"
    refine x_raise ?_
    repeat' walk_at "ev"
    exact p
  | false =>
    rw [b1] at hb
    have h2 : ¬ (i : Int) < 2 := of_decide_eq_false b1
    have b2 : decide (maxL (valsS ws i) > (i : Int)) = true := by simpa using hb
    repeat' walk_at "ev"
    refine w_maxLC at_app0 (fun e => by have := valsS_len ws i; rw [e] at this; have this : 0 = i := this; omega) ?_
    repeat' walk_at "ev"
    refine x_raise ?_
    repeat' walk_at "ev"
    exact p
theorem vals0 : (valsS ws 0) = [] := rfl
theorem rights_any (hw6 : ∀ w ∈ ws, w.length ≤ 640) (hn : ws.length ≤ 1000000) (hlt : barAt ws < ws.length) (hb : ∀ j, j ≤ barAt ws → badS ws j = false) (q : QD (.cell C.length) (C ++ [.lst ((valsS ws (barAt ws)).map D.int)])) : W (m_rights_in [.lst (ws.map D.str)] C) QD := by
  unfold m_rights_in
  repeat' walk_at "ev"
  refine w_forM (fun i sl C1 => i ≤ barAt ws ∧ ∃ x2 x3 x4, sl = [some (.lst (ws.map D.str)), some (.cell C.length), x2, x3, x4] ∧ C1 = C ++ [.lst ((valsS ws i).map D.int)]) (fun _ _ _ _ => okG_nil _) ?_ ?_ ⟨Nat.zero_le _, none, none, none, rfl, rfl⟩
  · intro i d sl C1 hd hi
    obtain ⟨hib, x2, x3, x4, rfl, rfl⟩ := hi
    obtain ⟨a, rfl, ha⟩ := enumGet hd
    rw [List.getElem?_map, Option.map_eq_some_iff] at ha
    obtain ⟨w, hwi, rfl⟩ := ha
    refine w_gmSqT rfl (w_gmCons (w_gmN (w_gmCons (w_gmN (w_gmNil ?_)))))
    rcases Nat.lt_or_eq_of_le hib with h | h
    · refine WS.imp (rB_ok hwi (hw6 w (List.mem_of_getElem? hwi)) hn h (hb i hib)) fun f sl2 C2 e => ?_
      obtain ⟨rfl, x2, x3, x4, rfl, rfl⟩ := e
      exact ⟨h, _, _, _, rfl, rfl⟩
    · have hw0 : w = "|" := by
        rw [h, bar_at hlt] at hwi
        exact (Option.some.inj hwi).symm
      subst hw0
      refine WS.imp (rB_bar h (hb i hib)) fun f sl2 C2 e => ?_
      obtain ⟨rfl, rfl⟩ := e
      rw [h]
      exact W.of (fin_cell0 (closed_iL _ _)) q
  · intro sl C1 hi
    obtain ⟨hib, _⟩ := hi
    rw [show (enumD 0 (ws.map D.str)).length = ws.length from by rw [enumD_length, List.length_map]] at hib
    omega
theorem rights_anyx {k : Nat} (hw6 : ∀ w ∈ ws, w.length ≤ 640) (hn : ws.length ≤ 1000000) (hk : (k < ws.length ∧ k ≤ barAt ws ∧ badS ws k = true ∧ ∀ j, j < k → badS ws j = false) ∨ (k = ws.length ∧ barAt ws = ws.length ∧ ∀ j, j < ws.length → badS ws j = false)) (p : ∀ Y, P ⟨"NoText", some ("at", .int (k : Int))⟩ (C ++ Y)) : EXp (m_rights_in [.lst (ws.map D.str)] C) P := by
  have hlen : (enumD 0 (ws.map D.str)).length = ws.length := by rw [enumD_length, List.length_map]
  unfold m_rights_in
  refine x_runn (by walk_at "sr") (x_seq ?_)
  repeat' walk_at "ev"
  refine ⟨rfl, ?_⟩
  rcases hk with ⟨h1, h2, h3, h4⟩ | ⟨h1, h2, h3⟩
  · refine x_seq1 (x_sFor ?_)
    repeat' walk_at "ev"
    refine x_forM (fun i sl C1 => ∃ x2 x3 x4, sl = [some (.lst (ws.map D.str)), some (.cell C.length), x2, x3, x4] ∧ C1 = C ++ [.lst ((valsS ws i).map D.int)]) k (fun _ _ _ _ => okG_nil _) (fun i d sl C1 hik hd hi => ?_) (fun d sl C1 hd hi => ?_) (by show k < (enumD 0 (ws.map D.str)).length; omega) ⟨none, none, none, rfl, rfl⟩
    · obtain ⟨x2, x3, x4, rfl, rfl⟩ := hi
      obtain ⟨a, rfl, ha⟩ := enumGet hd
      rw [List.getElem?_map, Option.map_eq_some_iff] at ha
      obtain ⟨w, hwi, rfl⟩ := ha
      refine w_gmSqT rfl (w_gmCons (w_gmN (w_gmCons (w_gmN (w_gmNil ?_)))))
      exact rB_ok hwi (hw6 w (List.mem_of_getElem? hwi)) hn (by omega) (h4 i hik)
    · obtain ⟨x2, x3, x4, rfl, rfl⟩ := hi
      obtain ⟨a, rfl, ha⟩ := enumGet hd
      rw [List.getElem?_map, Option.map_eq_some_iff] at ha
      obtain ⟨w, hwi, rfl⟩ := ha
      refine w_gmSqT rfl (w_gmCons (w_gmN (w_gmCons (w_gmN (w_gmNil ?_)))))
      rcases Nat.lt_or_eq_of_le h2 with h | h
      · exact rB_bad hwi (hw6 w (List.mem_of_getElem? hwi)) h h3 (p _)
      · have hw0 : w = "|" := by
          rw [h, bar_at (by omega)] at hwi
          exact (Option.some.inj hwi).symm
        subst hw0
        exact rB_barx h h3 (p _)
  · refine x_seq ?_
    repeat' walk_at "ev"
    refine w_forM (fun i sl C1 => ∃ x2 x3 x4, sl = [some (.lst (ws.map D.str)), some (.cell C.length), x2, x3, x4] ∧ C1 = C ++ [.lst ((valsS ws i).map D.int)]) (fun _ _ _ _ => okG_nil _) ?_ ?_ ⟨none, none, none, rfl, rfl⟩
    · intro i d sl C1 hd hi
      obtain ⟨x2, x3, x4, rfl, rfl⟩ := hi
      obtain ⟨a, rfl, ha⟩ := enumGet hd
      rw [List.getElem?_map, Option.map_eq_some_iff] at ha
      obtain ⟨w, hwi, rfl⟩ := ha
      have hlt := (List.getElem?_eq_some_iff.mp hwi).1
      refine w_gmSqT rfl (w_gmCons (w_gmN (w_gmCons (w_gmN (w_gmNil ?_)))))
      refine WS.imp (rB_ok hwi (hw6 w (List.mem_of_getElem? hwi)) hn (by omega) (h3 i hlt)) fun f sl2 C2 e => ?_
      obtain ⟨rfl, x2, x3, x4, rfl, rfl⟩ := e
      exact ⟨_, _, _, rfl, rfl⟩
    · intro sl C1 hi
      obtain ⟨x2, x3, x4, rfl, rfl⟩ := hi
      refine ⟨rfl, ?_⟩
      refine x_raise ?_
      repeat' walk_at "ev"
      rw [List.length_map, ← h1]
      exact p _
end

section
open TL
variable {C : Store} {QD : D → Store → Prop} {P : Exn → Store → Prop} {ws : List Str} {t : Nat} {w line : Str}
noncomputable abbrev lB : MS := (sSeq (sAsg (mF 2 m_number_in (aCons (m2 gIx (mVar 1) (mVar 5)) (aCons (mC (.int 0)) aNil))) (gmN 6))
  (sSeq (sIf (tOrM (mT (m2 gEq (m2 gSub (mVar 5) (mVar 3)) (mCB (on1 gLen) (aCons (mVar 2) aNil)))) (tOrM (mT (m2 gIs (mVar 6) (mC .non))) (mT (m2 gGt (mVar 6) (m2 gSub (mVar 5) (mVar 3))))))
  (sRaise1 "NoText" "at" (mVar 5))
  sNil)
  (sDrop (mMt isL gAppend (mVar 4) (aCons (mVar 6) aNil)))))
abbrev lSl (line : Str) (ws : List Str) (C : Store) (b : Nat) (at_ : Int) (x6 : Option D) : Sl := [some (.str line), some (.lst (ws.map D.str)), some (.cell C.length), some (.int ((b : Int) + 1)), some (.cell (C.length + 1)), some (.int at_), x6]
theorem at_word {b : Nat} (hw : ws[b + 1 + t]? = some w) : atI (ws.map D.str) ((b : Int) + 1 + (t : Int)) = some (.str w) := by
  rw [show (b : Int) + 1 + (t : Int) = ((b + 1 + t : Nat) : Int) from by omega]
  refine Nv.atI_nat ?_
  rw [List.getElem?_map, hw]
  rfl
theorem lB_ok {x6 : Option D} (hw : ws[barAt ws + 1 + t]? = some w) (hl : w.length ≤ 640) (hn : ws.length ≤ 1000000) (hb : badS ws (barAt ws + 1 + t) = false) :
    WS (lB (lSl line ws C (barAt ws) ((barAt ws : Int) + 1 + (t : Int)) x6) (C ++ [.lst ((valsS ws (barAt ws)).map D.int), .lst ((leftS ws (barAt ws) t).map D.int)])) fun f sl2 C2 => f = .nx ∧ ∃ x5 x6, sl2 = [some (.str line), some (.lst (ws.map D.str)), some (.cell C.length), some (.int ((barAt ws : Int) + 1)), some (.cell (C.length + 1)), x5, x6] ∧ C2 = C ++ [.lst ((valsS ws (barAt ws)).map D.int), .lst ((leftS ws (barAt ws) (t + 1)).map D.int)] := by
  have hlt : barAt ws + 1 + t < ws.length := (List.getElem?_eq_some_iff.mp hw).1
  unfold badS at hb
  rw [if_neg (by omega), if_neg (by omega), getD_at hw, show barAt ws + 1 + t - barAt ws - 1 = t from by omega, Bool.or_eq_false_iff, Bool.or_eq_false_iff] at hb
  obtain ⟨⟨b1, b2⟩, b3⟩ := hb
  have hk : okN w 0 = true := by simpa using b2
  have n1 : ¬ t = barAt ws := of_decide_eq_false b1
  have n3 : ¬ valN w > (t : Int) := of_decide_eq_false b3
  have ha := at_word hw
  have lt : ((leftS ws (barAt ws) t).map D.int).length < sizeLine := by rw [List.length_map, leftS_len, sizeLine_eq]; omega
  have hisL : isL (C ++ [.lst ((valsS ws (barAt ws)).map D.int), .lst ((leftS ws (barAt ws) t).map D.int)]) (.cell (C.length + 1)) = true := w_chkC at_app
  repeat' walk_at "ev"
  refine number_any hl ?_
  rw [numD_t hk]
  repeat' walk_at "ev"
  refine ite_f (decide_eq_false (by rw [List.length_map, valsS_len]; omega)) ?_
  repeat' walk_at "ev"
  refine ite_f (decide_eq_false (by omega)) ?_
  repeat' walk_at "ev"
  refine ⟨rfl, _, _, rfl, ?_⟩
  rw [set_app, leftS_succ, List.map_append, getD_at hw]
  rfl
theorem lB_bad {x6 : Option D} (hw : ws[barAt ws + 1 + t]? = some w) (hl : w.length ≤ 640) (hb : badS ws (barAt ws + 1 + t) = true)
    (p : P ⟨"NoText", some ("at", .int ((barAt ws + 1 + t : Nat) : Int))⟩ (C ++ [.lst ((valsS ws (barAt ws)).map D.int), .lst ((leftS ws (barAt ws) t).map D.int)])) :
    EXp (lB (lSl line ws C (barAt ws) ((barAt ws : Int) + 1 + (t : Int)) x6) (C ++ [.lst ((valsS ws (barAt ws)).map D.int), .lst ((leftS ws (barAt ws) t).map D.int)])) P := by
  unfold badS at hb
  rw [if_neg (by omega), if_neg (by omega), getD_at hw, show barAt ws + 1 + t - barAt ws - 1 = t from by omega] at hb
  have ha := at_word hw
  rw [show ((barAt ws + 1 + t : Nat) : Int) = (barAt ws : Int) + 1 + (t : Int) from by omega] at p
  refine x_seq ?_
  repeat' walk_at "ev"
  refine number_any hl ?_
  cases hk : okN w 0 with
  | false =>
    rw [numD_f hk]
    repeat' walk_at "ev"
    refine ⟨rfl, ?_⟩
    refine x_seq1 (x_if ?_)
    repeat' walk_at "ev"
    refine w_ite (fun h => ?_) (fun h => ?_)
    · repeat' walk_at "ev"
      refine x_raise ?_
      repeat' walk_at "ev"
      exact p
    · repeat' walk_at "ev"
      refine x_raise ?_
      repeat' walk_at "ev"
      exact p
  | true =>
    rw [hk] at hb
    rw [numD_t hk]
    repeat' walk_at "ev"
    refine ⟨rfl, ?_⟩
    refine x_seq1 (x_if ?_)
    repeat' walk_at "ev"
    refine w_ite (fun h => ?_) (fun h => ?_)
    · repeat' walk_at "ev"
      refine x_raise ?_
      repeat' walk_at "ev"
      exact p
    · have h1 := of_decide_eq_false h
      rw [List.length_map, valsS_len] at h1
      have n1 : decide (t = barAt ws) = false := decide_eq_false (by omega)
      rw [n1] at hb
      have h3 : decide (valN w > (t : Int)) = true := by simpa using hb
      have h3 := of_decide_eq_true h3
      repeat' walk_at "ev"
      refine ite_t (decide_eq_true (by omega)) ?_
      repeat' walk_at "ev"
      refine x_raise ?_
      repeat' walk_at "ev"
      exact p
theorem if_finS {r : Except Nat (List Int × List Int)} (h : (match (none : Option Nat) with
    | some k => Except.error k
    | none => if finS ws = true then Except.ok (valsS ws (barAt ws), leftS ws (barAt ws) (barAt ws)) else Except.error ws.length) = r) : (if finS ws = true then Except.ok (valsS ws (barAt ws), leftS ws (barAt ws) (barAt ws)) else Except.error ws.length) = r := h
theorem rs_ok {rl : List Int × List Int} (hl : line.length ≤ 640) (h : resS (cutW line) = .ok rl) (q : QD (.tup [.cell C.length, .cell (C.length + 1)]) (C ++ [.lst (rl.1.map D.int), .lst (rl.2.map D.int)])) : W (m_read_stand [.str line] C) QD := by
  obtain ⟨hw6, hn⟩ := words_small hl
  unfold m_read_stand
  repeat' walk_at "ev"
  refine w_fzL ?_
  repeat' walk_at "ev"
  refine wordsin_ok (by omega) ?_
  rw [show Txt.split line " " = cutW line from rfl]
  refine ⟨_, rfl, rfl, closedDs_strs 0 _, ?_⟩
  generalize cutW line = ws at h hw6 hn ⊢
  unfold resS at h
  cases hf : firstB (badS ws) ws.length with
  | some k =>
    rw [hf] at h
    cases h
  | none =>
  rw [hf] at h
  have h := if_finS h
  have hb := firstB_none hf
  by_cases hfin : finS ws = true
  case neg =>
    rw [if_neg hfin] at h
    cases h
  rw [if_pos hfin] at h
  cases h
  have hlen : ws.length = 2 * barAt ws + 1 := of_decide_eq_true hfin
  repeat' walk_at "ev"
  refine rights_any hw6 (by omega) (by omega) (fun j hj => hb j (by omega)) ?_
  repeat' walk_at "ev"
  rw [show C ++ [Cell.lst ((valsS ws (barAt ws)).map D.int)] ++ [Cell.lst []] = C ++ [.lst ((valsS ws (barAt ws)).map D.int), .lst []] from by simp, show (C ++ [Cell.lst ((valsS ws (barAt ws)).map D.int)]).length = C.length + 1 from by simp]
  repeat' walk_at "ev"
  rw [show ((ws.map D.str).length : Int) = (barAt ws : Int) + 1 + (barAt ws : Int) from by rw [List.length_map]; omega, show (((valsS ws (barAt ws)).map D.int).length : Int) = (barAt ws : Int) from by rw [List.length_map, valsS_len]]
  refine ⟨_, _, rfl, by simp [lowI]; omega, ?_⟩
  refine w_forM (fun i sl C1 => ∃ x5 x6, sl = [some (.str line), some (.lst (ws.map D.str)), some (.cell C.length), some (.int ((barAt ws : Int) + 1)), some (.cell (C.length + 1)), x5, x6] ∧ C1 = C ++ [.lst ((valsS ws (barAt ws)).map D.int), .lst ((leftS ws (barAt ws) i).map D.int)]) (fun _ _ _ _ => okG_nil _) ?_ ?_ ⟨none, none, rfl, rfl⟩
  · intro i d sl C1 hd hi
    obtain ⟨x5, x6, rfl, rfl⟩ := hi
    obtain ⟨hlt, rfl⟩ := rgD_get2 hd
    obtain ⟨w, hwi⟩ := get_ex (l := ws) (i := barAt ws + 1 + i) (by omega)
    refine w_gmN ?_
    refine WS.imp (lB_ok hwi (hw6 w (List.mem_of_getElem? hwi)) (by omega) (hb _ (by omega))) fun f sl2 C2 e => ?_
    obtain ⟨rfl, x5, x6, rfl, rfl⟩ := e
    exact ⟨_, _, rfl, rfl⟩
  · intro sl C1 hi
    obtain ⟨x5, x6, rfl, rfl⟩ := hi
    rw [rgD_len2]
    repeat' walk_at "ev"
    refine ite_f (decide_eq_false (by rw [List.length_map, List.length_map, valsS_len, leftS_len]; omega)) ?_
    repeat' walk_at "ev"
    exact fin_two0 (j := 0) (k := 1) rfl rfl (by decide) (closed_iL _ _) (closed_iL _ _) q
theorem rs_x {k : Nat} (hl : line.length ≤ 640) (h : resS (cutW line) = .error k) (p : ∀ Y, P ⟨"NoText", some ("at", .int (k : Int))⟩ (C ++ Y)) : EXp (m_read_stand [.str line] C) P := by
  obtain ⟨hw6, hn⟩ := words_small hl
  unfold m_read_stand
  refine x_runn (by walk_at "sr") (x_seq ?_)
  repeat' walk_at "ev"
  refine w_fzL ?_
  repeat' walk_at "ev"
  refine wordsin_ok (by omega) ?_
  rw [show Txt.split line " " = cutW line from rfl]
  refine ⟨_, rfl, rfl, closedDs_strs 0 _, ?_⟩
  generalize cutW line = ws at h hw6 hn ⊢
  repeat' walk_at "ev"
  refine ⟨rfl, ?_⟩
  have hble := bar_le ws
  -- the rights, where they are refused
  have early : ((k < ws.length ∧ k ≤ barAt ws ∧ badS ws k = true ∧ ∀ j, j < k → badS ws j = false) ∨ (k = ws.length ∧ barAt ws = ws.length ∧ ∀ j, j < ws.length → badS ws j = false)) →
      EXp (sSeq (sAsg (mF 1 m_rights_in (aCons (mVar 1) aNil)) (gmN 2)) (sSeq (sAsg (m2 (gAdd false) (mCB (on1 gLen) (aCons (mVar 2) aNil)) (mC (.int 1))) (gmN 3)) (sSeq (sAsg (mLst true aNil) (gmN 4)) (sSeq (sFor (iRg2 (aCons (mVar 3) (aCons (mCB (on1 gLen) (aCons (mVar 1) aNil)) aNil))) (gmN 5) lB) (sSeq (sIf (mT (m2 gLt (mCB (on1 gLen) (aCons (mVar 4) aNil)) (mCB (on1 gLen) (aCons (mVar 2) aNil)))) (sRaise1 "NoText" "at" (mCB (on1 gLen) (aCons (mVar 1) aNil))) sNil) (sRet (mTup (aCons (mVar 2) (aCons (mVar 4) aNil))))))))
        [some (.str line), some (.lst (ws.map D.str)), none, none, none, none, none] C) P := fun hk => by
    refine x_seq1 (x_asg (x_F ?_))
    repeat' walk_at "ev"
    exact rights_anyx hw6 (by omega) hk p
  have late : ∀ (hlt : barAt ws < ws.length) (hb : ∀ j, j ≤ barAt ws → badS ws j = false),
      EXp (sSeq (sFor (iRg2 (aCons (mVar 3) (aCons (mCB (on1 gLen) (aCons (mVar 1) aNil)) aNil))) (gmN 5) lB) (sSeq (sIf (mT (m2 gLt (mCB (on1 gLen) (aCons (mVar 4) aNil)) (mCB (on1 gLen) (aCons (mVar 2) aNil)))) (sRaise1 "NoText" "at" (mCB (on1 gLen) (aCons (mVar 1) aNil))) sNil) (sRet (mTup (aCons (mVar 2) (aCons (mVar 4) aNil)))))
        [some (.str line), some (.lst (ws.map D.str)), some (.cell C.length), some (.int ((barAt ws : Int) + 1)), some (.cell (C.length + 1)), none, none] (C ++ [.lst ((valsS ws (barAt ws)).map D.int), .lst []])) P →
      EXp (sSeq (sAsg (mF 1 m_rights_in (aCons (mVar 1) aNil)) (gmN 2)) (sSeq (sAsg (m2 (gAdd false) (mCB (on1 gLen) (aCons (mVar 2) aNil)) (mC (.int 1))) (gmN 3)) (sSeq (sAsg (mLst true aNil) (gmN 4)) (sSeq (sFor (iRg2 (aCons (mVar 3) (aCons (mCB (on1 gLen) (aCons (mVar 1) aNil)) aNil))) (gmN 5) lB) (sSeq (sIf (mT (m2 gLt (mCB (on1 gLen) (aCons (mVar 4) aNil)) (mCB (on1 gLen) (aCons (mVar 2) aNil)))) (sRaise1 "NoText" "at" (mCB (on1 gLen) (aCons (mVar 1) aNil))) sNil) (sRet (mTup (aCons (mVar 2) (aCons (mVar 4) aNil))))))))
        [some (.str line), some (.lst (ws.map D.str)), none, none, none, none, none] C) P := fun hlt hb he => by
    refine x_seq ?_
    repeat' walk_at "ev"
    refine rights_any hw6 (by omega) hlt hb ?_
    repeat' walk_at "ev"
    refine ⟨rfl, ?_⟩
    refine x_seq ?_
    repeat' walk_at "ev"
    refine ⟨rfl, ?_⟩
    refine x_seq ?_
    repeat' walk_at "ev"
    refine ⟨rfl, ?_⟩
    rw [show C ++ [Cell.lst ((valsS ws (barAt ws)).map D.int)] ++ [Cell.lst []] = C ++ [.lst ((valsS ws (barAt ws)).map D.int), .lst []] from by simp, show (C ++ [Cell.lst ((valsS ws (barAt ws)).map D.int)]).length = C.length + 1 from by simp, show (((valsS ws (barAt ws)).map D.int).length : Int) = (barAt ws : Int) from by rw [List.length_map, valsS_len]]
    exact he
  unfold resS at h
  cases hf : firstB (badS ws) ws.length with
  | some k' =>
    rw [hf] at h
    cases h
    obtain ⟨hk, hbk, hbj⟩ := firstB_some hf
    rcases Nat.lt_or_ge (barAt ws) k with hkb | hkb
    · refine late (by omega) (fun j hj => hbj j (by omega)) ?_
      obtain ⟨n, hn2⟩ : ∃ n, ws.length = barAt ws + 1 + n := ⟨ws.length - barAt ws - 1, by omega⟩
      obtain ⟨t, ht⟩ : ∃ t, k = barAt ws + 1 + t := ⟨k - barAt ws - 1, by omega⟩
      refine x_seq1 (x_sFor ?_)
      repeat' walk_at "ev"
      rw [show ((ws.map D.str).length : Int) = (barAt ws : Int) + 1 + (n : Int) from by rw [List.length_map]; omega]
      refine ⟨_, _, rfl, by simp [lowI]; omega, ?_⟩
      have hrl := rgD_len2 ((barAt ws : Int) + 1) n
      refine x_forM (fun i sl C1 => ∃ x5 x6, sl = [some (.str line), some (.lst (ws.map D.str)), some (.cell C.length), some (.int ((barAt ws : Int) + 1)), some (.cell (C.length + 1)), x5, x6] ∧ C1 = C ++ [.lst ((valsS ws (barAt ws)).map D.int), .lst ((leftS ws (barAt ws) i).map D.int)]) t (fun _ _ _ _ => okG_nil _) (fun i d sl C1 hik hd hi => ?_) (fun d sl C1 hd hi => ?_) (by show t < (rgD ((barAt ws : Int) + 1) ((barAt ws : Int) + 1 + (n : Int))).length; omega) ⟨none, none, rfl, rfl⟩
      · obtain ⟨x5, x6, rfl, rfl⟩ := hi
        obtain ⟨hlt, rfl⟩ := rgD_get2 hd
        obtain ⟨w, hwi⟩ := get_ex (l := ws) (i := barAt ws + 1 + i) (by omega)
        refine w_gmN ?_
        exact lB_ok hwi (hw6 w (List.mem_of_getElem? hwi)) (by omega) (hbj _ (by omega))
      · obtain ⟨x5, x6, rfl, rfl⟩ := hi
        obtain ⟨hlt, rfl⟩ := rgD_get2 hd
        obtain ⟨w, hwi⟩ := get_ex (l := ws) (i := barAt ws + 1 + t) (by omega)
        refine w_gmN ?_
        exact lB_bad hwi (hw6 w (List.mem_of_getElem? hwi)) (ht ▸ hbk) (ht ▸ p _)
    · exact early (.inl ⟨hk, hkb, hbk, hbj⟩)
  | none =>
    rw [hf] at h
    have h := if_finS h
    have hb := firstB_none hf
    by_cases hfin : finS ws = true
    · rw [if_pos hfin] at h
      cases h
    rw [if_neg hfin] at h
    cases h
    rcases Nat.lt_or_eq_of_le hble with hlt | heq
    · refine late hlt (fun j hj => hb j (by omega)) ?_
      obtain ⟨n, hn2⟩ : ∃ n, ws.length = barAt ws + 1 + n := ⟨ws.length - barAt ws - 1, by omega⟩
      have hnb : n < barAt ws := by
        rcases Nat.lt_trichotomy n (barAt ws) with h1 | h1 | h1
        · exact h1
        · exact absurd (decide_eq_true (by omega)) hfin
        · have := hb (barAt ws + 1 + barAt ws) (by omega)
          unfold badS at this
          rw [if_neg (by omega), if_neg (by omega), show decide (barAt ws + 1 + barAt ws - barAt ws - 1 = barAt ws) = true from decide_eq_true (by omega)] at this
          simp at this
      refine x_seq ?_
      repeat' walk_at "ev"
      rw [show ((ws.map D.str).length : Int) = (barAt ws : Int) + 1 + (n : Int) from by rw [List.length_map]; omega]
      refine ⟨_, _, rfl, by simp [lowI]; omega, ?_⟩
      refine w_forM (fun i sl C1 => ∃ x5 x6, sl = [some (.str line), some (.lst (ws.map D.str)), some (.cell C.length), some (.int ((barAt ws : Int) + 1)), some (.cell (C.length + 1)), x5, x6] ∧ C1 = C ++ [.lst ((valsS ws (barAt ws)).map D.int), .lst ((leftS ws (barAt ws) i).map D.int)]) (fun _ _ _ _ => okG_nil _) ?_ ?_ ⟨none, none, rfl, rfl⟩
      · intro i d sl C1 hd hi
        obtain ⟨x5, x6, rfl, rfl⟩ := hi
        obtain ⟨hlt2, rfl⟩ := rgD_get2 hd
        obtain ⟨w, hwi⟩ := get_ex (l := ws) (i := barAt ws + 1 + i) (by omega)
        refine w_gmN ?_
        refine WS.imp (lB_ok hwi (hw6 w (List.mem_of_getElem? hwi)) (by omega) (hb _ (by omega))) fun f sl2 C2 e => ?_
        obtain ⟨rfl, x5, x6, rfl, rfl⟩ := e
        exact ⟨_, _, rfl, rfl⟩
      · intro sl C1 hi
        obtain ⟨x5, x6, rfl, rfl⟩ := hi
        rw [rgD_len2]
        refine ⟨rfl, ?_⟩
        refine x_seq1 (x_if ?_)
        repeat' walk_at "ev"
        refine ite_t (decide_eq_true (by rw [List.length_map, List.length_map, valsS_len, leftS_len]; omega)) ?_
        refine x_raise ?_
        repeat' walk_at "ev"
        rw [List.length_map]
        exact p _
    · exact early (.inr ⟨rfl, heq, hb⟩)
end

/-! what the readings of beginnings have to do with one another -/
section
open TL
def errD (ws : List Str) : Option Nat := match resD ws with
  | .ok _ => none
  | .error k => some k
def errS (ws : List Str) : Option Nat := match resS ws with
  | .ok _ => none
  | .error k => some k
/-- bad at the same places, as long as the words are the same -/
def LocB (bad : List Str → Nat → Bool) : Prop := ∀ (ws vs : List Str) (i : Nat), i < ws.length → i < vs.length → (∀ j, j ≤ i → ws[j]? = vs[j]?) → bad ws i = bad vs i
theorem getD_same {ws vs : List Str} {j : Nat} (h : ws[j]? = vs[j]?) : ws.getD j Str.empty = vs.getD j Str.empty := by rw [List.getD_eq_getElem?_getD, List.getD_eq_getElem?_getD, h]
theorem locD : LocB badD := fun ws vs i h1 h2 h => by
  unfold badD goesE
  rw [getD_same (h i (Nat.le_refl _)), getD_same (h (i - 1) (by omega))]
theorem vals_same {ws vs : List Str} {i : Nat} (h : ∀ j, j ≤ i → ws[j]? = vs[j]?) : valsS ws i = valsS vs i := by
  unfold valsS
  refine List.map_congr_left fun j hj => ?_
  rw [getD_same (h j (by have := List.mem_range.mp hj; omega))]
theorem bar_same {ws vs : List Str} {i : Nat} (h1 : i < ws.length) (h2 : i < vs.length) (h : ∀ j, j ≤ i → ws[j]? = vs[j]?) : (barAt ws ≤ i → barAt vs = barAt ws) := fun hb => by
  have hw := bar_at (ws := ws) (by omega)
  rw [h _ hb] at hw
  have hle : barAt vs ≤ barAt ws := by
    rcases Nat.lt_or_ge (barAt ws) (barAt vs) with q | q
    · exact absurd rfl (bar_no hw q)
    · exact q
  rcases Nat.lt_or_eq_of_le hle with q | q
  · have hv := bar_at (ws := vs) (by omega)
    rw [← h _ (by omega)] at hv
    exact absurd rfl (bar_no hv q)
  · exact q
theorem locS : LocB badS := fun ws vs i h1 h2 h => by
  have hs := vals_same h
  have hd := getD_same (h i (Nat.le_refl _))
  rcases Nat.lt_or_ge i (barAt ws) with q | q
  · have q2 : i < barAt vs := by
      rcases Nat.lt_or_ge i (barAt vs) with r | r
      · exact r
      · have := bar_same h2 h1 (fun j hj => (h j hj).symm) r
        omega
    unfold badS
    rw [if_pos q, if_pos q2, hd]
  · have e := bar_same h1 h2 h q
    unfold badS
    rw [e, hs, hd]
structure Rd (R : List Str → Option Nat) : Prop where
  le : ∀ {ws k}, ws ≠ [] → R ws = some k → k ≤ ws.length
  short0 : R [Str.empty] = none ∨ R [Str.empty] = some 0
  short : ∀ {ws k}, R ws = some k → 0 < k → R (ws.take k) = none ∨ R (ws.take k) = some k
  more : ∀ {ws k w}, R ws = some k → k ≤ ws.length → R (ws.take k ++ [w]) = none ∨ ∃ m, R (ws.take k ++ [w]) = some m ∧ k ≤ m
  there : ∀ {ws k w}, R ws = some k → k < ws.length → R (ws.take (k + 1) ++ [w]) = some k
/-- a reading by bad places and an end -/
theorem rd_of {R : List Str → Option Nat} {bad : List Str → Nat → Bool} (fin : List Str → Bool) (ex : List Str → Prop) (hloc : LocB bad) (hex : ∀ ws, ex ws → R ws = none) (hex1 : ∀ ws, ex ws → ws.length = 1)
    (hR : ∀ ws, ¬ ex ws → R ws = match firstB (bad ws) ws.length with | some k => some k | none => if fin ws = true then none else some ws.length) (h0 : R [Str.empty] = none ∨ R [Str.empty] = some 0) : Rd R := by
  have cases3 : ∀ ws, R ws = none ∨ (∃ k, R ws = some k ∧ k < ws.length ∧ bad ws k = true ∧ ∀ j, j < k → bad ws j = false) ∨ (R ws = some ws.length ∧ ∀ j, j < ws.length → bad ws j = false) := fun ws => by
    by_cases he : ex ws
    · exact .inl (hex ws he)
    · rw [hR ws he]
      cases hf : firstB (bad ws) ws.length with
      | some k => exact .inr (.inl ⟨k, rfl, firstB_some hf⟩)
      | none =>
        show (if fin ws = true then none else some ws.length) = none ∨ _
        by_cases hfin : fin ws = true
        · exact .inl (if_pos hfin)
        · refine .inr (.inr ⟨?_, firstB_none hf⟩)
          show (if fin ws = true then none else some ws.length) = some ws.length
          exact if_neg hfin
  have before : ∀ {ws k}, R ws = some k → k ≤ ws.length ∧ ∀ j, j < k → bad ws j = false := fun {ws k} h => by
    rcases cases3 ws with e | ⟨m, e, h1, h2, h3⟩ | ⟨e, h3⟩
    · rw [e] at h
      cases h
    · rw [e] at h
      cases h
      exact ⟨by omega, h3⟩
    · rw [e] at h
      cases h
      exact ⟨Nat.le_refl _, h3⟩
  have agree : ∀ {ws : List Str} {k : Nat} {t : List Str} {j : Nat}, k ≤ ws.length → j < k → (ws.take k ++ t)[j]? = ws[j]? := fun {ws k t j} hk hj => by
    rw [List.getElem?_append_left (by rw [List.length_take]; omega), List.getElem?_take_of_lt hj]
  have good : ∀ {ws : List Str} {k : Nat} {t : List Str}, k ≤ ws.length → (∀ j, j < k → bad ws j = false) → ∀ j, j < k → bad (ws.take k ++ t) j = false := fun {ws k t} hk hg j hj => by
    rw [← hloc ws (ws.take k ++ t) j (by omega) (by rw [List.length_append, List.length_take]; omega) fun i hi => (agree hk (by omega)).symm]
    exact hg j hj
  have low : ∀ {vs : List Str} {k m : Nat}, (∀ j, j < k → bad vs j = false) → k ≤ vs.length → R vs = some m → k ≤ m := fun {vs k m} hg hk h => by
    rcases cases3 vs with e | ⟨m', e, h1, h2, h3⟩ | ⟨e, h3⟩
    · rw [e] at h
      cases h
    · rw [e] at h
      cases h
      rcases Nat.lt_or_ge m k with q | q
      · rw [hg m q] at h2
        cases h2
      · exact q
    · rw [e] at h
      cases h
      exact hk
  refine ⟨fun {ws k} _ h => (before h).1, h0, fun {ws k} h hk => ?_, fun {ws k w} h hk => ?_, fun {ws k w} h hk => ?_⟩
  · obtain ⟨h1, h2⟩ := before h
    have hl : (ws.take k).length = k := by rw [List.length_take]; omega
    have g := good (t := []) h1 h2
    rw [List.append_nil] at g
    cases e : R (ws.take k) with
    | none => exact .inl rfl
    | some m =>
      have a := low g (by omega) e
      have b := (before e).1
      exact .inr (by congr 1; omega)
  · obtain ⟨h1, h2⟩ := before h
    cases e : R (ws.take k ++ [w]) with
    | none => exact .inl rfl
    | some m => exact .inr ⟨m, rfl, low (good h1 h2) (by rw [List.length_append, List.length_take]; omega) e⟩
  · obtain ⟨h1, h2⟩ := before h
    have hbad : bad ws k = true := by
      rcases cases3 ws with e | ⟨m, e, h3, h4, h5⟩ | ⟨e, h3⟩
      · rw [e] at h
        cases h
      · rw [e] at h
        cases h
        exact h4
      · rw [e] at h
        cases h
        omega
    have hk1 : k + 1 ≤ ws.length := hk
    have hl : (ws.take (k + 1) ++ [w]).length = k + 2 := by rw [List.length_append, List.length_take]; show _ + 1 = _; omega
    have hb2 : bad (ws.take (k + 1) ++ [w]) k = true := by
      rw [← hloc ws _ k hk (by omega) fun i hi => (agree hk1 (by omega)).symm]
      exact hbad
    have hg2 : ∀ j, j < k → bad (ws.take (k + 1) ++ [w]) j = false := fun j hj => by
      rw [← hloc ws _ j (by omega) (by omega) fun i hi => (agree hk1 (by omega)).symm]
      exact h2 j hj
    have hnex : ¬ ex (ws.take (k + 1) ++ [w]) := fun he => by
      have := hex1 _ he
      omega
    rw [hR _ hnex]
    have : firstB (bad (ws.take (k + 1) ++ [w])) (ws.take (k + 1) ++ [w]).length = some k := by
      refine List.find?_range_eq_some.mpr ⟨hb2, List.mem_range.mpr (by omega), fun j hj => ?_⟩
      rw [hg2 j hj]
      rfl
    rw [this]
theorem rdD : Rd errD := rd_of (bad := badD) finD (fun ws => ws = [Str.empty]) locD (fun ws h => by
    unfold errD resD
    rw [if_pos h]) (fun ws h => by rw [h]; rfl) (fun ws h => by
    unfold errD resD
    rw [if_neg h]
    cases firstB (badD ws) ws.length with
    | some k => rfl
    | none =>
      show (match (if finD ws = true then Except.ok (foundD ws (ws.length / 2)) else Except.error ws.length : Except Nat _) with | .ok _ => none | .error k => some k) = if finD ws = true then none else some ws.length
      by_cases h : finD ws = true
      · rw [if_pos h, if_pos h]
      · rw [if_neg h, if_neg h]) (.inl (by
    unfold errD resD
    rw [if_pos rfl]))
theorem rdS : Rd errS := rd_of (bad := badS) finS (fun _ => False) locS (fun ws h => h.elim) (fun ws h => h.elim) (fun ws _ => by
    unfold errS resS
    cases firstB (badS ws) ws.length with
    | some k => rfl
    | none =>
      show (match (if finS ws = true then Except.ok (valsS ws (barAt ws), leftS ws (barAt ws) (barAt ws)) else Except.error ws.length : Except Nat _) with | .ok _ => none | .error k => some k) = if finS ws = true then none else some ws.length
      by_cases h : finS ws = true
      · rw [if_pos h, if_pos h]
      · rw [if_neg h, if_neg h]) (.inr (by decide +kernel))
end

/-! what is read is written just so -/
section
open TL
theorem end_comma {w : Str} (h : endC w = true) : w = bareW w ++ "," := by
  have h1 : cutS w (some (-1)) none = "," := of_decide_eq_true h
  unfold bareW
  rw [if_pos h]
  rcases List.eq_nil_or_concat (tl w) with e | ⟨l, c, e⟩
  · have : w = "" := ext_tl e
    rw [this] at h1
    exact absurd h1 (by decide +kernel)
  · rw [List.concat_eq_append] at e
    have e2 := str_snoc e
    rw [e2, cutS_last] at h1
    rw [e2, cutS_init, ← h1]
theorem bare_self {w : Str} (h : endC w = false) : bareW w = w := by
  unfold bareW
  rw [if_neg (by rw [h]; decide)]
theorem foundD_get {ws : List Str} {m j : Nat} (h : j < m) : (foundD ws m)[j]? = some (ws.getD (2 * j) Str.empty, valN (bareW (ws.getD (2 * j + 1) Str.empty))) := by
  unfold foundD
  rw [List.getElem?_map, List.getElem?_range h]
  rfl
theorem bad_odd {ws : List Str} {j : Nat} (hb : badD ws (2 * j + 1) = false) : okN (bareW (ws.getD (2 * j + 1) Str.empty)) 1 = true := by
  unfold badD at hb
  rw [if_neg (by omega)] at hb
  simpa using hb
theorem ok_well {z : Str} {n : Int} (h : okN z n = true) : wellB z = true ∧ n ≤ valN z := by
  unfold okN at h
  rw [Bool.and_eq_true] at h
  exact ⟨h.1, of_decide_eq_true h.2⟩
theorem ws_back {ws : List Str} (hne : ws ≠ []) (hb : ∀ j, j < ws.length → badD ws j = false) (hf : finD ws = true) : ws = wsOf (foundD ws (ws.length / 2)) := by
  unfold finD at hf
  rw [Bool.and_eq_true] at hf
  have h2 : ws.length % 2 = 0 := of_decide_eq_true hf.2
  have hg : goesE ws ws.length = false := by simpa using hf.1
  have hpos : 0 < ws.length := List.length_pos_iff.mpr hne
  obtain ⟨m, hm⟩ : ∃ m, ws.length = 2 * m := ⟨ws.length / 2, by omega⟩
  rw [show ws.length / 2 = m from by omega]
  have hfl := foundD_len ws m
  have hl : (wsOf (foundD ws m)).length = 2 * m := by
    rw [wsOf_len _ (fun e => by rw [e] at hfl; have hfl : 0 = m := hfl; omega), hfl]
  refine List.ext_getElem? fun i => ?_
  rcases Nat.lt_or_ge i (2 * m) with hi | hi
  · have hj : i / 2 < m := by omega
    obtain ⟨w1, w2⟩ := wsOf_even _ _ _ (foundD_get (ws := ws) hj)
    obtain ⟨w, hw⟩ := get_ex (l := ws) (i := i) (by omega)
    rcases Nat.mod_two_eq_zero_or_one i with hi2 | hi2
    · rw [show 2 * (i / 2) = i from by omega] at w1
      rw [w1, hw, getD_at hw]
    · rw [show 2 * (i / 2) + 1 = i from by omega, hfl] at w2
      rw [w2, hw]
      have hok := bad_odd (ws := ws) (j := i / 2) (hb _ (by omega))
      rw [show 2 * (i / 2) + 1 = i from by omega, getD_at hw] at hok
      have hnum := well_num (ok_well hok).1
      have hgo : goesE ws (i + 1) = endC w := by
        unfold goesE
        rw [show i + 1 - 1 = i from rfl, getD_at hw]
        simp
      show some w = some (if i / 2 + 1 < m then numS (valN (bareW (ws.getD i Str.empty))) ++ "," else numS (valN (bareW (ws.getD i Str.empty))))
      rw [getD_at hw]
      by_cases hlast : i / 2 + 1 < m
      · rw [if_pos hlast, ← hnum]
        have hbad := hb (i + 1) (by omega)
        unfold badD at hbad
        rw [if_pos (by omega), Bool.or_eq_false_iff, hgo] at hbad
        have he : endC w = true := by simpa using hbad.1
        exact congrArg some (end_comma he)
      · rw [if_neg hlast, ← hnum]
        have he : endC w = false := by
          rw [← hgo, show i + 1 = ws.length from by omega]
          exact hg
        rw [bare_self he]
  · rw [List.getElem?_eq_none (by omega), List.getElem?_eq_none (by omega)]
theorem resD_ok {ws : List Str} {es : List (Str × Int)} (hne : ws ≠ []) (h : resD ws = .ok es) : ws = wsOf es ∧ (∀ e ∈ es, 1 ≤ e.2 ∧ numS e.2 ∈ ws.map bareW ∧ e.1 ∈ ws) ∧ es.length ≤ ws.length := by
  unfold resD at h
  by_cases e0 : ws = [Str.empty]
  · rw [if_pos e0] at h
    cases h
    exact ⟨e0, (fun e he => nomatch he), Nat.zero_le _⟩
  rw [if_neg e0] at h
  cases hf : firstB (badD ws) ws.length with
  | some k =>
    rw [hf] at h
    cases h
  | none =>
    rw [hf] at h
    have hb := firstB_none hf
    have h : (if finD ws = true then Except.ok (foundD ws (ws.length / 2)) else Except.error ws.length) = (Except.ok es : Except Nat _) := h
    by_cases hfin : finD ws = true
    · rw [if_pos hfin] at h
      cases h
      refine ⟨ws_back hne hb hfin, fun e he => ?_, by rw [foundD_len]; omega⟩
      obtain ⟨j, hj, rfl⟩ := List.mem_map.mp he
      have hj := List.mem_range.mp hj
      have hok := ok_well (bad_odd (ws := ws) (j := j) (hb _ (by omega)))
      obtain ⟨w, hw⟩ := get_ex (l := ws) (i := 2 * j + 1) (by omega)
      obtain ⟨w0, hw0⟩ := get_ex (l := ws) (i := 2 * j) (by omega)
      refine ⟨hok.2, ?_, ?_⟩
      · show numS (valN (bareW (ws.getD (2 * j + 1) Str.empty))) ∈ _
        rw [← well_num hok.1, getD_at hw]
        exact List.mem_map_of_mem (List.mem_of_getElem? hw)
      · show ws.getD (2 * j) Str.empty ∈ _
        rw [getD_at hw0]
        exact List.mem_of_getElem? hw0
    · rw [if_neg hfin] at h
      cases h
theorem back_D {line : Str} {es : List (Str × Int)} (h : resD (cutW line) = .ok es) : line = Txt.join ", " (lineOf es) := by
  rw [line_join, ← (resD_ok (cutW_ne line) h).1, cutW_join]
theorem numL_lt_pow (n : Nat) : n < 10 ^ (numL n).length := by
  induction n using Nat.strongRecOn with
  | _ n ih =>
    by_cases h : n < 10
    · rw [numL_lt h]
      simpa using h
    · rw [numL_step (by omega), List.length_append]
      have := ih (n / 10) (by omega)
      show n < 10 ^ ((numL (n / 10)).length + 1)
      rw [Nat.pow_succ]
      omega
theorem resS_ok {ws : List Str} {rl : List Int × List Int} (hn : ws.length ≤ 402) (h : resS ws = .ok rl) : Vs rl.1 rl.2 ∧ ws = wsS rl.1 rl.2 := by
  unfold resS at h
  cases hf : firstB (badS ws) ws.length with
  | some k =>
    rw [hf] at h
    cases h
  | none =>
    rw [hf] at h
    have hb := firstB_none hf
    have h : (if finS ws = true then Except.ok (valsS ws (barAt ws), leftS ws (barAt ws) (barAt ws)) else Except.error ws.length) = (Except.ok rl : Except Nat _) := h
    by_cases hfin : finS ws = true
    case neg =>
      rw [if_neg hfin] at h
      cases h
    rw [if_pos hfin] at h
    cases h
    have hlen : ws.length = 2 * barAt ws + 1 := of_decide_eq_true hfin
    have hbar := hb (barAt ws) (by omega)
    unfold badS at hbar
    rw [if_neg (by omega), if_pos rfl, Bool.or_eq_false_iff] at hbar
    have hb2 : 2 ≤ barAt ws := by have := of_decide_eq_false hbar.1; omega
    have hmax : ¬ maxL (valsS ws (barAt ws)) > (barAt ws : Int) := of_decide_eq_false hbar.2
    have hvl := valsS_len ws (barAt ws)
    have hll := leftS_len ws (barAt ws) (barAt ws)
    have hvne : valsS ws (barAt ws) ≠ [] := fun e => by
      rw [e] at hvl
      have hvl : 0 = barAt ws := hvl
      omega
    have right : ∀ i, i < barAt ws → okN (ws.getD i Str.empty) ((i : Int) + 1) = true := fun i hi => by
      have := hb i (by omega)
      unfold badS at this
      rw [if_pos hi] at this
      simpa using this
    have left : ∀ t, t < barAt ws → okN (ws.getD (barAt ws + 1 + t) Str.empty) 0 = true ∧ ¬ valN (ws.getD (barAt ws + 1 + t) Str.empty) > (t : Int) := fun t ht => by
      have := hb (barAt ws + 1 + t) (by omega)
      unfold badS at this
      rw [if_neg (by omega), if_neg (by omega), show barAt ws + 1 + t - barAt ws - 1 = t from by omega, Bool.or_eq_false_iff, Bool.or_eq_false_iff] at this
      exact ⟨by simpa using this.1.2, of_decide_eq_false this.2⟩
    have vget : ∀ i, i < barAt ws → (valsS ws (barAt ws))[i]? = some (valN (ws.getD i Str.empty)) := fun i hi => by
      unfold valsS
      rw [List.getElem?_map, List.getElem?_range hi]
      rfl
    have lget : ∀ i, i < barAt ws → (leftS ws (barAt ws) (barAt ws))[i]? = some (valN (ws.getD (barAt ws + 1 + i) Str.empty)) := fun i hi => by
      unfold leftS
      rw [List.getElem?_map, List.getElem?_range hi]
      rfl
    refine ⟨⟨by rw [hll, hvl], by rw [hvl]; exact hb2, by rw [hvl]; omega, fun i x hx => ?_, fun i x hx => ?_⟩, ?_⟩
    · have hi : i < barAt ws := by
        have := (List.getElem?_eq_some_iff.mp hx).1
        rwa [hvl] at this
      have hmem := (maxL_spec hvne).2 x (List.mem_of_getElem? hx)
      rw [vget i hi] at hx
      cases hx
      have := (ok_well (right i hi)).2
      refine ⟨by omega, ?_⟩
      show valN (ws.getD i Str.empty) ≤ (((valsS ws (barAt ws)).length : Nat) : Int)
      rw [hvl]
      omega
    · have hi : i < barAt ws := by
        have := (List.getElem?_eq_some_iff.mp hx).1
        rwa [hll] at this
      rw [lget i hi] at hx
      cases hx
      have := left i hi
      exact ⟨valN_nn _, by omega⟩
    · refine List.ext_getElem? fun i => ?_
      rcases Nat.lt_trichotomy i (barAt ws) with hi | hi | hi
      · rw [wsS_r (vget i hi), ← well_num (ok_well (right i hi)).1]
        obtain ⟨w, hw⟩ := get_ex (l := ws) (i := i) (by omega)
        rw [getD_at hw, hw]
      · have := wsS_bar (rs := valsS ws (barAt ws)) (ls := leftS ws (barAt ws) (barAt ws))
        rw [hvl] at this
        rw [hi, this, bar_at (by omega)]
      · rcases Nat.lt_or_ge i ws.length with hl | hl
        · obtain ⟨t, ht⟩ : ∃ t, i = barAt ws + 1 + t := ⟨i - barAt ws - 1, by omega⟩
          have htl : t < barAt ws := by omega
          have := wsS_l (rs := valsS ws (barAt ws)) (lget t htl)
          rw [hvl] at this
          rw [ht, this, ← well_num (ok_well (left t htl).1).1]
          obtain ⟨w, hw⟩ := get_ex (l := ws) (i := barAt ws + 1 + t) (by omega)
          rw [getD_at hw, hw]
        · rw [List.getElem?_eq_none (by omega), List.getElem?_eq_none (by rw [wsS_len, hvl, hll]; omega)]
theorem back_S {line : Str} {rl : List Int × List Int} (hl : line.length ≤ 400) (h : resS (cutW line) = .ok rl) : Vs rl.1 rl.2 ∧ line = standS rl.1 rl.2 := by
  have hn : (cutW line).length ≤ 402 := by
    have := wtW_len (cutW line)
    have := cutW_wt line
    omega
  obtain ⟨v, hw⟩ := resS_ok hn h
  refine ⟨v, ?_⟩
  have h2 := v.two
  have h3 := v.len
  rw [stand_join (fun e => by rw [e] at h2; exact absurd h2 (by decide)) (fun e => by rw [e] at h3; have h3 : 0 = rl.1.length := h3; omega), ← hw, cutW_join]
end

/-! texts of plain signs -/
section
open TL
abbrev Asc (z : Str) : Prop := ∀ c ∈ tl z, c < 128
theorem asc_ok {z : Str} (h : Asc z) : ∀ x ∈ cutW z, PyData.strOk x = true := fun x hx => strOk_of fun c hc => h c (cutW_mem hx hc)
theorem wtW_take (ws : List Str) (k : Nat) : wtW (ws.take k) ≤ wtW ws := by
  have := wtW_app (ws.take k) (ws.drop k)
  rw [List.take_append_drop] at this
  omega
theorem asc_join {ps : List Str} (h : ∀ p ∈ ps, Asc p) : Asc (Txt.join " " ps) := fun c hc => by
  rw [join_eq, tl_join] at hc
  have key : ∀ {qs : List (List Nat)}, c ∈ joinL (tl " ") qs → c = 32 ∨ ∃ p ∈ qs, c ∈ p := by
    intro qs
    induction qs with
    | nil => intro h; cases h
    | cons a b ih =>
      intro h
      cases b with
      | nil => exact .inr ⟨a, List.mem_cons_self .., h⟩
      | cons b1 b2 =>
        have h : c ∈ a ++ (tl " " ++ joinL (tl " ") (b1 :: b2)) := h
        rcases List.mem_append.mp h with h | h
        · exact .inr ⟨a, List.mem_cons_self .., h⟩
        rcases List.mem_append.mp h with h | h
        · have h : c ∈ [32] := h
          exact .inl (List.mem_singleton.mp h)
        rcases ih h with h | ⟨p, hp, h⟩
        · exact .inl h
        · exact .inr ⟨p, List.mem_cons_of_mem _ hp, h⟩
  rcases key hc with h2 | ⟨p, hp, h2⟩
  · omega
  · obtain ⟨z, hz, rfl⟩ := List.mem_map.mp hp
    exact h z hz c h2
end

/-! the law's own look at figures -/
section
open TL
variable {C : Store} {QD : D → Store → Prop}
theorem w_neLT {l m : List Str} (hl : ∀ x ∈ l, PyData.strOk x = true) (hm : ∀ x ∈ m, PyData.strOk x = true) (q : QD (.bl (!decide (l = m))) C) : W (gNe (.lst (l.map D.str)) (.lst (m.map D.str)) C) QD := by
  refine w_neP (toP_strs _ _) (toP_strs _ _) (shaped_strs hl) (shaped_strs hm) (fun a e => by cases e) ?_
  show QD (.bl (!PyData.eqvAll _ _)) C
  rwa [eqvAll_strs]
def offC (c : Nat) : Bool := decide (c < 48) || decide (57 < c)
theorem sign_lt (c d : Nat) : decide (([c] : List Nat) < [d]) = decide (c < d) := by simp [List.cons_lt_cons_iff]
theorem sign_lt0 (c : Nat) : decide ((⟨#[c]⟩ : Str).cps.toList < (Str.ofString "0").cps.toList) = decide (c < 48) := sign_lt c 48
theorem sign_gt9 (c : Nat) : decide ((Str.ofString "9").cps.toList < (⟨#[c]⟩ : Str).cps.toList) = decide (57 < c) := sign_lt 57 c
theorem off_none {l : List Nat} : decide ((l.filter offC).map (fun c => (⟨#[c]⟩ : Str)) = []) = l.all fun c => decide (48 ≤ c ∧ c ≤ 57) := by
  rw [Bool.eq_iff_iff, decide_eq_true_eq, List.map_eq_nil_iff, List.filter_eq_nil_iff, List.all_eq_true]
  unfold offC
  constructor
  · intro h c hc
    have := h c hc
    rw [Bool.or_eq_true, decide_eq_true_eq, decide_eq_true_eq] at this
    exact decide_eq_true (by omega)
  · intro h c hc
    have := of_decide_eq_true (h c hc)
    rw [Bool.or_eq_true, decide_eq_true_eq, decide_eq_true_eq]
    omega
theorem figures_ok {z : Str} (hl : z.length ≤ 640) (ha : ∀ c ∈ tl z, c < 128) (q : QD (.bl (wellB z)) C) : W (m__law_figures [.str z] C) QD := by
  have hlz : (tl z).length ≤ 640 := by rw [← len_tl]; exact hl
  unfold m__law_figures
  repeat' walk_at "ev"
  by_cases h0 : z = ""
  · refine ite_t (decide_eq_true h0) ?_
    repeat' walk_at "ev"
    refine fin_same rfl rfl ?_
    rw [show wellB z = false from by unfold wellB; rw [decide_eq_true h0]; rfl] at q
    exact q
  refine ite_f (decide_eq_false h0) ?_
  repeat' walk_at "ev"
  refine w_iStr ?_
  repeat' walk_at "ev"
  refine ⟨_, rfl, ?_⟩
  refine le_and (len_le (by rw [List.length_map]; exact Nat.le_trans hlz (by decide))) ?_
  refine w_lcAf (l := tl z) (φ := fun c => .str ⟨#[c]⟩) (p := offC) (f := fun c => .str ⟨#[c]⟩) (okG_nil _) (fun i c hc => ?_) ?_
  · repeat' walk_at "ev"
    refine w_ltS ?_
    rw [sign_lt0]
    repeat' walk_at "ev"
    refine w_ite (fun h => ?_) (fun h => ?_)
    · have h1 : offC c = true := by unfold offC; rw [h]; rfl
      refine ⟨h1.symm, rfl, fun _ => ?_⟩
      repeat' walk_at "ev"
      exact ⟨rfl, rfl⟩
    · have h1 : offC c = decide (57 < c) := by unfold offC; rw [h]; rfl
      repeat' walk_at "ev"
      refine w_gtS ?_
      rw [sign_gt9]
      repeat' walk_at "ev"
      refine ⟨h1.symm, rfl, fun _ => ?_⟩
      repeat' walk_at "ev"
      exact ⟨rfl, rfl⟩
  repeat' walk_at "ev"
  rw [show ((tl z).filter offC).map (fun c => D.str (⟨#[c]⟩ : Str)) = (((tl z).filter offC).map fun c => (⟨#[c]⟩ : Str)).map D.str from by rw [List.map_map]; rfl]
  refine w_neLT (m := []) (fun x hx => ?_) (fun x hx => nomatch hx) ?_
  · obtain ⟨c, hc, rfl⟩ := List.mem_map.mp hx
    exact strOk_of fun d hd => by
      have hd : d ∈ [c] := hd
      rw [List.mem_singleton.mp hd]
      exact ha c (List.mem_filter.mp hc).1
  rw [off_none, show ((tl z).all fun c => decide (48 ≤ c ∧ c ≤ 57)) = digB z from rfl]
  cases hd : digB z with
  | false =>
    repeat' walk_at "ev"
    refine fin_same rfl rfl ?_
    rw [show wellB z = false from by unfold wellB; rw [hd]; simp] at q
    exact q
  | true =>
    obtain ⟨c, r, hc⟩ : ∃ c r, tl z = c :: r := by
      cases e : tl z with
      | nil => exact absurd (ext_tl e : z = "") h0
      | cons a b => exact ⟨a, b, rfl⟩
    have h1 : atI (tl z) 0 = some c := L2.atI_nat (j := 0) (by rw [hc]; rfl)
    have c0 : (tl z)[0]? = some c := by rw [hc]; rfl
    have e48 : decide ((⟨#[c]⟩ : Str) = "0") = decide ((tl z)[0]? = some 48) := by
      rw [c0, Bool.eq_iff_iff, decide_eq_true_eq, decide_eq_true_eq]
      constructor
      · intro h
        have e : tl (⟨#[c]⟩ : Str) = tl "0" := congrArg tl h
        have e : [c] = [48] := e
        cases e
        rfl
      · intro h
        cases h
        rfl
    have hw : wellB z = (!decide ((⟨#[c]⟩ : Str) = "0") || decide (z = "0")) := by
      unfold wellB
      rw [hd, decide_eq_false h0, e48]
      cases decide ((tl z)[0]? = some 48) <;> cases decide (z = "0") <;> rfl
    rw [hw] at q
    repeat' walk_at "ev"
    refine w_ixStr (Nat.le_trans hl (by decide)) h1 ?_
    repeat' walk_at "ev"
    refine w_ite (fun h => ?_) (fun h => ?_)
    · rw [h] at q
      exact fin_same rfl rfl q
    · rw [h, Bool.false_or] at q
      repeat' walk_at "ev"
      exact fin_same rfl rfl q
end

/-! a text marred -/
section
open TL
variable {C : Store} {QD : D → Store → Prop}
theorem w_lenStr {z : Str} (hz : z.length ≤ 16000000) (q : QD (.int (z.length : Nat)) C) : W (on1 gLen [.str z] C) QD := by
  refine W.of (a := .int (z.length : Nat)) (C := C) ?_ q
  show gLen (.str z) C = _
  unfold gLen
  simp only []
  rw [if_pos (by rw [sizeLine_eq]; omega)]
theorem at_mem {L : List D} {r : Int} (h0 : 0 ≤ r) (h1 : r < L.length) : ∃ d, atI L r = some d ∧ d ∈ L := by
  obtain ⟨i, rfl⟩ := Int.eq_ofNat_of_zero_le h0
  have hi : i < L.length := by omega
  exact ⟨L[i], Nv.atI_nat (List.getElem?_eq_getElem hi), List.getElem_mem hi⟩
theorem w_ixM {ds : List D} {i : Int} {P : D → Prop} (hP : ∀ d ∈ ds, P d) (h0 : 0 ≤ i) (h1 : i < ds.length) (q : ∀ d, P d → QD d C) : W (gIx (.lst ds) (.int i) C) QD := by
  obtain ⟨d, e, hd⟩ := at_mem h0 h1
  exact w_ixL e (q d (hP d hd))
theorem cutS_mem {z : Str} {a b : Option Int} {c : Nat} (h : c ∈ tl (cutS z a b)) : c ∈ tl z := List.mem_of_mem_drop (List.mem_of_mem_take h)
theorem cut_sub {l : List Str} (a b : Option Int) : ∃ l' : List Str, cutD (l.map D.str) a b = l'.map D.str ∧ l'.Sublist l := by
  refine ⟨(l.drop (HT.sIx (l.map D.str).length 0 a)).take (HT.sIx (l.map D.str).length (l.map D.str).length b - HT.sIx (l.map D.str).length 0 a), ?_, (List.take_sublist _ _).trans (List.drop_sublist _ _)⟩
  show ((l.map D.str).drop _).take _ = _
  rw [List.map_take, List.map_drop]
theorem wtW_sub {a b : List Str} (h : a.Sublist b) : wtW a ≤ wtW b := by
  induction h with
  | slnil => exact Nat.le_refl _
  | cons x _ ih => rw [wtW_cons]; omega
  | cons_cons x _ ih => rw [wtW_cons, wtW_cons]; omega
theorem wtW_rev (a : List Str) : wtW a.reverse = wtW a := by
  induction a with
  | nil => rfl
  | cons x a ih =>
    rw [List.reverse_cons, wtW_app, ih, wtW_cons x a]
    show _ + (x.length + 1 + 0) = _
    omega
/-- a list of words, of a weight at most -/
def PL (B : Nat) (d : D) : Prop := ∃ ys : List Str, d = .lst (ys.map D.str) ∧ wtW ys ≤ B ∧ ∀ y ∈ ys, ∀ c ∈ tl y, c < 128
theorem marred_ok {S : Cell} {m : Nat} {z : Str} {signs : List Str} {X : Store} (hX : ClS X) (hS : Sk m S) (hm : m ≤ 10 ^ 7) (hl : z.length ≤ 1000) (ha : ∀ c ∈ tl z, c < 128) (hs : ∀ s ∈ signs, s.length ≤ 5 ∧ ∀ c ∈ tl s, c < 128) (hn0 : 0 < signs.length) (hn1 : signs.length ≤ 100)
    (q : ∀ S' z', Sk (m + 6) S' → z'.length ≤ 3 * z.length + 10 → (∀ c ∈ tl z', c < 128) → QD (.str z') (S' :: X)) : W (m__law_marred [.cell 0, .str z, .lst (signs.map D.str)] (S :: X)) QD := by
  have hwt := cutW_wt z
  have hwl := wtW_len (cutW z)
  have hne : 0 < (cutW z).length := List.length_pos_iff.mpr (cutW_ne z)
  have hasc : ∀ p ∈ cutW z, ∀ c ∈ tl p, c < 128 := fun p hp c hc => ha c (cutW_mem hp hc)
  unfold m__law_marred
  repeat' walk_at "ev"
  refine w_split (a := z) (b := " ") ?_
  repeat' walk_at "ev"
  refine ⟨rfl, ?_⟩
  repeat' walk_at "ev"
  refine ⟨rfl, by decide +kernel, by omega, ?_⟩
  rw [show Txt.split z (Str.ofString " ") = cutW z from rfl]
  generalize cutW z = ws at hwt hwl hne hasc ⊢
  repeat' walk_at "ev"
  refine take_ok (by rfl) hS (by omega) (by rw [List.length_map]; omega) (by rw [List.length_map]; omega) fun r S1 r0 r1 hS1 => ?_
  repeat' walk_at "ev"
  refine take_ok (by rfl) hS1 (by omega) (by rw [List.length_map]; omega) (by rw [List.length_map]; omega) fun r2 S2 r20 r21 hS2 => ?_
  refine w_ixM (P := fun d => ∃ s, d = .str s ∧ s.length ≤ 5 ∧ ∀ c ∈ tl s, c < 128) (fun d hd => by
    obtain ⟨s, hs', rfl⟩ := List.mem_map.mp hd
    exact ⟨s, rfl, hs s hs'⟩) r20 r21 fun d hd => ?_
  obtain ⟨s, rfl, sl1, sa⟩ := hd
  repeat' walk_at "ev"
  refine take_ok (by rfl) hS2 (by omega) (by decide) (by decide) fun r3 S3 r30 r31 hS3 => ?_
  repeat' walk_at "ev"
  refine w_ite (fun h6 => ?_) (fun h6 => ?_)
  · repeat' walk_at "ev"
    refine w_lenStr (by omega) ?_
    repeat' walk_at "ev"
    refine take_ok (by rfl) hS3 (by omega) (by omega) (by omega) fun r4 S4 r40 r41 hS4 => ?_
    repeat' walk_at "ev"
    refine w_slStr (by omega) ?_
    have hcl := cutS_length z none (some r4)
    refine fin_flat0 (C1 := S4 :: X) (C := S :: X) rfl (cl_cons (hS4.closed _) fun c hc => closedC_mono (Nat.zero_le _) c (hX c hc)) rfl rfl (q S4 _ (hS4.mono (by omega)) (by omega) fun c hc => ha c (cutS_mem hc))
  repeat' walk_at "ev"
  refine w_ite (fun h5 => ?_) (fun h5 => ?_)
  · repeat' walk_at "ev"
    refine w_lenStr (by omega) ?_
    repeat' walk_at "ev"
    refine take_ok (by rfl) hS3 (by omega) (by omega) (by omega) fun r4 S4 r40 r41 hS4 => ?_
    have c1 := cutS_length z none (some r4)
    have c2 := cutS_length s none (some 1)
    repeat' walk_at "ev"
    refine w_slStr (by omega) ?_
    repeat' walk_at "ev"
    refine w_slStr (by omega) ?_
    refine w_addS (by rw [sizeLine_eq]; omega) ?_
    have l12 : (cutS z none (some r4) ++ cutS s none (some 1)).length = (cutS z none (some r4)).length + (cutS s none (some 1)).length := by rw [len_tl, tl_append, List.length_append, ← len_tl, ← len_tl]
    repeat' walk_at "ev"
    refine take_ok (by rfl) hS4 (by omega) (by decide) (by decide) fun r5 S5 r50 r51 hS5 => ?_
    repeat' walk_at "ev"
    refine w_slStr (by omega) ?_
    have c3 := cutS_length z (some (r4 + r5)) none
    refine w_addS (by rw [sizeLine_eq]; omega) ?_
    refine fin_flat0 (C1 := S5 :: X) (C := S :: X) rfl (cl_cons (hS5.closed _) fun c hc => closedC_mono (Nat.zero_le _) c (hX c hc)) rfl rfl (q S5 _ (hS5.mono (by omega)) ?_ fun c hc => ?_)
    · rw [len_tl, tl_append, List.length_append, ← len_tl, ← len_tl, l12]
      omega
    · rw [tl_append, tl_append] at hc
      rcases List.mem_append.mp hc with hc | hc
      · rcases List.mem_append.mp hc with hc | hc
        · exact ha c (cutS_mem hc)
        · exact sa c (cutS_mem hc)
      · exact ha c (cutS_mem hc)
  obtain ⟨A, eA, sA⟩ := cut_sub (l := ws) none (some r)
  obtain ⟨B, eB, sB⟩ := cut_sub (l := ws) (some (r + 1)) none
  obtain ⟨E, eE, sE⟩ := cut_sub (l := ws) (some r) none
  obtain ⟨M, eM, sM⟩ := cut_sub (l := ws) (some r) (some (r + 1))
  have wA := wtW_sub sA
  have wB := wtW_sub sB
  have wE := wtW_sub sE
  have wM := wtW_sub sM
  have lA := sA.length_le
  have lB := sB.length_le
  have lE := sE.length_le
  have lM := sM.length_le
  have aA : ∀ y ∈ A, ∀ c ∈ tl y, c < 128 := fun y hy => hasc y (sA.subset hy)
  have aB : ∀ y ∈ B, ∀ c ∈ tl y, c < 128 := fun y hy => hasc y (sB.subset hy)
  have aE : ∀ y ∈ E, ∀ c ∈ tl y, c < 128 := fun y hy => hasc y (sE.subset hy)
  have aM : ∀ y ∈ M, ∀ c ∈ tl y, c < 128 := fun y hy => hasc y (sM.subset hy)
  have bnd : ∀ a b : List D, a.length + b.length ≤ 10000 → a.length + b.length ≤ sizeLine := fun a b h => by rw [sizeLine_eq]; omega
  repeat' walk_at "ev"
  refine w_slL ?_
  rw [eA]
  repeat' walk_at "ev"
  refine w_slL ?_
  rw [eB]
  repeat' walk_at "ev"
  refine w_addL (bnd _ _ (by rw [List.length_map, List.length_map]; omega)) ?_
  repeat' walk_at "ev"
  refine w_slL ?_
  rw [eA]
  repeat' walk_at "ev"
  refine w_addL (bnd _ _ (by rw [List.length_map]; show _ + 1 ≤ _; omega)) ?_
  repeat' walk_at "ev"
  refine w_slL ?_
  rw [eE]
  repeat' walk_at "ev"
  refine w_addL (bnd _ _ (by rw [List.length_append, List.length_map, List.length_map]; show _ + 1 + _ ≤ _; omega)) ?_
  repeat' walk_at "ev"
  refine w_slL ?_
  rw [eA]
  repeat' walk_at "ev"
  refine w_addL (bnd _ _ (by rw [List.length_map]; show _ + 1 ≤ _; omega)) ?_
  repeat' walk_at "ev"
  refine w_slL ?_
  rw [eB]
  repeat' walk_at "ev"
  refine w_addL (bnd _ _ (by rw [List.length_append, List.length_map, List.length_map]; show _ + 1 + _ ≤ _; omega)) ?_
  repeat' walk_at "ev"
  refine w_slL ?_
  rw [eA]
  repeat' walk_at "ev"
  refine w_slL ?_
  rw [eM]
  repeat' walk_at "ev"
  refine w_addL (bnd _ _ (by rw [List.length_map, List.length_map]; omega)) ?_
  repeat' walk_at "ev"
  refine w_slL ?_
  rw [eE]
  repeat' walk_at "ev"
  refine w_addL (bnd _ _ (by rw [List.length_append, List.length_map, List.length_map, List.length_map]; omega)) ?_
  repeat' walk_at "ev"
  refine w_slL ?_
  rw [eA]
  repeat' walk_at "ev"
  refine w_slL ?_
  rw [eE]
  repeat' walk_at "ev"
  refine w_revL (.f _) ?_
  repeat' walk_at "ev"
  refine w_addL (bnd _ _ (by rw [List.length_reverse, List.length_map, List.length_map]; omega)) ?_
  repeat' walk_at "ev"
  refine w_addL (by show 5 ≤ sizeLine; decide) ?_
  repeat' walk_at "ev"
  refine w_join ?_
  repeat' walk_at "ev"
  refine ⟨_, rfl, ?_⟩
  repeat' walk_at "ev"
  have h5' := of_decide_eq_false h5
  have h6' := of_decide_eq_false h6
  refine w_ixM (P := PL (3 * z.length + 9)) (fun d hd => ?_) r30 (by show r3 < 5; omega) fun d hd => ?_
  · have app : ∀ {a b : List Str}, (∀ y ∈ a, ∀ c ∈ tl y, c < 128) → (∀ y ∈ b, ∀ c ∈ tl y, c < 128) → ∀ y ∈ a ++ b, ∀ c ∈ tl y, c < 128 := fun {a b} h1 h2 y hy => (List.mem_append.mp hy).elim (h1 y) (h2 y)
    have one : ∀ y ∈ [s], ∀ c ∈ tl y, c < 128 := fun y hy => by rw [List.mem_singleton.mp hy]; exact sa
    have ws1 : wtW [s] = s.length + 1 := by rw [wtW_cons]; rfl
    simp only [List.cons_append, List.nil_append, List.mem_cons, List.not_mem_nil, or_false] at hd
    rcases hd with rfl | rfl | rfl | rfl | rfl
    · exact ⟨A ++ B, by rw [List.map_append], by rw [wtW_app]; omega, app aA aB⟩
    · exact ⟨A ++ [s] ++ E, by rw [List.map_append, List.map_append]; rfl, by rw [wtW_app, wtW_app, ws1]; omega, app (app aA one) aE⟩
    · exact ⟨A ++ [s] ++ B, by rw [List.map_append, List.map_append]; rfl, by rw [wtW_app, wtW_app, ws1]; omega, app (app aA one) aB⟩
    · exact ⟨A ++ M ++ E, by rw [List.map_append, List.map_append], by rw [wtW_app, wtW_app]; omega, app (app aA aM) aE⟩
    · exact ⟨A ++ E.reverse, by rw [List.map_append, List.map_reverse], by rw [wtW_app, wtW_rev]; omega, app aA fun y hy => aE y (List.mem_reverse.mp hy)⟩
  obtain ⟨ys, rfl, hyw, hya⟩ := hd
  have h1 : (ys.map (·.length)).sum + ys.length ≤ wtW ys := by
    clear hyw hya
    induction ys with
    | nil => exact Nat.le_refl _
    | cons a b ih =>
      rw [wtW_cons, List.map_cons, List.sum_cons, List.length_cons]
      omega
  refine ⟨ys, rfl, by rw [show (Str.ofString " ").length = 1 from rfl]; omega, ?_⟩
  have hj := join_le ys
  refine fin_flat0 (C1 := S3 :: X) (C := S :: X) rfl (cl_cons (hS3.closed _) fun c hc => closedC_mono (Nat.zero_le _) c (hX c hc)) rfl rfl (q S3 _ (hS3.mono (by omega)) (by show (Txt.join " " ys).length ≤ _; omega) (asc_join hya))
end

section
open TL
variable {C : Store} {QD : D → Store → Prop} {P : Exn → Store → Prop}
theorem tb_te : errTb.lookup ("NoText" : Str) = some (["NoText", "RingError", "ValueError"] : List Str) := by decide +kernel
theorem w_isOwn {tb : List (Str × List Str)} {t c f : Str} {vs : List D} {as : List Str} (hl : tb.lookup c = some as) (q : QD (.bl (as.contains t)) C) : W (gIsOwn tb t (.exc c f vs) C) QD := by
  refine W.of (a := .bl (as.contains t)) (C := C) ?_ q
  unfold gIsOwn
  simp only [hl]
theorem w_isOwns {tb : List (Str × List Str)} {ts : List Str} {c f : Str} {vs : List D} {as : List Str} (hl : tb.lookup c = some as) (q : QD (.bl (ts.any fun t => as.contains t)) C) : W (gIsOwns tb ts (.exc c f vs) C) QD := by
  refine W.of (a := .bl (ts.any fun t => as.contains t)) (C := C) ?_ q
  unfold gIsOwns
  simp only [hl]
theorem place_ok {d : D} (hd : d = .non ∨ ∃ k : Int, d = .int k) (q : QD d C) : W (m__law_place_of [.exc "NoText" "at" [d]] C) QD := by
  have a1 : (["NoText", "RingError", "ValueError"] : List Str).contains "NoText" = true := by decide +kernel
  have a2 : (["NoText", "RingError", "ValueError"] : List Str).contains "ValueError" = true := by decide +kernel
  have a3 : ((["Forgotten", "NoBorder", "NoDancer", "NoDeed", "NoForm", "NoName", "NoNumber", "NoOrder", "NoStand"] : List Str).any fun t => (["NoText", "RingError", "ValueError"] : List Str).contains t) = false := by decide +kernel
  have a4 : ((["Nothing", "Taken", "TooMany"] : List Str).any fun t => (["NoText", "RingError", "ValueError"] : List Str).contains t) = false := by decide +kernel
  unfold m__law_place_of
  repeat' walk_at "ev"
  refine w_isOwn tb_te ?_
  rw [a1]
  repeat' walk_at "ev"
  refine w_isOwn tb_te ?_
  rw [a2]
  repeat' walk_at "ev"
  refine w_excF tb_te ?_
  rcases hd with rfl | ⟨k, rfl⟩
  · repeat' walk_at "ev"
    refine w_isOwns tb_te ?_
    rw [a3]
    repeat' walk_at "ev"
    refine w_isOwns tb_te ?_
    rw [a4]
    repeat' walk_at "ev"
    refine w_excF tb_te ?_
    exact fin_same rfl rfl q
  · repeat' walk_at "ev"
    refine w_isOwns tb_te ?_
    rw [a3]
    repeat' walk_at "ev"
    refine w_isOwns tb_te ?_
    rw [a4]
    repeat' walk_at "ev"
    refine w_excF tb_te ?_
    exact fin_same rfl rfl q
theorem cutS_to {z : Str} {n : Nat} : (cutS z none (some (n : Int))).length ≤ n := by
  rw [len_tl]
  refine Nat.le_trans (List.length_take_le _ _) ?_
  show HT.sIx _ _ (some (n : Int)) - HT.sIx _ 0 none ≤ n
  rw [HT.sIx_nat, HT.sIx_none]
  omega
theorem asc_joinC {y : Str} (hy : Asc y) {ps : List Str} (h : ∀ p ∈ ps, Asc p) : Asc (Txt.join y ps) := fun c hc => by
  rw [join_eq, tl_join] at hc
  have key : ∀ {qs : List (List Nat)}, c ∈ joinL (tl y) qs → c ∈ tl y ∨ ∃ p ∈ qs, c ∈ p := by
    intro qs
    induction qs with
    | nil => intro h; cases h
    | cons a b ih =>
      intro h
      cases b with
      | nil => exact .inr ⟨a, List.mem_cons_self .., h⟩
      | cons b1 b2 =>
        have h : c ∈ a ++ (tl y ++ joinL (tl y) (b1 :: b2)) := h
        rcases List.mem_append.mp h with h | h
        · exact .inr ⟨a, List.mem_cons_self .., h⟩
        rcases List.mem_append.mp h with h | h
        · exact .inl h
        rcases ih h with h | ⟨p, hp, h⟩
        · exact .inl h
        · exact .inr ⟨p, List.mem_cons_of_mem _ hp, h⟩
  rcases key hc with h2 | ⟨p, hp, h2⟩
  · exact hy c h2
  · obtain ⟨z, hz, rfl⟩ := List.mem_map.mp hp
    exact h z hz c h2
theorem asc_app {a b : Str} (ha : Asc a) (hb : Asc b) : Asc (a ++ b) := fun c hc => by
  rw [tl_append] at hc
  exact (List.mem_append.mp hc).elim (ha c) (hb c)
theorem asc_num (n : Nat) : Asc (numS (n : Int)) := fun c hc => by
  rw [tl_numS] at hc
  have := numL_digits n c hc
  omega
theorem len_app (a b : Str) : (a ++ b).length = a.length + b.length := by rw [len_tl, tl_append, List.length_append, ← len_tl, ← len_tl]
/-- a text of plain signs, of a length at most -/
def TX (n : Nat) (d : D) : Prop := ∃ z : Str, d = .str z ∧ z.length ≤ n ∧ Asc z
end

/-! the law's own reader of stands -/
section
open TL
variable {C : Store} {QD : D → Store → Prop}
theorem w_inTL {neg : Bool} {x : Str} {l : List Str} (q : QD (.bl (if neg then !(l.any fun y => y == x) else l.any fun y => y == x)) C) : W (gIn neg (.str x) (.lst (l.map D.str)) C) QD := by
  refine W.of (a := .bl _) (C := C) ?_ q
  have h1 : (l.map D.str).all flatD = true := by simp [flatD]
  have h2 : inF (.str x) (l.map D.str) = l.any fun y => y == x := by
    unfold inF
    rw [List.any_map]
    rfl
  show (if (flatD (.str x) && (l.map D.str).all flatD) = true then R.ok (D.bl (if neg then !inF (.str x) (l.map D.str) else inF (.str x) (l.map D.str)), C) else .no) = _
  rw [h1, h2]
  rfl
theorem bar_in (ws : List Str) : (ws.any fun y => y == ("|" : Str)) = decide (barAt ws < ws.length) := by
  rw [Bool.eq_iff_iff, List.any_eq_true, decide_eq_true_eq]
  constructor
  · rintro ⟨y, hy, h⟩
    have e : y = "|" := by simpa using h
    subst e
    exact List.idxOf_lt_length_of_mem hy
  · intro h
    exact ⟨_, List.mem_of_getElem? (bar_at h), by simp⟩
theorem bar_mem {ws : List Str} (h : barAt ws < ws.length) : ("|" : Str) ∈ ws := List.mem_of_getElem? (bar_at h)
theorem w_maxLF {l : List Int} (hne : l ≠ []) (q : QD (.int (maxL l)) C) : W (on1 gMaxL [.lst (l.map D.int)] C) QD := by
  cases l with
  | nil => exact absurd rfl hne
  | cons a l =>
    refine W.of (a := .int (maxL (a :: l))) (C := C) ?_ q
    have e : lstOf C (.lst ((a :: l).map D.int)) = some ((a :: l).map D.int) := rfl
    show gMaxL (.lst ((a :: l).map D.int)) C = _
    unfold gMaxL
    rw [e, Option.bind_some, intsOf_map]
theorem well_dig {z : Str} (h : wellB z = true) : digB z = true := by
  unfold wellB at h
  rw [Bool.and_eq_true, Bool.and_eq_true] at h
  exact h.1.2
theorem well_ne {z : Str} (h : wellB z = true) : z ≠ "" := by
  unfold wellB at h
  rw [Bool.and_eq_true, Bool.and_eq_true] at h
  intro e
  have := h.1.1
  rw [decide_eq_true e] at this
  cases this
theorem well_int {z : Str} (hl : z.length ≤ 640) (h : wellB z = true) : PySem.intText? z = some (valN z) :=
  intText_digits (fun c hc => of_decide_eq_true (List.all_eq_true.mp (well_dig h) c hc)) (fun e => well_ne h (ext_tl e)) (Nat.le_trans hl (by decide))
theorem vals_take {ws : List Str} {b : Nat} (hb : b ≤ ws.length) : (ws.take b).map valN = valsS ws b := by
  apply List.ext_getElem?
  intro i
  unfold valsS
  rw [List.getElem?_map, List.getElem?_map]
  rcases Nat.lt_or_ge i b with h | h
  · obtain ⟨w, hw⟩ := get_ex (l := ws) (i := i) (by omega)
    rw [List.getElem?_take_of_lt h, List.getElem?_range h, hw, Option.map_some, Option.map_some, getD_at hw]
  · rw [List.getElem?_eq_none (by rw [List.length_take]; omega), List.getElem?_eq_none (by rw [List.length_range]; omega)]
    rfl
def begB (ws : List Str) : Bool := (firstB (badS ws) ws.length).isNone
theorem beg_no {ws : List Str} {k : Nat} (hk : k < ws.length) (h : badS ws k = true) : begB ws = false := by
  unfold begB
  cases e : firstB (badS ws) ws.length with
  | some j => rfl
  | none =>
    have := firstB_none e k hk
    rw [h] at this
    cases this
theorem beg_yes {ws : List Str} (h : ∀ k, k < ws.length → badS ws k = false) : begB ws = true := by
  unfold begB
  cases e : firstB (badS ws) ws.length with
  | none => rfl
  | some j =>
    obtain ⟨h1, h2, _⟩ := firstB_some e
    rw [h j h1] at h2
    cases h2
theorem begins_ok {ws : List Str} (hw : ∀ w ∈ ws, w.length ≤ 640 ∧ Asc w) (hn : ws.length ≤ 1000) (q : QD (.bl (begB ws)) C) : W (m__law_begins [.lst (ws.map D.str)] C) QD := by
  have hle := bar_le ws
  have hat : ∀ {k : Nat} {w : Str}, ws[k]? = some w → atI (ws.map D.str) (k : Int) = some (.str w) := fun {k w} h => Nv.atI_nat (by rw [List.getElem?_map, h]; rfl)
  have hb1 : ∀ {k : Nat} {w : Str}, ws[k]? = some w → k < barAt ws → badS ws k = !okN w ((k : Int) + 1) := fun {k w} h hk => by
    unfold badS
    rw [if_pos hk, getD_at h]
  have hb2 : badS ws (barAt ws) = (decide ((barAt ws : Int) < 2) || decide (maxL (valsS ws (barAt ws)) > (barAt ws : Int))) := by
    unfold badS
    rw [if_neg (Nat.lt_irrefl _), if_pos rfl]
  have hb3 : ∀ {k : Nat} {w : Str}, ws[k]? = some w → barAt ws < k → badS ws k = (decide (k - barAt ws - 1 = barAt ws) || !okN w 0 || decide (valN w > ((k - barAt ws - 1 : Nat) : Int))) := fun {k w} h hk => by
    unfold badS
    rw [if_neg (by omega), if_neg (by omega), getD_at h]
  unfold m__law_begins
  repeat' walk_at "ev"
  refine w_inTL (l := ws) ?_
  rw [show (if false = true then !(ws.any fun y => y == Str.ofString "|") else ws.any fun y => y == Str.ofString "|") = decide (barAt ws < ws.length) from bar_in ws]
  repeat' walk_at "ev"
  refine ite_cut (fun d C' => d = .int (barAt ws : Nat) ∧ C' = C) (fun h => ?_) (fun h => ?_) fun d C' h => ?_
  · have h := of_decide_eq_true h
    repeat' walk_at "ev"
    refine w_indexS (bar_mem h) ?_
    exact ⟨rfl, rfl⟩
  · have h := of_decide_eq_false h
    repeat' walk_at "ev"
    rw [List.length_map]
    exact ⟨by rw [show ws.length = barAt ws from by omega], rfl⟩
  obtain ⟨rfl, rfl⟩ := h
  repeat' walk_at "ev"
  refine w_forM (fun i sl C1 => (∃ x2, sl = [some (.lst (ws.map D.str)), some (.int (barAt ws : Nat)), x2, none]) ∧ C1 = C' ∧ ∀ k, k < i → badS ws k = false) (fun _ _ _ _ => okG_nil _) ?_ ?_ ⟨⟨_, rfl⟩, rfl, fun k h => by omega⟩
  · intro i d sl C1 hd hi
    obtain ⟨⟨x2, rfl⟩, rfl, hi⟩ := hi
    obtain ⟨hlt, rfl⟩ := rgD_get (n := barAt ws) hd
    obtain ⟨w, hwi⟩ := get_ex (l := ws) (i := i) (by omega)
    obtain ⟨hwl, hwa⟩ := hw w (List.mem_of_getElem? hwi)
    have hb := hb1 hwi hlt
    have ha := hat hwi
    have bad : badS ws i = true → W (fin C1 (.bl false) C1) QD := fun h => by
      refine fin_same rfl rfl ?_
      rw [beg_no (by omega) h] at q
      exact q
    unfold okN at hb
    repeat' walk_at "ev"
    refine figures_ok hwl hwa ?_
    cases g1 : wellB w with
    | false =>
      rw [g1] at hb
      repeat' walk_at "ev"
      exact bad hb
    | true =>
      repeat' walk_at "ev"
      refine w_intT (well_int hwl g1) hwl ?_
      rw [g1] at hb
      repeat' walk_at "ev"
      refine w_ite (fun h => ?_) (fun h => ?_)
      · have h := of_decide_eq_true h
        repeat' walk_at "ev"
        exact bad (by rw [hb, decide_eq_false (show ¬ (i : Int) + 1 ≤ valN w by omega)]; rfl)
      · have h := of_decide_eq_false h
        repeat' walk_at "ev"
        refine ⟨⟨_, rfl⟩, rfl, fun k hk => ?_⟩
        by_cases hk2 : k = i
        · rw [hk2, hb, decide_eq_true (show (i : Int) + 1 ≤ valN w by omega)]
          rfl
        · exact hi k (by omega)
  · intro sl C1 hi
    obtain ⟨⟨x2, rfl⟩, rfl, hi⟩ := hi
    rw [show (rgD 0 (barAt ws : Int)).length = barAt ws from rgD_len _] at hi
    repeat' walk_at "ev"
    rw [List.length_map]
    refine w_ite (fun h => ?_) (fun h => ?_)
    · have h := of_decide_eq_true h
      repeat' walk_at "ev"
      refine fin_same rfl rfl ?_
      rw [beg_yes fun k hk => hi k (by omega)] at q
      exact q
    have h := of_decide_eq_false h
    have hlt : barAt ws < ws.length := by omega
    have bad : ∀ k, k < ws.length → badS ws k = true → W (fin C1 (.bl false) C1) QD := fun k hk h => by
      refine fin_same rfl rfl ?_
      rw [beg_no hk h] at q
      exact q
    repeat' walk_at "ev"
    refine w_ite (fun h2 => ?_) (fun h2 => ?_)
    · repeat' walk_at "ev"
      exact bad _ hlt (by rw [hb2, h2]; rfl)
    have h2' := of_decide_eq_false h2
    repeat' walk_at "ev"
    refine w_slL ?_
    rw [cut_take D.str ws (barAt ws : Int) (by omega), show ((barAt ws : Nat) : Int).toNat = barAt ws from by omega]
    repeat' walk_at "ev"
    refine w_lcA (φ := D.str) (l := ws.take (barAt ws)) (f := fun w => .int (valN w)) (okG_nil _) (fun i w hi2 => ?_) ?_
    · have hib : i < barAt ws := by
        have := (List.getElem?_eq_some_iff.mp hi2).1
        rw [List.length_take] at this
        omega
      rw [List.getElem?_take_of_lt hib] at hi2
      obtain ⟨hwl, hwa⟩ := hw w (List.mem_of_getElem? hi2)
      have hb := hb1 hi2 hib
      rw [hi i hib] at hb
      have g1 : wellB w = true := (ok_well (by simpa using hb.symm)).1
      repeat' walk_at "ev"
      refine w_intT (well_int hwl g1) hwl ?_
      exact ⟨rfl, rfl⟩
    rw [show ((ws.take (barAt ws)).map fun w => D.int (valN w)) = (valsS ws (barAt ws)).map D.int from by rw [← vals_take hle, List.map_map]; rfl]
    repeat' walk_at "ev"
    refine w_maxLF (fun e => by have := valsS_len ws (barAt ws); rw [e] at this; have : 0 = barAt ws := this; omega) ?_
    repeat' walk_at "ev"
    refine w_ite (fun h3 => ?_) (fun h3 => ?_)
    · repeat' walk_at "ev"
      exact bad _ hlt (by rw [hb2, h3, Bool.or_true])
    repeat' walk_at "ev"
    rw [List.length_map]
    refine w_ite (fun h4 => ?_) (fun h4 => ?_)
    · have h4 := of_decide_eq_true h4
      repeat' walk_at "ev"
      obtain ⟨w, hwi⟩ := get_ex (l := ws) (i := 2 * barAt ws + 1) (by omega)
      exact bad (2 * barAt ws + 1) (by omega) (by rw [hb3 hwi (by omega), decide_eq_true (show 2 * barAt ws + 1 - barAt ws - 1 = barAt ws by omega)]; rfl)
    have h4 := of_decide_eq_false h4
    repeat' walk_at "ev"
    refine ⟨_, _, rfl, (Bool.and_eq_true _ _).mpr ⟨low_of (by omega) (by omega), low_of (by omega) (by rw [List.length_map]; omega)⟩, ?_⟩
    rw [List.length_map, show (ws.length : Int) = ((barAt ws : Nat) : Int) + 1 + ((ws.length - barAt ws - 1 : Nat) : Int) from by omega]
    refine w_forM (fun i sl C2 => (∃ x2, sl = [some (.lst (ws.map D.str)), some (.int (barAt ws : Nat)), x2, none]) ∧ C2 = C1 ∧ ∀ k, barAt ws < k → k < barAt ws + 1 + i → badS ws k = false) (fun _ _ _ _ => okG_nil _) ?_ ?_ ⟨⟨_, rfl⟩, rfl, fun k _ h => by omega⟩
    · intro i d sl C2 hd hi2
      obtain ⟨⟨x2, rfl⟩, rfl, hi2⟩ := hi2
      obtain ⟨hlt2, rfl⟩ := rgD_get2 hd
      obtain ⟨w, hwi⟩ := get_ex (l := ws) (i := barAt ws + 1 + i) (by omega)
      obtain ⟨hwl, hwa⟩ := hw w (List.mem_of_getElem? hwi)
      have hb := hb3 hwi (by omega)
      have ha := hat hwi
      rw [show ((barAt ws + 1 + i : Nat) : Int) = ((barAt ws : Nat) : Int) + 1 + (i : Int) from by omega] at ha
      rw [show barAt ws + 1 + i - barAt ws - 1 = i from by omega, decide_eq_false (show ¬ i = barAt ws by omega), Bool.false_or] at hb
      unfold okN at hb
      repeat' walk_at "ev"
      refine figures_ok hwl hwa ?_
      cases g1 : wellB w with
      | false =>
        rw [g1] at hb
        repeat' walk_at "ev"
        exact bad _ (by omega) hb
      | true =>
        rw [g1, decide_eq_true (valN_nn w)] at hb
        repeat' walk_at "ev"
        refine w_intT (well_int hwl g1) hwl ?_
        repeat' walk_at "ev"
        refine w_ite (fun h => ?_) (fun h => ?_)
        · have h := of_decide_eq_true h
          repeat' walk_at "ev"
          exact bad (barAt ws + 1 + i) (by omega) (by rw [hb, decide_eq_true (show valN w > (i : Int) by omega)]; rfl)
        · have h := of_decide_eq_false h
          repeat' walk_at "ev"
          refine ⟨⟨_, rfl⟩, rfl, fun k hk1 hk => ?_⟩
          by_cases hk2 : k = barAt ws + 1 + i
          · rw [hk2, hb, decide_eq_false (show ¬ valN w > (i : Int) by omega)]
            rfl
          · exact hi2 k hk1 (by omega)
    · intro sl C2 hi2
      obtain ⟨⟨x2, rfl⟩, rfl, hi2⟩ := hi2
      rw [rgD_length] at hi2
      repeat' walk_at "ev"
      refine fin_same rfl rfl ?_
      rw [beg_yes fun k hk => by
        rcases Nat.lt_trichotomy k (barAt ws) with r | r | r
        · exact hi k r
        · rw [r, hb2, h2, h3]
          rfl
        · exact hi2 k r (by omega)] at q
      exact q
end

section
open TL
variable {C : Store} {QD : D → Store → Prop}
theorem badS_take {ws : List Str} {m j : Nat} (hm : m ≤ ws.length) (h : j < m) : badS (ws.take m) j = badS ws j :=
  locS _ _ j (by rw [List.length_take]; omega) (by omega) fun i hi => List.getElem?_take_of_lt (by omega)
theorem beg_take {ws : List Str} {i : Nat} (hi : i < ws.length) (h : ∀ j, j < i → badS ws j = false) : begB (ws.take (i + 1)) = !badS ws i := by
  have hl : (ws.take (i + 1)).length = i + 1 := by rw [List.length_take]; omega
  cases hb : badS ws i with
  | true => exact beg_no (k := i) (by omega) (by rw [badS_take (by omega) (by omega), hb])
  | false =>
    refine beg_yes fun k hk => ?_
    rw [hl] at hk
    rw [badS_take (by omega) (by omega)]
    by_cases hk2 : k = i
    · rw [hk2, hb]
    · exact h k (by omega)
theorem firstB_of {bad : Nat → Bool} {n k : Nat} (hk : k < n) (h : bad k = true) (hj : ∀ j, j < k → bad j = false) : firstB bad n = some k :=
  List.find?_range_eq_some.mpr ⟨h, List.mem_range.mpr hk, fun j hlt => by rw [hj j hlt]; rfl⟩
theorem firstB_non {bad : Nat → Bool} {n : Nat} (h : ∀ j, j < n → bad j = false) : firstB bad n = none :=
  List.find?_eq_none.mpr fun j hj => by rw [h j (List.mem_range.mp hj)]; decide
theorem left_drop {ws : List Str} (h : ws.length = 2 * barAt ws + 1) : (ws.drop (barAt ws + 1)).map valN = leftS ws (barAt ws) (barAt ws) := by
  apply List.ext_getElem?
  intro i
  unfold leftS
  rw [List.getElem?_map, List.getElem?_map, List.getElem?_drop]
  rcases Nat.lt_or_ge i (barAt ws) with h1 | h1
  · obtain ⟨w, hw⟩ := get_ex (l := ws) (i := barAt ws + 1 + i) (by omega)
    rw [List.getElem?_range h1, hw, Option.map_some, Option.map_some, getD_at hw]
  · rw [List.getElem?_eq_none (by omega), List.getElem?_eq_none (by rw [List.length_range]; omega)]
    rfl
/-- with nothing bad: each word but the bar is a number -/
theorem well_all {ws : List Str} (hb : ∀ j, j < ws.length → badS ws j = false) {i : Nat} {w : Str} (hw : ws[i]? = some w) (hi : i ≠ barAt ws) : wellB w = true := by
  have h := hb i (List.getElem?_eq_some_iff.mp hw).1
  unfold badS at h
  by_cases h1 : i < barAt ws
  · rw [if_pos h1, getD_at hw] at h
    exact (ok_well (by simpa using h)).1
  · rw [if_neg h1, if_neg hi, getD_at hw, Bool.or_eq_false_iff, Bool.or_eq_false_iff] at h
    exact (ok_well (n := 0) (by simpa using h.1.2)).1
theorem end_no {ws : List Str} (hb : ∀ j, j < ws.length → badS ws j = false) (hlt : barAt ws < ws.length) : ws.length ≤ 2 * barAt ws + 1 := by
  rcases Nat.lt_or_ge (2 * barAt ws + 1) ws.length with h | h
  · have e := hb (2 * barAt ws + 1) h
    unfold badS at e
    rw [if_neg (by omega), if_neg (by omega), decide_eq_true (show 2 * barAt ws + 1 - barAt ws - 1 = barAt ws by omega)] at e
    cases e
  · exact h
theorem due_ok {line : Str} (hl : line.length ≤ 640) (ha : Asc line) (q1 : ∀ rl, resS (cutW line) = .ok rl → QD (.tup [.cell C.length, .cell (C.length + 1)]) (C ++ [.lst (rl.1.map D.int), .lst (rl.2.map D.int)])) (q2 : ∀ k : Nat, resS (cutW line) = .error k → QD (.int (k : Int)) C) : W (m__law_due [.str line] C) QD := by
  obtain ⟨hw6, hn⟩ := words_small hl
  have hne := cutW_ne line
  have hasc : ∀ p ∈ cutW line, Asc p := fun p hp c hc => ha c (cutW_mem hp hc)
  unfold m__law_due
  repeat' walk_at "ev"
  refine w_split (a := line) (b := " ") ?_
  repeat' walk_at "ev"
  refine ⟨rfl, ?_⟩
  repeat' walk_at "ev"
  refine ⟨rfl, by decide +kernel, by omega, ?_⟩
  rw [show Txt.split line (Str.ofString " ") = cutW line from rfl]
  generalize cutW line = ws at hw6 hn hne hasc q1 q2 ⊢
  have hpos : 0 < ws.length := List.length_pos_iff.mpr hne
  have hle := bar_le ws
  unfold resS at q1 q2
  repeat' walk_at "ev"
  refine ⟨_, _, rfl, (Bool.and_eq_true _ _).mpr ⟨low_of (by omega) (by omega), low_of (by omega) (by rw [List.length_map]; omega)⟩, ?_⟩
  rw [List.length_map, show (ws.length : Int) + 1 = 1 + (ws.length : Int) from by omega]
  refine w_forM (fun i sl C1 => (∃ x2, sl = [some (.str line), some (.lst (ws.map D.str)), x2, none, none]) ∧ C1 = C ∧ ∀ j, j < i → badS ws j = false) (fun _ _ _ _ => okG_nil _) ?_ ?_ ⟨⟨_, rfl⟩, rfl, fun j h => by omega⟩
  · intro i d sl C1 hd hi
    obtain ⟨⟨x2, rfl⟩, rfl, hi⟩ := hi
    obtain ⟨hlt, rfl⟩ := rgD_get2 hd
    repeat' walk_at "ev"
    refine w_slL ?_
    rw [cut_take D.str ws (1 + (i : Int)) (by omega), show (1 + (i : Int)).toNat = i + 1 from by omega]
    repeat' walk_at "ev"
    refine begins_ok (fun w hw => ⟨hw6 w (List.mem_of_mem_take hw), hasc w (List.mem_of_mem_take hw)⟩) (by rw [List.length_take]; omega) ?_
    rw [beg_take hlt hi]
    cases hb : badS ws i with
    | true =>
      repeat' walk_at "ev"
      rw [firstB_of hlt hb hi] at q2
      have := q2 i rfl
      refine fin_same rfl rfl ?_
      rw [show (1 : Int) + (i : Int) - 1 = i from by omega]
      exact this
    | false =>
      repeat' walk_at "ev"
      refine ⟨⟨_, rfl⟩, rfl, fun j hj => ?_⟩
      by_cases hk2 : j = i
      · rw [hk2, hb]
      · exact hi j (by omega)
  · intro sl C1 hi
    obtain ⟨⟨x2, rfl⟩, rfl, hi⟩ := hi
    have hb : ∀ j, j < ws.length → badS ws j = false := by
      have e : (rgD 1 (1 + (ws.length : Int))).length = ws.length := by rw [rgD_length]; omega
      rw [e] at hi
      exact hi
    rw [firstB_non hb] at q1 q2
    have noend : finS ws = false → W (fin C1 (.int (ws.length : Int)) C1) QD := fun h => fin_same rfl rfl (q2 ws.length (if_neg (by rw [h]; exact Bool.false_ne_true)))
    repeat' walk_at "ev"
    refine w_inTL (l := ws) ?_
    rw [show (if true = true then !(ws.any fun y => y == Str.ofString "|") else ws.any fun y => y == Str.ofString "|") = !decide (barAt ws < ws.length) from congrArg (!·) (bar_in ws)]
    by_cases hlt : barAt ws < ws.length
    case neg =>
      rw [decide_eq_false hlt]
      repeat' walk_at "ev"
      rw [List.length_map]
      exact noend (decide_eq_false (by omega))
    rw [decide_eq_true hlt]
    repeat' walk_at "ev"
    refine w_indexS (bar_mem hlt) ?_
    rw [show List.idxOf (Str.ofString "|") ws = barAt ws from rfl]
    repeat' walk_at "ev"
    rw [List.length_map]
    refine w_ite (fun h => ?_) (fun h => ?_)
    · have h := of_decide_eq_true h
      repeat' walk_at "ev"
      rw [List.length_map]
      exact noend (decide_eq_false (by omega))
    have h := of_decide_eq_false h
    have hlen : ws.length = 2 * barAt ws + 1 := by
      have := end_no hb hlt
      omega
    have q := q1 _ (if_pos (decide_eq_true hlen))
    repeat' walk_at "ev"
    refine w_indexS (bar_mem hlt) ?_
    rw [show List.idxOf (Str.ofString "|") ws = barAt ws from rfl]
    repeat' walk_at "ev"
    refine w_slL ?_
    rw [cut_take D.str ws (barAt ws : Int) (by omega), show ((barAt ws : Nat) : Int).toNat = barAt ws from by omega]
    repeat' walk_at "ev"
    refine w_lcA (φ := D.str) (l := ws.take (barAt ws)) (f := fun w => .int (valN w)) (okG_nil _) (fun i w hi2 => ?_) ?_
    · have hib : i < barAt ws := by
        have := (List.getElem?_eq_some_iff.mp hi2).1
        rw [List.length_take] at this
        omega
      rw [List.getElem?_take_of_lt hib] at hi2
      have hwl := hw6 w (List.mem_of_getElem? hi2)
      repeat' walk_at "ev"
      refine w_intT (well_int hwl (well_all hb hi2 (by omega))) hwl ?_
      exact ⟨rfl, rfl⟩
    rw [show ((ws.take (barAt ws)).map fun w => D.int (valN w)) = (valsS ws (barAt ws)).map D.int from by rw [← vals_take hle, List.map_map]; rfl]
    repeat' walk_at "ev"
    refine w_slL ?_
    rw [cut_drop D.str ws ((barAt ws : Int) + 1) (by omega), show (((barAt ws : Nat) : Int) + 1).toNat = barAt ws + 1 from by omega]
    repeat' walk_at "ev"
    refine w_lcA (φ := D.str) (l := ws.drop (barAt ws + 1)) (f := fun w => .int (valN w)) (okG_nil _) (fun i w hi2 => ?_) ?_
    · rw [List.getElem?_drop] at hi2
      have hwl := hw6 w (List.mem_of_getElem? hi2)
      repeat' walk_at "ev"
      refine w_intT (well_int hwl (well_all hb hi2 (by omega))) hwl ?_
      exact ⟨rfl, rfl⟩
    rw [show ((ws.drop (barAt ws + 1)).map fun w => D.int (valN w)) = (leftS ws (barAt ws) (barAt ws)).map D.int from by rw [← left_drop hlen, List.map_map]; rfl]
    repeat' walk_at "ev"
    rw [List.append_assoc, List.length_append]
    exact fin_two0 (j := 0) (k := 1) rfl rfl (by decide) (closed_iL _ _) (closed_iL _ _) q
end

section
open TL
variable {C : Store} {QD : D → Store → Prop} {P : Exn → Store → Prop}
theorem asked_ok {line : Str} (hl : line.length ≤ 640) (q1 : ∀ rl, resS (cutW line) = .ok rl → QD (.tup [.cell C.length, .cell (C.length + 1)]) (C ++ [.lst (rl.1.map D.int), .lst (rl.2.map D.int)])) (q2 : ∀ k : Nat, resS (cutW line) = .error k → QD (.int (k : Int)) C) : W (m__law_asked [.str line] C) QD := by
  unfold m__law_asked
  repeat' walk_at "ev"
  cases hr : resS (cutW line) with
  | ok rl =>
    refine w_tryN ?_
    repeat' walk_at "ev"
    refine rs_ok hl hr ?_
    repeat' walk_at "ev"
    exact fin_two0 (j := 0) (k := 1) rfl rfl (by decide) (closed_iL _ _) (closed_iL _ _) (q1 rl hr)
  | error k =>
    refine w_tryX (x_asg (x_F ?_))
    repeat' walk_at "ev"
    refine rs_x hl hr fun Y => ?_
    refine w_hmHot (List.mem_singleton.mpr rfl) (by simp) ?_
    show WS (sAsg (mF 1 m__law_place_of (aCons (mVar 2) aNil)) (gmN 1) [some (.str line), some .non, some (.exc "NoText" "at" [.int (k : Int)])] (C ++ Y)) _
    repeat' walk_at "ev"
    refine place_ok (.inr ⟨_, rfl⟩) ?_
    repeat' walk_at "ev"
    exact fin_closed rfl (q2 k hr)
/-- what is no text -/
def oddT : List D := [.non, .int 5, .lst [], .lst [.str "1 2 | 0 1"], .tup [.lst [.int 1, .int 2], .lst [.int 0, .int 1]], .bl true, .edct]
theorem odd_ty {x : D} (h : x ∈ oddT) : ∃ t, tyC C x = some t ∧ isB t "str" = false := by
  simp only [oddT, List.mem_cons, List.not_mem_nil, or_false] at h
  rcases h with rfl | rfl | rfl | rfl | rfl | rfl | rfl <;> exact ⟨_, rfl, by decide⟩
theorem asked_odd {x : D} (hx : x ∈ oddT) (q : QD .non C) : W (m__law_asked [x] C) QD := by
  obtain ⟨t, ht, hs⟩ := odd_ty (C := C) hx
  have hi : gIsi "str" x C = .ok (.bl false, C) := by unfold gIsi; rw [ht]; show R.ok (D.bl (isB t "str"), C) = _; rw [hs]
  unfold m__law_asked
  repeat' walk_at "ev"
  refine w_tryX (x_asg (x_F ?_))
  repeat' walk_at "ev"
  unfold m_read_stand
  refine x_runn (by walk_at "sr") (x_seq1 (x_asg (x_fz (x_F ?_))))
  repeat' walk_at "ev"
  unfold m_words_in
  refine x_runn (by walk_at "sr") (x_seq1 (x_if ?_))
  repeat' walk_at "ev"
  refine W.of hi ?_
  repeat' walk_at "ev"
  refine x_raise ?_
  repeat' walk_at "ev"
  refine w_hmHot (List.mem_singleton.mpr rfl) (by simp) ?_
  show WS (sAsg (mF 1 m__law_place_of (aCons (mVar 2) aNil)) (gmN 1) [some x, some .non, some (.exc "NoText" "at" [.non])] C) _
  repeat' walk_at "ev"
  refine place_ok (.inl rfl) ?_
  repeat' walk_at "ev"
  exact fin_same rfl rfl q
def signs11 : List Str := ["0", "1", "2", "3", "9", "03", "|", "", "12", "x", "-1", "||", "1|", "00", "5,", "\n"]
theorem signs11_ok : ∀ s ∈ signs11, s.length ≤ 5 ∧ ∀ c ∈ tl s, c < 128 := by
  intro w hw
  simp only [signs11, List.mem_cons, List.not_mem_nil, or_false] at hw
  rcases hw with rfl | rfl | rfl | rfl | rfl | rfl | rfl | rfl | rfl | rfl | rfl | rfl | rfl | rfl | rfl | rfl <;> exact ⟨by decide +kernel, by decide +kernel⟩
def bdT : Nat → Nat
  | 0 => 80
  | 1 => 250
  | 2 => 760
  | _ => 2290
/-- a row of a stand of few dancers is short -/
theorem row_small {l : List Int} (hl : l.length ≤ 9) (h : ∀ x ∈ l, 0 ≤ x ∧ x ≤ 202) : (rowS l).length ≤ 36 ∧ Asc (rowS l) := by
  have h1 : ∀ y ∈ l.map numS, y.length ≤ 3 ∧ Asc y := fun y hy => by
    obtain ⟨x, hx, rfl⟩ := List.mem_map.mp hy
    obtain ⟨n, rfl⟩ := Int.eq_ofNat_of_zero_le (h x hx).1
    have := (h _ hx).2
    exact ⟨numS_len (by decide) (by omega), asc_num n⟩
  have lj := join_len " " (l.map numS)
  have sj := sum_le (k := 3) (l := l.map numS) fun y hy => (h1 y hy).1
  rw [show (" " : Str).length = 1 from rfl] at lj
  rw [List.length_map] at lj sj
  exact ⟨by unfold rowS; omega, asc_joinC (by decide +kernel) fun y hy => (h1 y hy).2⟩
end

section
open TL
variable {C : Store} {QD : D → Store → Prop}
theorem right_ok {S : Cell} {most : Int} (hS : Sk 0 S) (h0 : most = 3 ∨ most = 200) (q : ∀ S', closedC 0 S' = true → QD (.bl true) [S']) : W (m__law_right [.cell 0, .int most] [S]) QD := by
  obtain ⟨mm, hmm, hm2, hm8⟩ : ∃ mm : Int, min most 8 = mm ∧ 2 ≤ mm ∧ mm ≤ 8 := ⟨_, rfl, by omega, by omega⟩
  unfold m__law_right
  repeat' walk_at "ev"
  refine w_join ?_
  repeat' walk_at "ev"
  refine ⟨_, rfl, ?_⟩
  repeat' walk_at "ev"
  refine w_fz2 ?_
  repeat' walk_at "ev"
  rw [hmm]
  refine hands_ok hS (by decide) hm2 (by omega) fun S1 rs ls hS1 v hn => ?_
  refine ⟨_, _, [S1], rfl, rfl, rfl, fun c hc => by rw [List.mem_singleton.mp hc]; exact hS1.closed _, closedDs_ints _ rs, closedDs_ints _ ls, ?_⟩
  repeat' walk_at "ev"
  have t0 := v.top
  have t1 := v.len
  refine rowjoin_ok t0 v.rpos (rowcells t0 v.rpos (w_var rfl ⟨rfl, rfl⟩) (by simp [wipeS])) ?_
  repeat' walk_at "ev"
  refine rowjoin_ok (by omega) v.lpos (rowcells (by omega) v.lpos (w_var rfl ⟨rfl, rfl⟩) (by simp [wipeS])) ?_
  repeat' walk_at "ev"
  obtain ⟨b1, a1⟩ := row_small (l := rs) (by omega) v.rpos
  obtain ⟨b2, a2⟩ := row_small (l := ls) (by omega) v.lpos
  have lj := join_len " | " [rowS rs, rowS ls]
  rw [show (" | " : Str).length = 3 from rfl] at lj
  have lj : (Txt.join " | " [rowS rs, rowS ls]).length ≤ 80 := by
    have e1 : ([rowS rs, rowS ls].map fun p => p.length).sum = (rowS rs).length + ((rowS ls).length + 0) := rfl
    have e2 : ([rowS rs, rowS ls] : List Str).length = 2 := rfl
    omega
  have aj : Asc (Txt.join " | " [rowS rs, rowS ls]) := asc_joinC (by decide +kernel) fun y hy => by
    simp only [List.mem_cons, List.not_mem_nil, or_false] at hy
    rcases hy with rfl | rfl
    · exact a1
    · exact a2
  refine ⟨[rowS rs, rowS ls], rfl, by show (rowS rs).length + ((rowS ls).length + 0) + 2 * 3 ≤ 16777216; omega, ?_⟩
  rw [show Txt.join (Str.ofString " | ") [rowS rs, rowS ls] = Txt.join " | " [rowS rs, rowS ls] from rfl]
  generalize Txt.join " | " [rowS rs, rowS ls] = z at lj aj ⊢
  have hb := hS1.mono (n := 20000) (by omega)
  clear hS1
  repeat' walk_at "ev"
  rw [show ([.str (Str.ofString "0"), .str (Str.ofString "1"), .str (Str.ofString "2"), .str (Str.ofString "3"), .str (Str.ofString "9"), .str (Str.ofString "03"), .str (Str.ofString "|"), .str (Str.ofString ""), .str (Str.ofString "12"), .str (Str.ofString "x"), .str (Str.ofString "-1"), .str (Str.ofString "||"), .str (Str.ofString "1|"), .str (Str.ofString "00"), .str (Str.ofString "5,"), .str (Str.ofString "\n")] : List D) = signs11.map D.str from rfl]
  refine take_ok (by rfl) hb (by decide) (by decide) (by decide) fun r4 S4 r40 r41 hS4 => ?_
  obtain ⟨m, rfl⟩ := Int.eq_ofNat_of_zero_le r40
  have hm : m ≤ 3 := by omega
  repeat' walk_at "ev"
  refine w_forM (fun i sl C => ∃ (S' : Cell) (z : Str) (x4 : Option D), sl = [some (.cell 0), some (.int most), some (.str z), some (.lst (signs11.map D.str)), x4, none, none, none] ∧ C = [S'] ∧ Sk (20001 + 10 * i) S' ∧ z.length ≤ bdT i ∧ Asc z) (fun _ _ _ _ => okG_nil _) ?_ ?_ ⟨S4, z, none, rfl, rfl, hS4, lj, aj⟩
  · intro i d sl C hd hi
    obtain ⟨S', z, x4, rfl, rfl, hS', zl, za⟩ := hi
    have hil : i < m := (rgD_get (n := m) hd).1
    have hb : bdT i ≤ 1000 ∧ 3 * bdT i + 10 ≤ bdT (i + 1) := by
      rcases (show i = 0 ∨ i = 1 ∨ i = 2 by omega) with rfl | rfl | rfl <;> decide
    repeat' walk_at "ev"
    refine w_fzV ?_
    repeat' walk_at "ev"
    refine marred_ok cl_nil hS' (by omega) (by omega) za signs11_ok (by decide) (by decide) fun S5 z' hS5 zl' za' => ?_
    refine ⟨[S5], [], rfl, rfl, ClS.one (hS5.closed 0), rfl, ?_⟩
    repeat' walk_at "ev"
    exact ⟨S5, z', _, rfl, rfl, hS5.mono (by omega), by omega, za'⟩
  · intro sl C hi
    obtain ⟨S5, z, x4, rfl, rfl, hS5, zl, za⟩ := hi
    rw [show (rgD 0 (m : Int)).length = m from rgD_len m] at hS5 zl
    have hb : bdT m ≤ 2290 := by
      rcases (show m = 0 ∨ m = 1 ∨ m = 2 ∨ m = 3 by omega) with rfl | rfl | rfl | rfl <;> decide
    have hc5 := hS5.mono (n := 20100) (by omega)
    have cl5 : ∀ c ∈ [S5], closedC 1 c = true := fun c hc => by rw [List.mem_singleton.mp hc]; exact hc5.closed _
    repeat' walk_at "ev"
    refine w_slStr (by omega) ?_
    have cl : (cutS z none (some 300)).length ≤ 300 := cutS_to (z := z) (n := 300)
    have ca : Asc (cutS z none (some 300)) := fun c hc => za c (cutS_mem hc)
    generalize cutS z none (some 300) = u at cl ca ⊢
    repeat' walk_at "evs"
    refine w_scut (QS' := fun f sl' C' => f = .nx ∧ sl' = [some (.cell 0), some (.int most), some (.str u), some (.lst (signs11.map D.str)), x4, none, none, none] ∧ C' = [S5]) ?_ fun f sl' C' h => ?_
    · cases hr : resS (cutW u) with
      | ok rl =>
        obtain ⟨v2, _⟩ := back_S (line := u) (by omega) hr
        repeat' walk_at "ev"
        refine w_fz2 ?_
        repeat' walk_at "ev"
        refine asked_ok (by omega) (fun rl' he => ?_) fun k he => by rw [hr] at he; cases he
        rw [hr] at he
        cases he
        refine ⟨_, _, [S5], rfl, rfl, rfl, cl5, closedDs_ints _ _, closedDs_ints _ _, ?_⟩
        repeat' walk_at "ev"
        refine w_fz2 ?_
        repeat' walk_at "ev"
        refine due_ok (by omega) ca (fun rl' he => ?_) fun k he => by rw [hr] at he; cases he
        rw [hr] at he
        cases he
        refine ⟨_, _, [S5], rfl, rfl, rfl, cl5, closedDs_ints _ _, closedDs_ints _ _, ?_⟩
        repeat' walk_at "ev"
        refine sameA_ok (Alk.stand (n := 1) v2 (.f _ _) (.f _ _)) ?_
        repeat' walk_at "ev"
        exact ⟨rfl, rfl, rfl⟩
      | error k =>
        repeat' walk_at "ev"
        refine w_fzV0 ?_
        repeat' walk_at "ev"
        refine asked_ok (by omega) (fun es' he => by rw [hr] at he; cases he) fun k' he => ?_
        rw [hr] at he
        cases he
        refine ⟨[], by rw [List.append_nil], rfl, ?_⟩
        repeat' walk_at "ev"
        refine w_fzV0 ?_
        repeat' walk_at "ev"
        refine due_ok (by omega) ca (fun es' he => by rw [hr] at he; cases he) fun k' he => ?_
        rw [hr] at he
        cases he
        refine ⟨[], by rw [List.append_nil], rfl, ?_⟩
        repeat' walk_at "ev"
        refine sameA_ok (.int _ _) ?_
        repeat' walk_at "ev"
        exact ⟨rfl, rfl, rfl⟩
    obtain ⟨rfl, rfl, rfl⟩ := h
    repeat' walk_at "ev"
    refine w_demp ?_
    repeat' walk_at "ev"
    refine take_ok (by rfl) hc5 (by decide) (by decide) (by decide) fun r6 S6 r60 r61 hS6 => ?_
    rw [show ([.non, .int 5, .lst [], .lst [.str (Str.ofString "1 2 | 0 1")], .tup [.lst [.int 1, .int 2], .lst [.int 0, .int 1]], .bl true, .edct] : List D) = oddT from rfl]
    refine w_ixM (P := fun d => d ∈ oddT) (fun d hd => hd) r60 (by show r6 < 7; omega) fun d hd => ?_
    repeat' walk_at "ev"
    refine w_fzV0 ?_
    repeat' walk_at "ev"
    refine asked_odd hd ?_
    refine ⟨[], by rw [List.append_nil], rfl, ?_⟩
    repeat' walk_at "ev"
    exact fin_flat (C1 := [S6]) (X := []) (C := [S]) rfl (fun c hc => by rw [List.mem_singleton.mp hc]; exact hS6.closed _) rfl rfl (q _ (hS6.closed 0))
end

theorem sack_ok {cell k : Int} {C : Store} {QD : D → Store → Prop} (h0 : 0 ≤ k) (h1 : k ≤ 100) (q : ∀ S, Sk 0 S → QD (.cell C.length) (C ++ [S])) : W (m__law_sack [.int cell, .int k] C) QD := by
  unfold m__law_sack
  have g0 := Int.emod_nonneg cell (b := 10 ^ Int.toNat 41 + 109) (by decide)
  have g1 := Int.emod_lt_of_pos cell (b := 10 ^ Int.toNat 41 + 109) (by decide)
  repeat' walk_at "ev"
  generalize cell % (10 ^ Int.toNat 41 + 109) = G at g0 g1 ⊢
  rw [show Int.toNat 41 = 41 from rfl] at g1
  exact W.of (fin_cell0 rfl) (q _ ⟨_, _, _, rfl, by omega, by omega, by omega, by decide, by decide⟩)
theorem law_ok {ns : List Int} (hl : ns.length ≤ 63) : W (m_law [.lst (ns.map D.int)] []) fun d _ => d = .bl true := by
  unfold m_law
  repeat' walk_at "ev"
  refine w_addL (by simp [sizeLine]; omega) ?_
  rw [show ns.map D.int ++ [D.int 0] = (ns ++ [0]).map D.int from by simp]
  repeat' walk_at "ev"
  refine w_slL ?_
  obtain ⟨l', e, hl', _⟩ := cut_ints (ns ++ [0]) none (some (max 1 (min ((ns.map D.int).length : Int) 24)))
  rw [e]
  have hl2 : l'.length ≤ 64 := by
    have : (ns ++ [0]).length = ns.length + 1 := by simp
    omega
  repeat' walk_at "ev"
  refine w_forM (fun i sl C => ∃ x1 x2, sl = [some (.lst (ns.map D.int)), x1, x2] ∧ C = []) (fun _ _ _ _ => okG_nil _) ?_ ?_ ⟨_, _, rfl, rfl⟩
  · intro i d sl C hd hi
    obtain ⟨x1, x2, rfl, rfl⟩ := hi
    obtain ⟨a, rfl, ha⟩ := enumGet hd
    have hi := (List.getElem?_eq_some_iff.mp ha).1
    rw [List.getElem?_map, Option.map_eq_some_iff] at ha
    obtain ⟨z, _, rfl⟩ := ha
    have hi : i < l'.length := by simpa using hi
    repeat' walk_at "ev"
    refine w_fzF ?_
    repeat' walk_at "ev"
    refine sack_ok (by omega) (by omega) fun S hS => ?_
    repeat' walk_at "ev"
    refine w_eqLI (m := []) ?_
    refine bl_b ?_
    refine w_ifC fun z hz => ?_
    obtain ⟨most, rfl, hm⟩ : ∃ most : Int, z = .int most ∧ (most = 3 ∨ most = 200) := by
      rcases hz with ⟨_, rfl⟩ | ⟨_, rfl⟩
      · exact ⟨3, rfl, .inl rfl⟩
      · exact ⟨200, rfl, .inr rfl⟩
    repeat' walk_at "ev"
    refine right_ok hS hm fun S' hc => ?_
    refine ⟨by simp, ClS.one hc, rfl, rfl, ?_⟩
    repeat' walk_at "ev"
    refine gc_niln rfl ?_ ⟨_, _, rfl, rfl⟩
    show (closedDs 0 (ns.map D.int) && true) = true
    rw [closedDs_ints]
    rfl
  · intro sl C hi
    obtain ⟨x1, x2, rfl, rfl⟩ := hi
    repeat' walk_at "ev"
    exact fin_same rfl rfl rfl

end Tk
open PySem PySem.W PyProof.Rows
set_option maxHeartbeats 0 in
theorem PySem.Challenge.cw_takeback_k11_texts_of_no_stand_holds : PySem.Challenge.rw_takeback_k11_texts_of_no_stand.Holds := by
  w_on; o_law; k_head; (case hw => w_witness2)
  k_fill
  refine Nv.walkG (l := PySem.Challenge.rw_takeback_k11_texts_of_no_stand) (n := 63) (k := 7) (x := "_law_script") (mf := Tk.m_law) rfl (by decide) rfl ⟨rfl, by decide, by decide⟩ (fun w h Y => PySem.W.kIn_of Y) ?hfun (fun ns hl => ?hlaw)
  case hlaw =>
    obtain ⟨d, C, e, hd⟩ := Tk.law_ok hl
    exact ⟨C, hd ▸ e⟩
  case hfun =>
    intro w mg fa h KX G hmg
    refine' Tk.all_mk KX G hmg (Tk.blts_of KX G ?qz0 ?qz1 ?qz2 ?qz3 ?qz4 ?qz5 ?qz6 ?qz7 ?qz8 ?qz9 ?qz10 ?qz11 ?qz12) ⟨(Tk.gc_BAR KX G ?qg0), (Tk.gc_FIGURES KX G ?qg1)⟩ (Tk.at__law_take KX G ?qa0 ?ql0 ?qc0 ?qk0) (Tk.at__law_marred KX G ?qa1 ?ql1 ?qc1 ?qk1) (Tk.at__law_same KX G ?qa2 ?ql2 ?qc2 ?qk2) (Tk.at_words_in KX G ?qa3 ?ql3 ?qc3 ?qk3) (Tk.at_number_in KX G ?qa4 ?ql4 ?qc4 ?qk4) (Tk.at_rights_in KX G ?qa5 ?ql5 ?qc5 ?qk5) (Tk.at_read_stand KX G ?qa6 ?ql6 ?qc6 ?qk6) (Tk.at__law_place_of KX G ?qa7 ?ql7 ?qc7 ?qk7) (Tk.at__law_asked KX G ?qa8 ?ql8 ?qc8 ?qk8) (Tk.at__law_figures KX G ?qa9 ?ql9 ?qc9 ?qk9) (Tk.at__law_begins KX G ?qa10 ?ql10 ?qc10 ?qk10) (Tk.at__law_due KX G ?qa11 ?ql11 ?qc11 ?qk11) (Tk.at__law_deed_done KX G ?qa12 ?ql12 ?qc12 ?qk12) (Tk.at__law_hands KX G ?qa13 ?ql13 ?qc13 ?qk13) (Tk.at__law_right KX G ?qa14 ?ql14 ?qc14 ?qk14) (Tk.at__law_sack KX G ?qa15 ?ql15 ?qc15 ?qk15) (Tk.err_NoText KX G ?eNoTextaC ?eNoTextaR ?eNoTextaS ?eNoTextlC ?eNoTextsa ?eNoTextga ?eNoTextgg ?eNoTextnf ?eNoTexteC ?eNoTexttC ?eNoTextkC ?eNoTexthC ?eNoTextiC ?eNoTexttI ?eNoTextxa ?eNoTextxn ?eNoTextxt ?eNoTextxm ?eNoTextrd ?eNoTextrg ?eNoTextri ?eNoTexts1 ?eNoTexts2 ?eNoTexts3 ?eNoTexts4 ?eNoTexttv ?eNoTextl ?eNoTextc ?eNoTextk) (Tk.fa_o_NoText KX G ?fo_NoTextaC0 ?fo_NoTexth2 ?fo_NoTexth3) (Tk.fa_o_E KX G ?fo_EaC0 ?fo_Ega0 ?fo_Egg0 ?fo_EeC0 ?fo_EhC0 ?fo_Exa0 ?fo_Exn0 ?fo_Ext0 ?fo_Exm0) (Tk.fa_o_ValueError KX G ?fo_ValueErroraC0 ?fo_ValueErrorzv ?fo_ValueErrortv0) (Tk.fa_n_at KX G ?fn_ataC0 ?fn_atnf0) (Tk.fa_o_Forgotten KX G ?fo_ForgottenaC0 ?fo_ForgottenaT ?fo_Forgottenh2 ?fo_Forgottenh3 ?fo_Forgottenne0 ?fo_Forgottenh40) (Tk.fa_o_NoBorder KX G ?fo_NoBorderaC0 ?fo_NoBorderaT ?fo_NoBorderh2 ?fo_NoBorderh3 ?fo_NoBorderne0 ?fo_NoBorderh40) (Tk.fa_o_NoDancer KX G ?fo_NoDanceraC0 ?fo_NoDanceraT ?fo_NoDancerh2 ?fo_NoDancerh3 ?fo_NoDancerne0 ?fo_NoDancerh40) (Tk.fa_o_NoDeed KX G ?fo_NoDeedaC0 ?fo_NoDeedaT ?fo_NoDeedh2 ?fo_NoDeedh3 ?fo_NoDeedne0 ?fo_NoDeedh40) (Tk.fa_o_NoForm KX G ?fo_NoFormaC0 ?fo_NoFormaT ?fo_NoFormh2 ?fo_NoFormh3 ?fo_NoFormne0 ?fo_NoFormh40) (Tk.fa_o_NoName KX G ?fo_NoNameaC0 ?fo_NoNameaT ?fo_NoNameh2 ?fo_NoNameh3 ?fo_NoNamene0 ?fo_NoNameh40) (Tk.fa_o_NoNumber KX G ?fo_NoNumberaC0 ?fo_NoNumberaT ?fo_NoNumberh2 ?fo_NoNumberh3 ?fo_NoNumberne0 ?fo_NoNumberh40) (Tk.fa_o_NoOrder KX G ?fo_NoOrderaC0 ?fo_NoOrderaT ?fo_NoOrderh2 ?fo_NoOrderh3 ?fo_NoOrderne0 ?fo_NoOrderh40) (Tk.fa_o_NoStand KX G ?fo_NoStandaC0 ?fo_NoStandaT ?fo_NoStandh2 ?fo_NoStandh3 ?fo_NoStandne0 ?fo_NoStandh40) (Tk.fa_o_Nothing KX G ?fo_NothingaC0 ?fo_NothingaT ?fo_Nothingh2 ?fo_Nothingh3 ?fo_Nothingne0 ?fo_Nothingh40) (Tk.fa_o_Taken KX G ?fo_TakenaC0 ?fo_TakenaT ?fo_Takenh2 ?fo_Takenh3 ?fo_Takenne0 ?fo_Takenh40) (Tk.fa_o_TooMany KX G ?fo_TooManyaC0 ?fo_TooManyaT ?fo_TooManyh2 ?fo_TooManyh3 ?fo_TooManyne0 ?fo_TooManyh40) (Tk.fa_kp_RingError KX G ?fkp_RingErroraC0 ?fkp_RingErroraR ?fkp_RingErrors1 ?fkp_RingErrors2 ?fkp_RingErrors3 ?fkp_RingErrors40) ?qa ?ql ?qc ?qk
    (case qz0 => k_is)
    (case qz1 => k_is)
    (case qz2 => k_is)
    (case qz3 => k_is)
    (case qz4 => k_is)
    (case qz5 => k_is)
    (case qz6 => k_is)
    (case qz7 => k_is)
    (case qz8 => k_is)
    (case qz9 => k_is)
    (case qz10 => k_is)
    (case qz11 => k_is)
    (case qz12 => k_is)
    (case qg0 => k_is)
    (case qg1 => k_is)
    (case qa0 => k_is)
    (case ql0 => k_is)
    (case qc0 => k_is)
    (case qk0 => k_is)
    (case qa1 => k_is)
    (case ql1 => k_is)
    (case qc1 => k_is)
    (case qk1 => k_is)
    (case qa2 => k_is)
    (case ql2 => k_is)
    (case qc2 => k_is)
    (case qk2 => k_is)
    (case qa3 => k_is)
    (case ql3 => k_is)
    (case qc3 => k_is)
    (case qk3 => k_is)
    (case qa4 => k_is)
    (case ql4 => k_is)
    (case qc4 => k_is)
    (case qk4 => k_is)
    (case qa5 => k_is)
    (case ql5 => k_is)
    (case qc5 => k_is)
    (case qk5 => k_is)
    (case qa6 => k_is)
    (case ql6 => k_is)
    (case qc6 => k_is)
    (case qk6 => k_is)
    (case qa7 => k_is)
    (case ql7 => k_is)
    (case qc7 => k_is)
    (case qk7 => k_is)
    (case qa8 => k_is)
    (case ql8 => k_is)
    (case qc8 => k_is)
    (case qk8 => k_is)
    (case qa9 => k_is)
    (case ql9 => k_is)
    (case qc9 => k_is)
    (case qk9 => k_is)
    (case qa10 => k_is)
    (case ql10 => k_is)
    (case qc10 => k_is)
    (case qk10 => k_is)
    (case qa11 => k_is)
    (case ql11 => k_is)
    (case qc11 => k_is)
    (case qk11 => k_is)
    (case qa12 => k_is)
    (case ql12 => k_is)
    (case qc12 => k_is)
    (case qk12 => k_is)
    (case qa13 => k_is)
    (case ql13 => k_is)
    (case qc13 => k_is)
    (case qk13 => k_is)
    (case qa14 => k_is)
    (case ql14 => k_is)
    (case qc14 => k_is)
    (case qk14 => k_is)
    (case qa15 => k_is)
    (case ql15 => k_is)
    (case qc15 => k_is)
    (case qk15 => k_is)
    (case eNoTextaC => k_is)
    (case eNoTextaR => k_is)
    (case eNoTextaS => k_is)
    (case eNoTextlC => k_is)
    (case eNoTextsa => k_is)
    (case eNoTextga => k_is)
    (case eNoTextgg => k_is)
    (case eNoTextnf => k_is)
    (case eNoTexteC => k_is)
    (case eNoTexttC => k_is)
    (case eNoTextkC => k_is)
    (case eNoTexthC => k_is)
    (case eNoTextiC => k_is)
    (case eNoTexttI => k_is)
    (case eNoTextxa => k_is)
    (case eNoTextxn => k_is)
    (case eNoTextxt => k_is)
    (case eNoTextxm => k_is)
    (case eNoTextrd => k_is)
    (case eNoTextrg => k_is)
    (case eNoTextri => k_is)
    (case eNoTexts1 => k_is)
    (case eNoTexts2 => k_is)
    (case eNoTexts3 => k_is)
    (case eNoTexts4 => k_is)
    (case eNoTexttv => k_is)
    (case eNoTextl => k_is)
    (case eNoTextc => k_is)
    (case eNoTextk => k_is)
    (case fo_NoTextaC0 => k_is)
    (case fo_NoTexth2 => k_is)
    (case fo_NoTexth3 => k_is)
    (case fo_EaC0 => k_is)
    (case fo_Ega0 => k_is)
    (case fo_Egg0 => k_is)
    (case fo_EeC0 => k_is)
    (case fo_EhC0 => k_is)
    (case fo_Exa0 => k_is)
    (case fo_Exn0 => k_is)
    (case fo_Ext0 => k_is)
    (case fo_Exm0 => k_is)
    (case fo_ValueErroraC0 => k_is)
    (case fo_ValueErrorzv => k_is)
    (case fo_ValueErrortv0 => k_is)
    (case fn_ataC0 => k_is)
    (case fn_atnf0 => k_is)
    (case fo_ForgottenaC0 => k_is)
    (case fo_ForgottenaT => k_is)
    (case fo_Forgottenh2 => k_is)
    (case fo_Forgottenh3 => k_is)
    (case fo_Forgottenne0 => decide)
    (case fo_Forgottenh40 => k_is)
    (case fo_NoBorderaC0 => k_is)
    (case fo_NoBorderaT => k_is)
    (case fo_NoBorderh2 => k_is)
    (case fo_NoBorderh3 => k_is)
    (case fo_NoBorderne0 => decide)
    (case fo_NoBorderh40 => k_is)
    (case fo_NoDanceraC0 => k_is)
    (case fo_NoDanceraT => k_is)
    (case fo_NoDancerh2 => k_is)
    (case fo_NoDancerh3 => k_is)
    (case fo_NoDancerne0 => decide)
    (case fo_NoDancerh40 => k_is)
    (case fo_NoDeedaC0 => k_is)
    (case fo_NoDeedaT => k_is)
    (case fo_NoDeedh2 => k_is)
    (case fo_NoDeedh3 => k_is)
    (case fo_NoDeedne0 => decide)
    (case fo_NoDeedh40 => k_is)
    (case fo_NoFormaC0 => k_is)
    (case fo_NoFormaT => k_is)
    (case fo_NoFormh2 => k_is)
    (case fo_NoFormh3 => k_is)
    (case fo_NoFormne0 => decide)
    (case fo_NoFormh40 => k_is)
    (case fo_NoNameaC0 => k_is)
    (case fo_NoNameaT => k_is)
    (case fo_NoNameh2 => k_is)
    (case fo_NoNameh3 => k_is)
    (case fo_NoNamene0 => decide)
    (case fo_NoNameh40 => k_is)
    (case fo_NoNumberaC0 => k_is)
    (case fo_NoNumberaT => k_is)
    (case fo_NoNumberh2 => k_is)
    (case fo_NoNumberh3 => k_is)
    (case fo_NoNumberne0 => decide)
    (case fo_NoNumberh40 => k_is)
    (case fo_NoOrderaC0 => k_is)
    (case fo_NoOrderaT => k_is)
    (case fo_NoOrderh2 => k_is)
    (case fo_NoOrderh3 => k_is)
    (case fo_NoOrderne0 => decide)
    (case fo_NoOrderh40 => k_is)
    (case fo_NoStandaC0 => k_is)
    (case fo_NoStandaT => k_is)
    (case fo_NoStandh2 => k_is)
    (case fo_NoStandh3 => k_is)
    (case fo_NoStandne0 => decide)
    (case fo_NoStandh40 => k_is)
    (case fo_NothingaC0 => k_is)
    (case fo_NothingaT => k_is)
    (case fo_Nothingh2 => k_is)
    (case fo_Nothingh3 => k_is)
    (case fo_Nothingne0 => decide)
    (case fo_Nothingh40 => k_is)
    (case fo_TakenaC0 => k_is)
    (case fo_TakenaT => k_is)
    (case fo_Takenh2 => k_is)
    (case fo_Takenh3 => k_is)
    (case fo_Takenne0 => decide)
    (case fo_Takenh40 => k_is)
    (case fo_TooManyaC0 => k_is)
    (case fo_TooManyaT => k_is)
    (case fo_TooManyh2 => k_is)
    (case fo_TooManyh3 => k_is)
    (case fo_TooManyne0 => decide)
    (case fo_TooManyh40 => k_is)
    (case fkp_RingErroraC0 => k_is)
    (case fkp_RingErroraR => k_is)
    (case fkp_RingErrors1 => k_is)
    (case fkp_RingErrors2 => k_is)
    (case fkp_RingErrors3 => k_is)
    (case fkp_RingErrors40 => k_is)
    (case qa => k_is)
    (case ql => k_is)
    (case qc => k_is)
    (case qk => k_is)
