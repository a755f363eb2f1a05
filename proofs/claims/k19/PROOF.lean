import PyProof.Rows.All
import Wide.All
import OpenK.AllK
import Wide.FinOn
import HandS.ForMost
import KE.KDictKeyed
import KE.KeyNested
import HandS.TupSets
import KE.KDictCopyH
import HandS.SetTxtIn
import PyProof.StrWalks
import HandS.More
import HandS.TupAny
import HandS.Deep
import HandS.ExcValue
import HandS.Walk
import HandS.Zip
import KE.GoesNew
import HandS.IsInst
import HandS.Conv
import HandS.Codes
import HandS.Style
import HandS.Wide
import KE.KDictZip
import KE.GoesMore
import PyProof.ListStr
import PyProof.DictUpdate
import PySem.Challenge.RW_passrules_k19_whole_single_rules
set_option Elab.async false
set_option linter.all false
set_option maxRecDepth 100000
set_option maxHeartbeats 4000000
/-! PxA: immutable data (None, ints, texts, tuples, nested) over the layer HandS; what a piece of code may change (Kp); dicts with such data as keys. -/
namespace Px
open PySem PySem.Spec PyProof.Rows L2

/-! ### data -/
mutual
/-- the value is this piece of immutable data -/
inductive Dk (K : PySem.W.Frag) (H : Hp) : V → NestedKey → Prop
  | non : Dk K H .non .none
  | num (i : Int) : Dk K H (.int i) (.num i)
  | txt (x : Str) : Dk K H (.str x) (.text x)
  | tup {a : Addr} {xs : List V} {ks : List NestedKey} : SqT K H a xs → DkA K H xs ks → Dk K H (.ref a) (.tup ks)
inductive DkA (K : PySem.W.Frag) (H : Hp) : List V → List NestedKey → Prop
  | nil : DkA K H [] []
  | cons {v : V} {k : NestedKey} {vs : List V} {ks : List NestedKey} : Dk K H v k → DkA K H vs ks → DkA K H (v :: vs) (k :: ks)
end

/-- what never changes here: tuples, frozen things, dicts with flat keys (once handed on) -/
def Fx : HO → Bool
  | .tup _ => true
  | .frz _ _ => true
  | .dK _ => true
  | _ => false
/-- what was tracked is as it was, but for the addresses in L; what never changes stands anyway -/
structure Kp (L : List Addr) (H H' : Hp) : Prop where
  keep : ∀ a o, a ∉ L → H a = some o → H' a = some o
  fix : ∀ a o, Fx o = true → H a = some o → H' a = some o

section
variable {K : PySem.W.Frag} {H H' H1 H2 : Hp} {L L' : List Addr} {a p : Addr} {o : HO}
theorem Kp.refl : Kp L H H := ⟨fun _ _ _ e => e, fun _ _ _ e => e⟩
theorem Kp.trans (x : Kp L H H1) (y : Kp L H1 H2) : Kp L H H2 := ⟨fun b u n e => y.keep b u n (x.keep b u n e), fun b u f e => y.fix b u f (x.fix b u f e)⟩
theorem Kp.mono (x : Kp L H H1) (s : ∀ b ∈ L, b ∈ L') : Kp L' H H1 := ⟨fun b u n e => x.keep b u (fun m => n (s b m)) e, x.fix⟩
theorem Kp.up (x : Kp [] H H1) : Kp L H H1 := x.mono fun _ m => nomatch m
theorem Kp.tups (x : Kp L H H1) {xs : List V} (h : Rd H a (.tup xs)) : Rd H1 a (.tup xs) := h.elim (fun r => .inl (x.fix a _ rfl r)) fun ⟨ob, r⟩ => .inr ⟨ob, x.fix a _ rfl r⟩
theorem Kp.sqt (x : Kp L H H1) {xs : List V} (h : SqT K H a xs) : SqT K H1 a xs := h.elim (fun r => .inl (x.tups r)) .inr
theorem Kp.sql (x : Kp [] H H1) {xs : List V} (h : SqL K H a xs) : SqL K H1 a xs := by
  rcases h with (h | ⟨ob, h⟩) | h
  · exact .inl (.inl (x.keep _ _ (fun m => nomatch m) h))
  · exact .inl (.inr ⟨ob, x.keep _ _ (fun m => nomatch m) h⟩)
  · exact .inr h
theorem Kp.at0 (x : Kp [] H H1) (e : H a = some o) : H1 a = some o := x.keep a o (fun m => nomatch m) e
theorem Kp.at (x : Kp L H H1) (n : a ∉ L) (e : H a = some o) : H1 a = some o := x.keep a o n e
/-- a new object -/
theorem Kp.new (n : H p = none) : Kp L H (upd H p o) := by
  refine ⟨fun b u _ e => ?_, fun b u _ e => ?_⟩ <;> (rw [upd_ne (ne_of_none e n)]; exact e)
/-- an object of L is changed -/
theorem Kp.put {u : HO} (m : a ∈ L) (e : H a = some u) (nf : Fx u = false) : Kp L H (upd H a o) := by
  refine ⟨fun b v n q => ?_, fun b v f q => ?_⟩
  · rw [upd_ne (fun z => n (by rw [z]; exact m))]; exact q
  · rw [upd_ne (fun z => by rw [z, e] at q; cases q; rw [nf] at f; cases f)]; exact q
/-- what is fresh behind was fresh ahead -/
theorem Kp.free (x : Kp L H H1) (n : a ∉ L) (e : H1 a = none) : H a = none := by
  cases q : H a with
  | none => rfl
  | some u => rw [x.keep a u n q] at e; cases e
theorem Kp.free0 (x : Kp [] H H1) (e : H1 a = none) : H a = none := x.free (fun m => nomatch m) e

mutual
theorem Dk.mono (t : ∀ a xs, SqT K H a xs → SqT K H' a xs) : ∀ (k : NestedKey) (v : V), Dk K H v k → Dk K H' v k
  | .none, _, h => by cases h; exact .non
  | .num i, _, h => by cases h; exact .num i
  | .text x, _, h => by cases h; exact .txt x
  | .tup ks, _, h => by
    cases h with
    | tup h1 h2 => exact .tup (t _ _ h1) (DkA.mono t ks _ h2)
theorem DkA.mono (t : ∀ a xs, SqT K H a xs → SqT K H' a xs) : ∀ (ks : List NestedKey) (vs : List V), DkA K H vs ks → DkA K H' vs ks
  | [], _, h => by cases h; exact .nil
  | k :: ks, _, h => by
    cases h with
    | cons h1 h2 => exact .cons (Dk.mono t k _ h1) (DkA.mono t ks _ h2)
end
theorem Dk.kp {k : NestedKey} {v : V} (d : Dk K H v k) (x : Kp L H H1) : Dk K H1 v k := Dk.mono (fun _ _ r => x.sqt r) k v d
theorem DkA.kp {ks : List NestedKey} {vs : List V} (d : DkA K H vs ks) (x : Kp L H H1) : DkA K H1 vs ks := DkA.mono (fun _ _ r => x.sqt r) ks vs d
theorem DkA.length : ∀ {ks : List NestedKey} {vs : List V}, DkA K H vs ks → vs.length = ks.length
  | [], _, h => by cases h; rfl
  | _ :: ks, _, h => by
    cases h with
    | cons _ r => rw [List.length_cons, List.length_cons, DkA.length r]
theorem DkA.get : ∀ {ks : List NestedKey} {vs : List V} {i : Nat} {v : V}, DkA K H vs ks → vs[i]? = some v → ∃ k, ks[i]? = some k ∧ Dk K H v k
  | [], _, _, _, h, e => by cases h; simp at e
  | k :: ks, _, 0, _, h, e => by
    cases h with
    | cons h1 _ => simp at e; subst e; exact ⟨k, rfl, h1⟩
  | k :: ks, _, i + 1, _, h, e => by
    cases h with
    | cons _ h2 =>
      obtain ⟨k', q, d⟩ := DkA.get (i := i) h2 (by simpa using e)
      exact ⟨k', by simpa using q, d⟩
theorem DkA.getK : ∀ {ks : List NestedKey} {vs : List V} {i : Nat} {k : NestedKey}, DkA K H vs ks → ks[i]? = some k → ∃ v, vs[i]? = some v ∧ Dk K H v k
  | [], _, _, _, _, e => by simp at e
  | k :: ks, _, 0, _, h, e => by
    cases h with
    | cons h1 _ => simp at e; subst e; exact ⟨_, rfl, h1⟩
  | k :: ks, _, i + 1, _, h, e => by
    cases h with
    | cons _ h2 =>
      obtain ⟨v', q, d⟩ := DkA.getK (i := i) h2 (by simpa using e)
      exact ⟨v', by simpa using q, d⟩
theorem DkA.append : ∀ {ks ks' : List NestedKey} {vs vs' : List V}, DkA K H vs ks → DkA K H vs' ks' → DkA K H (vs ++ vs') (ks ++ ks')
  | [], _, _, _, h, h' => by cases h; exact h'
  | _ :: _, _, _, _, h, h' => by
    cases h with
    | cons h1 h2 => exact .cons h1 (DkA.append h2 h')
theorem DkA.one {v : V} {k : NestedKey} (h : Dk K H v k) : DkA K H [v] [k] := .cons h .nil
theorem DkA.snoc {ks : List NestedKey} {vs : List V} {v : V} {k : NestedKey} (h : DkA K H vs ks) (h' : Dk K H v k) : DkA K H (vs ++ [v]) (ks ++ [k]) := h.append (.one h')
theorem DkA.drop : ∀ {ks : List NestedKey} {vs : List V} (n : Nat), DkA K H vs ks → DkA K H (vs.drop n) (ks.drop n)
  | _, _, 0, h => h
  | [], _, n + 1, h => by cases h; exact .nil
  | _ :: _, _, n + 1, h => by
    cases h with
    | cons _ h2 => exact DkA.drop n h2
theorem DkA.take : ∀ {ks : List NestedKey} {vs : List V} (n : Nat), DkA K H vs ks → DkA K H (vs.take n) (ks.take n)
  | _, _, 0, _ => .nil
  | [], _, n + 1, h => by cases h; exact .nil
  | _ :: _, _, n + 1, h => by
    cases h with
    | cons h1 h2 => exact .cons h1 (DkA.take n h2)
/-- texts are their own data -/
theorem DkA.texts : ∀ (xs : List Str), DkA K H (xs.map V.str) (xs.map NestedKey.text)
  | [] => .nil
  | x :: xs => .cons (.txt x) (DkA.texts xs)
theorem Dk.tupI {ks : List NestedKey} {v : V} (d : Dk K H v (.tup ks)) : ∃ a xs, v = .ref a ∧ SqT K H a xs ∧ DkA K H xs ks := by
  cases d with
  | tup h1 h2 => exact ⟨_, _, rfl, h1, h2⟩
theorem Dk.numI {i : Int} {v : V} (d : Dk K H v (.num i)) : v = .int i := by cases d; rfl
theorem Dk.txtI {x : Str} {v : V} (d : Dk K H v (.text x)) : v = .str x := by cases d; rfl
theorem Dk.nonI {v : V} (d : Dk K H v .none) : v = .non := by cases d; rfl
theorem DkA.nilI {vs : List V} (d : DkA K H vs []) : vs = [] := by cases d; rfl
theorem DkA.consI {vs : List V} {k : NestedKey} {ks : List NestedKey} (d : DkA K H vs (k :: ks)) : ∃ v r, vs = v :: r ∧ Dk K H v k ∧ DkA K H r ks := by
  cases d with
  | cons h1 h2 => exact ⟨_, _, rfl, h1, h2⟩
end

section
variable {X : Cx} {pn : List (Addr × Obj)} {sg : L2.St} {H : Hp} {sh : Shared}
mutual
theorem Dk.is (I : Inv X pn sg H sh) : ∀ (k : NestedKey) (v : V) (u : Value), Dk X.K H v k → RelV v u → NestedIs sh.heap k u
  | .none, _, _, d, r => by cases d; cases r; exact .none
  | .num i, _, _, d, r => by cases d; obtain ⟨t, rfl⟩ := r; exact .int i t
  | .text x, _, _, d, r => by cases d; obtain ⟨t, rfl⟩ := r; exact .text x t
  | .tup ks, _, _, d, r => by
    cases d with
    | @tup a xs _ h1 h2 =>
      cases r
      obtain ⟨its, rv, ⟨ob, ho, hc, n, hd⟩, _⟩ := I.tuple h1
      exact .tup ho hc hd (by simpa using DkA.is I ks xs its h2 rv)
theorem DkA.is (I : Inv X pn sg H sh) : ∀ (ks : List NestedKey) (vs : List V) (us : List Value), DkA X.K H vs ks → Vals vs us → NestedAll sh.heap ks us
  | [], _, _, d, r => by cases d; cases r; exact .nil
  | k :: ks, _, _, d, r => by
    cases d with
    | cons h1 h2 =>
      cases r with
      | cons r1 r2 => exact .cons (Dk.is I k _ _ h1 r1) (DkA.is I ks _ _ h2 r2)
end
mutual
/-- the same as data of the layer's own deep comparison -/
theorem Dk.dp {K : PySem.W.Frag} {H : Hp} : ∀ (k : NestedKey) (v : V), Dk K H v k → Dp K H v k.data
  | .none, _, d => by cases d; exact .non
  | .num i, _, d => by cases d; exact .int i
  | .text x, _, d => by cases d; exact .str x
  | .tup ks, _, d => by
    cases d with
    | tup h1 h2 => exact .tup h1 (DkA.dp ks _ h2)
theorem DkA.dp {K : PySem.W.Frag} {H : Hp} : ∀ (ks : List NestedKey) (vs : List V), DkA K H vs ks → DpAll K H vs (NestedKey.datas ks)
  | [], _, d => by cases d; exact .nil
  | k :: ks, _, d => by
    cases d with
    | cons h1 h2 => exact .cons (Dk.dp k _ h1) (DkA.dp ks _ h2)
end
end

/-! ### dicts whose keys are such tuples -/
/-- the dict at d, by its entries (the keys' addresses told) -/
def ndO (P : Program) (w : World) (d : Addr) (xs : List (NestedKey × Addr × Value)) : HO :=
  .ext fun h => ∃ o es ep, h.get? d = some o ∧ o.ExactDict ∧ o.data = .dict es ep ∧ es.toList = xs.map (entryOfKey (nestedKind P w)) ∧ (xs.map (·.1)).Nodup
structure NDict (P : Program) (w : World) (K : PySem.W.Frag) (H : Hp) (d : Addr) (kvs : List (NestedKey × V)) : Prop where
  ex : ∃ xs, H d = some (ndO P w d xs) ∧ KV kvs (pairsH xs) ∧ ∀ x ∈ xs, Dk K H (.ref x.2.1) x.1 ∧ x.1.depth ≤ 8
  low : (d == sysModules) = false
  size : kvs.length ≤ sizeLine
section
variable {P : Program} {w : World} {K : PySem.W.Frag} {H H1 : Hp} {L : List Addr} {d : Addr} {kvs : List (NestedKey × V)}
theorem NDict.kp (x : NDict P w K H d kvs) (k : Kp L H H1) (n : d ∉ L) : NDict P w K H1 d kvs := by
  obtain ⟨⟨xs, e, r, t⟩, l, z⟩ := x
  exact ⟨⟨xs, k.keep _ _ n e, r, fun y hy => ⟨(t y hy).1.kp k, (t y hy).2⟩⟩, l, z⟩
theorem NDict.there (x : NDict P w K H d kvs) : H d ≠ none := fun q => by
  obtain ⟨⟨ys, e, _⟩, _⟩ := x
  rw [e] at q; exact nomatch q
theorem ndO_ok {h : Heap} {xs : List (NestedKey × Addr × Value)} {o : Obj} {es : Array DictEntry} {ep : Nat} (h1 : h.get? d = .some o) (h2 : o.ExactDict) (h3 : o.data = .dict es ep) (h4 : es.toList = xs.map (entryOfKey (nestedKind P w)))
    (h5 : (xs.map (·.1)).Nodup) : ObjOk P w H h d (ndO P w d xs) :=
  ⟨⟨o, es, ep, h1, h2, h3, h4, h5⟩, ⟨o, h1⟩, fun _ _ ⟨ob, es', ep', q1, q2⟩ k => ⟨ob, es', ep', k ob q1, q2⟩⟩
end
section
variable {X : Cx} {pn : List (Addr × Obj)} {sg : L2.St} {H : Hp} {sh : Shared} {d a : Addr} {kvs : List (NestedKey × V)} {A : Around} {E : Value → Shared → Prop}
theorem NDict.nodup (I : Inv X pn sg H sh) (D : NDict X.prog X.w X.K H d kvs) : (kvs.map (·.1)).Nodup := by
  obtain ⟨⟨xs, e, r, _⟩, _, _⟩ := D
  obtain ⟨⟨o, es, ep, _, _, _, _, nd⟩, _⟩ := I.hok d _ e
  rw [r.keys]
  simpa [pairsH, Function.comp_def] using nd
theorem NDict.raw (I : Inv X pn sg H sh) (D : NDict X.prog X.w X.K H d kvs) : ∃ xs, H d = some (ndO X.prog X.w d xs) ∧ KV kvs (pairsH xs) ∧ (∀ x ∈ xs, Dk X.K H (.ref x.2.1) x.1 ∧ x.1.depth ≤ 8) ∧ sh.heap.DictOfH (nestedKind X.prog X.w) d xs := by
  obtain ⟨⟨xs, e, r, t⟩, _, _⟩ := D
  obtain ⟨⟨o, es, ep, h1, h2, h3, h4, h5⟩, _⟩ := I.hok d _ e
  exact ⟨xs, e, r, t, o, es, ep, h1, h2, h3, h4, fun x hx => ⟨Dk.is I _ _ _ (t x hx).1 rfl, (t x hx).2⟩, h5⟩
theorem NDict.keyed (I : Inv X pn sg H sh) (D : NDict X.prog X.w X.K H d kvs) : ∃ vs, KV kvs vs ∧ sh.heap.DictKeyed (nestedKind X.prog X.w) d vs := by
  obtain ⟨xs, _, r, _, dd⟩ := D.raw I
  exact ⟨pairsH xs, r, xs, dd, rfl⟩
theorem room8 (hu : A.units + 64 < cLine) : (nestedKind X.prog X.w).room A.in1 := by
  show A.units + 1 + 8 < cLine
  omega
theorem nd_in {k : NestedKey} {Q : Value → Shared → Prop} (hu : A.units + 64 < cLine) (I : Inv X pn sg H sh) (D : NDict X.prog X.w X.K H d kvs) (dk : Dk X.K H (.ref a) k) (dp : k.depth ≤ 8)
    (h : ∀ s', Inv X pn sg H s' → Q (.bool (valV kvs k).isSome) s') : wpAny (model X.prog X.w) A (compareOp .In (.ref a) (.ref d)) Q E sh := by
  obtain ⟨vs, r, dd⟩ := D.keyed I
  refine in_keyed (knd := nestedKind X.prog X.w) (room8 hu) ⟨Dk.is I _ _ _ dk rfl, dp⟩ D.low dd ?_
  rw [← (r.val k).isSome_eq]
  exact h _ (I.tok _)
theorem nd_notIn {k : NestedKey} {Q : Value → Shared → Prop} (hu : A.units + 64 < cLine) (I : Inv X pn sg H sh) (D : NDict X.prog X.w X.K H d kvs) (dk : Dk X.K H (.ref a) k) (dp : k.depth ≤ 8)
    (h : ∀ s', Inv X pn sg H s' → Q (.bool (!(valV kvs k).isSome)) s') : wpAny (model X.prog X.w) A (compareOp .NotIn (.ref a) (.ref d)) Q E sh := by
  obtain ⟨vs, r, dd⟩ := D.keyed I
  refine notIn_keyed (knd := nestedKind X.prog X.w) (room8 hu) ⟨Dk.is I _ _ _ dk rfl, dp⟩ D.low dd ?_
  rw [← (r.val k).isSome_eq]
  exact h _ (I.tok _)
theorem nd_get {k : NestedKey} {v : V} {Q : Value → Shared → Prop} (hu : A.units + 64 < cLine) (I : Inv X pn sg H sh) (D : NDict X.prog X.w X.K H d kvs) (dk : Dk X.K H (.ref a) k) (dp : k.depth ≤ 8) (hv : valV kvs k = some v)
    (h : ∀ u s', Inv X pn sg H s' → RelV v u → Q u s') : wpAny (model X.prog X.w) A (getItem (.ref d) (.ref a)) Q E sh := by
  obtain ⟨vs, r, dd⟩ := D.keyed I
  have q := r.val k
  rw [hv] at q
  obtain ⟨u, hu2, ru⟩ := RelO.some_of q
  exact getItem_keyed (knd := nestedKind X.prog X.w) (room8 hu) ⟨Dk.is I _ _ _ dk rfl, dp⟩ dd hu2 (h _ _ (I.tok _) ru)
/-- behind d[k] = v -/
theorem nd_set {k : NestedKey} {v : V} {r : Value} {Q : Unit → Shared → Prop} (hu : A.units + 64 < cLine) (I : Inv X pn sg H sh) (D : NDict X.prog X.w X.K H d kvs) (dk : Dk X.K H (.ref a) k) (dp : k.depth ≤ 8) (rv : RelV v r) (hz : kvs.length < sizeLine)
    (h : ∀ H' s', Inv X pn sg H' s' → Kp [d] H H' → NDict X.prog X.w X.K H' d (putK kvs k v) → Q () s') : wpAny (model X.prog X.w) A (setItem (.ref d) (.ref a) r) Q E sh := by
  obtain ⟨xs, e, rk, t, dd⟩ := D.raw I
  have lx : xs.length ≤ sizeLine := by
    have := rk.length
    rw [pairsH_length] at this
    omega
  refine wpAny_setItem_heap (knd := nestedKind X.prog X.w) (hsz := lx) (room8 hu) ⟨Dk.is I _ _ _ dk rfl, dp⟩ dd fun h' dd' hs => ?_
  obtain ⟨o, es, ep, q1, q2, q3, q4, _, q5⟩ := dd'
  have kp : Kp [d] H (upd H d (ndO X.prog X.w d (storedH xs k a r))) := Kp.put (List.mem_singleton.mpr rfl) e rfl
  refine h _ _ (d_write (t' := _) I (by rw [e]; exact True.intro) hs ⟨o, q1⟩ (ndO_ok q1 q2 q3 q4 q5)) kp ⟨⟨_, upd_same, ?_, fun y hy => ?_⟩, D.low, ?_⟩
  · rw [pairsH_storedH]
    exact rk.put k rv
  · have : Dk X.K H (.ref y.2.1) y.1 ∧ y.1.depth ≤ 8 := by
      unfold storedH at hy
      split at hy
      · obtain ⟨z, hz, rfl⟩ := List.mem_map.mp hy
        unfold putAt
        split
        · exact t z hz
        · exact t z hz
      · rcases List.mem_append.mp hy with hy | hy
        · exact t y hy
        · rw [List.mem_singleton.mp hy]
          exact ⟨dk, dp⟩
    exact ⟨this.1.kp kp, this.2⟩
  · have := length_putK kvs k v
    omega
end

/-! ### the rules -/
/-- y in d | y not in d (neg) -/
def tNIn (P : Program) (w : World) (K : PySem.W.Frag) (neg : Bool) (ty td : TE) : TE := fun σ H Q => ty σ H fun y H1 => td σ H1 fun x H2 => ∃ d kvs k, x = .ref d ∧ (∃ a, y = .ref a) ∧ NDict P w K H2 d kvs ∧ Dk K H2 y k ∧ k.depth ≤ 8 ∧
  Q (.bl (cond neg (!(valV kvs k).isSome) (valV kvs k).isSome)) H2
/-- d[y] -/
def tNGet (P : Program) (w : World) (K : PySem.W.Frag) (td ty : TE) : TE := fun σ H Q => td σ H fun x H1 => ty σ H1 fun y H2 => ∃ d kvs k v, x = .ref d ∧ (∃ a, y = .ref a) ∧ NDict P w K H2 d kvs ∧ Dk K H2 y k ∧ k.depth ≤ 8 ∧
  valV kvs k = some v ∧ Q v H2
/-- d[y] = v -/
def tNPut (P : Program) (w : World) (K : PySem.W.Frag) (td ty tv : TE) : TS := fun D σ H => tv σ H fun v H1 => td σ H1 fun x H2 => ty σ H2 fun y H3 => ∃ d kvs k, x = .ref d ∧ (∃ a, y = .ref a) ∧ NDict P w K H3 d kvs ∧ Dk K H3 y k ∧ k.depth ≤ 8 ∧
  kvs.length < sizeLine ∧ ∀ H', Kp [d] H3 H' → NDict P w K H' d (putK kvs k v) → D.nx σ H'
/-- d[y] op= v -/
def tNAug (P : Program) (w : World) (K : PySem.W.Frag) (td ty tv : TE) (rd : V → V → Hp → VK → Prop) : TS := fun D σ H => td σ H fun x H1 => ty σ H1 fun y H2 => ∃ d kvs k v, x = .ref d ∧ (∃ a, y = .ref a) ∧ NDict P w K H2 d kvs ∧ Dk K H2 y k ∧ k.depth ≤ 8 ∧
  valV kvs k = some v ∧ tv σ H2 fun y2 H3 => rd v y2 H3 fun z H4 => ∃ kvs', NDict P w K H4 d kvs' ∧ Dk K H4 y k ∧ kvs'.length < sizeLine ∧ ∀ H', Kp [d] H4 H' → NDict P w K H' d (putK kvs' k z) → D.nx σ H'
section
variable {X : Cx} {o i e value : Expr} {pos pos' tpos : Pos} {td ty tv : TE}
theorem pc_nin (hu : X.A.units + 64 < cLine) (hi : PE X i ty) (ho : PE X o td) : PC X .In i o (tNIn X.prog X.w X.K false ty td) := by
  refine ⟨fun pn sh sg H Q I h => ?_⟩
  refine thn (hi.run pn sh sg H _ I h) fun iv s1 ⟨y, H1, I1, ry, q1⟩ => thn (ho.run pn s1 sg H1 _ I1 q1) fun u s2 ⟨x, H2, I2, rx, d, kvs, k, ex, ⟨a, ea⟩, D, dk, dp, q2⟩ => ?_
  subst ex ea
  obtain rfl : u = Value.ref d := rx
  obtain rfl : iv = Value.ref a := ry
  exact nd_in hu I2 D dk dp fun s3 I3 => ⟨.bl _, H2, I3, rfl, q2⟩
theorem pc_nnin (hu : X.A.units + 64 < cLine) (hi : PE X i ty) (ho : PE X o td) : PC X .NotIn i o (tNIn X.prog X.w X.K true ty td) := by
  refine ⟨fun pn sh sg H Q I h => ?_⟩
  refine thn (hi.run pn sh sg H _ I h) fun iv s1 ⟨y, H1, I1, ry, q1⟩ => thn (ho.run pn s1 sg H1 _ I1 q1) fun u s2 ⟨x, H2, I2, rx, d, kvs, k, ex, ⟨a, ea⟩, D, dk, dp, q2⟩ => ?_
  subst ex ea
  obtain rfl : u = Value.ref d := rx
  obtain rfl : iv = Value.ref a := ry
  exact nd_notIn hu I2 D dk dp fun s3 I3 => ⟨.bl _, H2, I3, rfl, q2⟩
theorem pe_nget (hu : X.A.units + 64 < cLine) (ho : PE X o td) (hi : PE X i ty) (hs : NoSl i) : PE X (.Subscript o i pos) (tNGet X.prog X.w X.K td ty) := by
  refine ⟨fun pn sh sg H Q I h => ?_⟩
  refine subD_of PySem.F.slot_dict_getitem.lookup hs (thn (ho.run pn sh sg H _ I h) fun u s1 ⟨x, H1, I1, rx, q1⟩ => thn (hi.run pn s1 sg H1 _ I1 q1) fun iv s2 ⟨y, H2, I2, ry, d, kvs, k, v, ex, ⟨a, ea⟩, D, dk, dp, hv, q2⟩ => ?_)
  subst ex ea
  obtain rfl : u = Value.ref d := rx
  obtain rfl : iv = Value.ref a := ry
  obtain ⟨_, _, dd⟩ := D.keyed I2
  exact ⟨dd.typeIs, nd_get hu I2 D dk dp hv fun w' s3 I3 rw' => ⟨v, H2, I3, rw', q2⟩⟩
theorem ps_nput (hu : X.A.units + 64 < cLine) (ho : PE X o td) (hi : PE X i ty) (hv : PE X value tv) (hs : swapsWith value (some (.Subscript o i pos')) pos.line X.env = pure false) :
    PS X (.Assign [.Subscript o i pos'] value pos) (tNPut X.prog X.w X.K td ty tv) := by
  refine ⟨fun pn sh sg H D I h => ?_⟩
  refine wpAny_Assign_Subscript (thn (hv.run pn sh sg H _ I h) fun r s1 ⟨v, H1, I1, rv, q1⟩ => thn (ho.run pn s1 sg H1 _ I1 q1) fun u s2 ⟨x, H2, I2, rx, q2⟩ => thn (hi.run pn s2 sg H2 _ I2 q2) fun iv s3 ⟨y, H3, I3, ry, d, kvs, k, ex, ⟨a, ea⟩, DD, dk, dp, hz, q3⟩ => ?_) hs
  subst ex ea
  obtain rfl : u = Value.ref d := rx
  obtain rfl : iv = Value.ref a := ry
  exact nd_set hu I3 DD dk dp rv hz fun H' s4 I4 kp D4 => ⟨sg, H', I4, q3 H' kp D4⟩
theorem ps_naug {op : Operator} {rd : V → V → Hp → VK → Prop} (hu : X.A.units + 64 < cLine) (ho : PE X o td) (hi : PE X i ty) (hv : PE X value tv) (hop : InOp X op rd)
    (ha : ∀ ov iv new, augStore i ov iv new = (do holding [new, ov, iv] (setItem ov iv new); release [new, ov, iv] []; pure .next)) : PS X (.AugAssign (.Subscript o i tpos) op value pos) (tNAug X.prog X.w X.K td ty tv rd) := by
  refine ⟨fun pn sh sg H D I h => ?_⟩
  refine wpAny_AugAssign_SubscriptAny (thn (ho.run pn sh sg H _ I h) fun u s1 ⟨x, H1, I1, rx, q1⟩ => thn (hi.run pn s1 sg H1 _ I1 q1) fun iv s2 ⟨y, H2, I2, ry, d, kvs, k, v, ex, ⟨a, ea⟩, DD, dk, dp, hvv, q2⟩ => ?_) ha
  subst ex ea
  obtain rfl : u = Value.ref d := rx
  obtain rfl : iv = Value.ref a := ry
  refine nd_get hu I2 DD dk dp hvv fun w' s3 I3 rw' => thn (hv.run pn s3 sg H2 _ I3 q2) fun w2 s4 ⟨y2, H3, I4, ry2, q3⟩ => thn (hop pn s4 sg H3 v y2 w' w2 _ I4 rw' ry2 q3) fun w3 s5 ⟨z, H4, I5, rz, kvs', D5, dk5, hz5, q4⟩ => ?_
  exact nd_set hu I5 D5 dk5 dp rz hz5 fun H' s6 I6 kp D6 => ⟨sg, H', I6, q4 H' kp D6⟩
/-- {} to be filled with such keys -/
def tNNew (P : Program) (w : World) (K : PySem.W.Frag) : TE := fun _ H Q => ∀ p H', H p = none → Kp [] H H' → NDict P w K H' p [] → Q (.ref p) H'
theorem pe_nnew : PE X (.Dict [] [] pos) (tNNew X.prog X.w X.K) := by
  refine ⟨fun pn sh sg H Q I h => ?_⟩
  have hb := I.big
  have n : H sh.heap.objs.size = none := I.hok.fresh (Nat.le_refl _)
  refine wpAny_Dict_empty ⟨.ref sh.heap.objs.size, upd H sh.heap.objs.size (ndO X.prog X.w sh.heap.objs.size []), I.laid (t' := sh.toks) (fun _ _ q => Heap.get?_push_of_some _ q) (Nat.le_refl _) ?_, rfl, h _ _ n (Kp.new n) ⟨⟨[], upd_same, .nil, fun x hx => nomatch hx⟩, ?_, Nat.zero_le _⟩⟩
  · exact ndO_ok (es := #[]) (ep := 0) (Heap.get?_push_size _ rfl) ⟨rfl, rfl, rfl⟩ rfl rfl List.nodup_nil
  · exact beq_eq_false_iff_ne.mpr (Ne.symm (Nat.ne_of_lt hb))
end
end Px

set_option maxRecDepth 100000
set_option maxHeartbeats 4000000
/-! PxTop: what a program's top leaves, def by def; the end of a law with the loose names told. -/
namespace Px
open PySem PySem.Spec PyProof.Rows L2

/-- a def of the top -/
structure DefAt (K : PySem.W.Frag) (mg : Str → Option Value) (x : Str) (st : Stmt) (ps : List Str) where
  f : Addr
  fd : FuncData
  F : Fun K x x st f fd
  b : Binds K fd ps []
  m : mg x = some (.ref f)
/-- a method -/
structure MethAt (K : PySem.W.Frag) (C : Addr) (x qual : Str) (st : Stmt) (ps : List Str) where
  f : Addr
  fd : FuncData
  F : Fun K x qual st f fd
  b : Binds K fd ps []
  M : Meth K C x f
/-- __init__ -/
structure InitAt (K : PySem.W.Frag) (C : Addr) (qual : Str) (st : Stmt) (ps : List Str) where
  f : Addr
  fd : FuncData
  F : Fun K "__init__" qual st f fd
  b : Binds K fd ps []
  M : Mk K C f
abbrev tLOWER : Str := "abcdefghijklmnopqrstuvwxyz"
abbrev tSIGNS : Str := "abcdefghijklmnopqrstuvwxyzABCDEFGHIJKLMNOPQRSTUVWXYZ0123456789!#+-?_"
/-- a tuple of the module -/
def KTup (K : PySem.W.Frag) (a : Addr) (vs : List V) : Prop := ∃ (o : Obj) (its : Array Value) (n : Nat), K.lookup a = some o ∧ o.cls = .type "tuple" ∧ o.data = .seq its n ∧ its.size ≤ sizeLine ∧ Vals vs its.toList
theorem KTup.sqt {K : PySem.W.Frag} {H : Hp} {a : Addr} {vs : List V} (h : KTup K a vs) : SqT K H a vs := .inr h
/-- the dict STARTS -/
structure StartsAt (K : PySem.W.Frag) (w : World) (mg : Str → Option Value) where
  a : Addr
  es : Array DictEntry
  n : Nat
  m : mg "STARTS" = some (.ref a)
  lk : K.lookup a = some ⟨.type "dict", none, .dict es n, #[]⟩
  lit : PySem.W.KeysLit w.params es.toList
  low : (a == sysModules) = false
  s1 : ∃ t, PySem.W.nsIn K a "size" = some (some (.int 0 t))
  s2 : ∃ t, PySem.W.nsIn K a "least" = some (some (.int 0 t))
  s3 : ∃ t, PySem.W.nsIn K a "most" = some (some (.int 0 t))
  s4 : ∃ b, PySem.W.nsIn K a "kinds" = some (some (.ref b)) ∧ KTup K b []
  s5 : ∃ b, PySem.W.nsIn K a "run" = some (some (.ref b)) ∧ KTup K b [.str "", .int 0]
  s6 : ∃ b, PySem.W.nsIn K a "row" = some (some (.ref b)) ∧ KTup K b [.str "", .int 0]
  s7 : PySem.W.nsIn K a "not" = some none
  s8 : PySem.W.nsIn K a "first" = some none
  s9 : PySem.W.nsIn K a "last" = some none

/-- the end of a law's row: what the loose names hold is handed on -/
theorem walkX {l : PySem.W.OpenLaw} {n k : Nat} {q : Program} {loose : List Str} {XP : (Str → Option Value) → Heap → Prop} {YP : World → Heap → Prop} {d : DefRec} {K : Params → PySem.W.Frag} {CX : CXT} {sp : PySem.W.Frag → Sp} {x : Str}
    (hn : l.most = some n) (hn2 : n ≤ sizeLine) (hdf : d.params.defaults = []) (hr : Room k callerA) (hY : ∀ (w : World) (h : Heap), YP w h → (K w.params).In h)
    (F : ∀ (w : World) (mg : Str → Option Value) (fa : Addr) (h : Heap), (K w.params).In h → h.Ns mainGlobals mg → XP mg h → mg d.name = some (.ref fa) →
      ∃ fd : FuncData, (∀ (s : Shared) (u : Value), BindsTo s fd ⟨[u], []⟩ [(x, u)]) ∧
        ∀ base : Heap, (K w.params).In base → base.Ns mainGlobals mg → FnOk l.prog w (K w.params) mg base CX k fa fd [x] (sp (K w.params)))
    (hsp : ∀ (K : PySem.W.Frag) (H : Hp) (a : Addr) (ns : List Int), ns.length ≤ n → Only H → SqL K H a (ns.map V.int) → sp K [.ref a] H (fun v _ => v = .bl true) fun _ _ _ => False)
    (hCX : ∀ (H : Hp) (s : Shared) (e : Value) (s' : Shared), CX [] H s (fun _ _ _ => False) e s' → False) :
    PySem.W.WalkO q loose XP YP l.row.toRowW d [] (fun f vs => PySem.call f vs) := by
  refine Att.attach_call hn hdf fun w s₀ s₁ mg mb fa o pm cd doc a vs ns G Y ho hd hcd hmg hobj hints hlen hg => ?_
  have KX := hY w _ Y
  obtain ⟨fd, hb, hF⟩ := F w mg fa _ KX G.T.g G.X hmg
  exact law_call KX G.T.g G.T.b G.T.builtins G.T.nolimit hg hobj hints (Nat.le_trans hlen hn2) hr hF hb (fun H hO hS => hsp (K w.params) H a ns hlen hO hS) fun H e s' => hCX H s₁ e s'
end Px

set_option maxRecDepth 100000
set_option maxHeartbeats 4000000
/-! PxMk: the facts of a top made one by one. -/
namespace Px
open PySem PySem.Spec PyProof.Rows L2
abbrev BindOk (x qual : Str) (st : Stmt) (ps : List Str) : Prop := ∀ (kV doc pm : Value) (an : Option Addr) (cdv ct : Value) (us : List Value), us.length = ps.length → bindArgs (PySem.W.fnOf x qual (defArgs st) (defBody st) (defScope st) .none kV doc pm an cdv ct) ⟨us, []⟩ = pure (ps.zip us)
section
variable {K : PySem.W.Frag} {h : Heap} {mg : Str → Option Value} {f C : Addr} {oc : Value} {od an : Option Addr} {osl : Array (Option Value)} {kV doc pm cdv ct : Value} {x qual : Str} {st : Stmt} {ps : List Str}
def defAt (b : BindOk x x st ps) (X : K.In h) (G : h.Ns mainGlobals mg) (a : PySem.W.nsIn K mainGlobals x = some (some (.ref f))) (l : K.lookup f = some ⟨oc, od, .func (PySem.W.fnOf x x (defArgs st) (defBody st) (defScope st) .none kV doc pm an cdv ct), osl⟩)
    (c : PySem.W.codeIn K cdv x = true) (k : PySem.W.keepIn K (.ref f) = true) : DefAt K mg x st ps := ⟨f, _, fun_mk l c k, (fun_mk l c k).binds b, PySem.W.mg_of X G a⟩
def methAt (b : BindOk x qual st ps) (a : PySem.W.findIn K (.ref C) x = some (some (.ref f))) (i : PySem.W.isFn K (.ref f) = true) (l : K.lookup f = some ⟨oc, od, .func (PySem.W.fnOf x qual (defArgs st) (defBody st) (defScope st) .none kV doc pm an cdv ct), osl⟩)
    (c : PySem.W.codeIn K cdv qual = true) (k : PySem.W.keepIn K (.ref f) = true) : MethAt K C x qual st ps := ⟨f, _, fun_mk l c k, (fun_mk l c k).binds b, ⟨a, i, k⟩⟩
def initAt (b : BindOk "__init__" qual st ps) (a : PySem.W.findIn K (.ref C) "__init__" = some (some (.ref f))) (i : PySem.W.isFn K (.ref f) = true) (l : K.lookup f = some ⟨oc, od, .func (PySem.W.fnOf "__init__" qual (defArgs st) (defBody st) (defScope st) .none kV doc pm an cdv ct), osl⟩)
    (c : PySem.W.codeIn K cdv qual = true) (k : PySem.W.keepIn K (.ref f) = true) (mk : PySem.W.makesIn K C = true) (kc : PySem.W.keepIn K (.ref C) = true) : InitAt K C qual st ps := ⟨f, _, fun_mk l c k, (fun_mk l c k).binds b, ⟨mk, a, i, kc⟩⟩
theorem constInt {x : Str} {v : Int} {t : Tok} (X : K.In h) (G : h.Ns mainGlobals mg) (a : PySem.W.nsIn K mainGlobals x = some (some (.int v t))) : ∃ t, mg x = some (.int v t) := ⟨t, PySem.W.mg_of X G a⟩
theorem constStr {x v : Str} {t : Tok} (X : K.In h) (G : h.Ns mainGlobals mg) (a : PySem.W.nsIn K mainGlobals x = some (some (.str v t))) : ∃ t, mg x = some (.str v t) := ⟨t, PySem.W.mg_of X G a⟩
theorem kTup {a : Addr} {vs : List V} {od : Option Addr} {its : Array Value} {n : Nat} {sl : Array (Option Value)} (lk : K.lookup a = some ⟨.type "tuple", od, .seq its n, sl⟩) (hs : its.size ≤ sizeLine) (hv : Vals vs its.toList) : KTup K a vs := ⟨_, its, n, lk, rfl, rfl, hs, hv⟩
def startsAt {w : World} {a b4 b5 b6 : Addr} {es : Array DictEntry} {n : Nat} {t1 t2 t3 : Tok} (X : K.In h) (G : h.Ns mainGlobals mg) (m : PySem.W.nsIn K mainGlobals "STARTS" = some (some (.ref a))) (lk : K.lookup a = some ⟨.type "dict", none, .dict es n, #[]⟩)
    (lit : PySem.W.KeysLit w.params es.toList) (low : (a == sysModules) = false) (s1 : PySem.W.nsIn K a "size" = some (some (.int 0 t1))) (s2 : PySem.W.nsIn K a "least" = some (some (.int 0 t2))) (s3 : PySem.W.nsIn K a "most" = some (some (.int 0 t3)))
    (s4 : PySem.W.nsIn K a "kinds" = some (some (.ref b4))) (k4 : KTup K b4 []) (s5 : PySem.W.nsIn K a "run" = some (some (.ref b5))) (k5 : KTup K b5 [.str "", .int 0]) (s6 : PySem.W.nsIn K a "row" = some (some (.ref b6))) (k6 : KTup K b6 [.str "", .int 0])
    (s7 : PySem.W.nsIn K a "not" = some none) (s8 : PySem.W.nsIn K a "first" = some none) (s9 : PySem.W.nsIn K a "last" = some none) : StartsAt K w mg := ⟨a, es, n, PySem.W.mg_of X G m, lk, lit, low, ⟨t1, s1⟩, ⟨t2, s2⟩, ⟨t3, s3⟩, ⟨b4, s4, k4⟩, ⟨b5, s5, k5⟩, ⟨b6, s6, k6⟩, s7, s8, s9⟩
theorem law_end {l : PySem.W.OpenLaw} {w : World} {k : Nat} {sp : PySem.W.Frag → Sp} {fa : Addr} {stL : Stmt} (G : h.Ns mainGlobals mg) (hfa : mg "law" = some (.ref fa)) (D : DefAt K mg "law" stL ["_law_script"]) (b : BindOk "law" "law" stL ["_law_script"])
    (ok : ∀ (f : Addr) (fd : FuncData), Fun K "law" "law" stL f fd → ∀ base : Heap, FnOk l.prog w K mg base CX0 k f fd ["_law_script"] (sp K)) :
    ∃ fd : FuncData, (∀ (s : Shared) (u : Value), BindsTo s fd ⟨[u], []⟩ [("_law_script", u)]) ∧ ∀ base : Heap, K.In base → base.Ns mainGlobals mg → FnOk l.prog w K mg base CX0 k fa fd ["_law_script"] (sp K) := by
  have e := hfa.symm.trans D.m
  cases e
  obtain ⟨oc, od, kV, doc, pm, an, cdv, ct, osl, e, lk, hcd⟩ := D.F.ex
  refine ⟨D.fd, fun s u => ?_, fun base _ _ => ok D.f D.fd D.F base⟩
  rw [e]
  exact .of_eq (b kV doc pm an cdv ct [u] rfl)
theorem law_endT {α : Type} {l : PySem.W.OpenLaw} {w : World} {k : Nat} {sp : PySem.W.Frag → Sp} {fa : Addr} {stL : Stmt} (T : α) (G : h.Ns mainGlobals mg) (hfa : mg "law" = some (.ref fa)) (D : DefAt K mg "law" stL ["_law_script"]) (b : BindOk "law" "law" stL ["_law_script"])
    (ok : α → ∀ (f : Addr) (fd : FuncData), Fun K "law" "law" stL f fd → ∀ base : Heap, FnOk l.prog w K mg base CX0 k f fd ["_law_script"] (sp K)) :
    ∃ fd : FuncData, (∀ (s : Shared) (u : Value), BindsTo s fd ⟨[u], []⟩ [("_law_script", u)]) ∧ ∀ base : Heap, K.In base → base.Ns mainGlobals mg → FnOk l.prog w K mg base CX0 k fa fd ["_law_script"] (sp K) := law_end G hfa D b (ok T)
end
end Px

set_option maxRecDepth 100000
set_option maxHeartbeats 4000000
/-! The law's text by places (printed by gen.py). -/
namespace Px
open PySem L2
def topS (i : Nat) : Stmt := PySem.Challenge.pw_passrules_k19_whole_single_rules.main.body.getD i (.Pass ⟨0, 0, 0, 0⟩)
abbrev s_is_count : Stmt := topS 12
abbrev s_is_over : Stmt := topS 13
abbrev s_are_classes : Stmt := topS 14
abbrev s_is_rule : Stmt := topS 15
abbrev s_is_name : Stmt := topS 16
abbrev s_is_policy : Stmt := topS 17
abbrev s_signs_of : Stmt := topS 18
abbrev s_need_policy : Stmt := topS 19
abbrev s_many_from : Stmt := topS 24
abbrev s_need_size : Stmt := topS 25
abbrev s_count : Stmt := topS 26
abbrev s__law_draw : Stmt := topS 28
abbrev s__law_pick : Stmt := topS 29
abbrev s__law_power : Stmt := topS 33
abbrev s__law_placed : Stmt := topS 34
abbrev s__law_runs : Stmt := topS 35
abbrev s__law_rows : Stmt := topS 36
abbrev s__law_without : Stmt := topS 37
abbrev s_law : Stmt := topS 38
abbrev s_Machine___init__ : Stmt := inClass (topS 22) 0
abbrev s_Machine_step : Stmt := inClass (topS 22) 1
abbrev s_Machine_moved : Stmt := inClass (topS 22) 2
abbrev s_Machine_counted : Stmt := inClass (topS 22) 3
abbrev s_Machine_unmatched : Stmt := inClass (topS 22) 4
abbrev s_Machine_keeps : Stmt := inClass (topS 22) 5
abbrev s_Machine_fine : Stmt := inClass (topS 22) 6
abbrev s_Machine_after : Stmt := inClass (topS 22) 7
theorem bd_is_count : BindOk "is_count" "is_count" s_is_count ["value", "least", "most"] := fun _ _ _ _ _ _ us hl => match us, hl with | [_, _, _], _ => rfl
theorem bd_is_over : BindOk "is_over" "is_over" s_is_over ["value", "signs", "least", "most"] := fun _ _ _ _ _ _ us hl => match us, hl with | [_, _, _, _], _ => rfl
theorem bd_are_classes : BindOk "are_classes" "are_classes" s_are_classes ["value"] := fun _ _ _ _ _ _ us hl => match us, hl with | [_], _ => rfl
theorem bd_is_rule : BindOk "is_rule" "is_rule" s_is_rule ["value", "names", "signs"] := fun _ _ _ _ _ _ us hl => match us, hl with | [_, _, _], _ => rfl
theorem bd_is_name : BindOk "is_name" "is_name" s_is_name ["value", "names"] := fun _ _ _ _ _ _ us hl => match us, hl with | [_, _], _ => rfl
theorem bd_is_policy : BindOk "is_policy" "is_policy" s_is_policy ["value"] := fun _ _ _ _ _ _ us hl => match us, hl with | [_], _ => rfl
theorem bd_signs_of : BindOk "signs_of" "signs_of" s_signs_of ["policy"] := fun _ _ _ _ _ _ us hl => match us, hl with | [_], _ => rfl
theorem bd_need_policy : BindOk "need_policy" "need_policy" s_need_policy ["value"] := fun _ _ _ _ _ _ us hl => match us, hl with | [_], _ => rfl
theorem bd_many_from : BindOk "many_from" "many_from" s_many_from ["machine", "state", "size", "known"] := fun _ _ _ _ _ _ us hl => match us, hl with | [_, _, _, _], _ => rfl
theorem bd_need_size : BindOk "need_size" "need_size" s_need_size ["value"] := fun _ _ _ _ _ _ us hl => match us, hl with | [_], _ => rfl
theorem bd_count : BindOk "count" "count" s_count ["policy", "size"] := fun _ _ _ _ _ _ us hl => match us, hl with | [_, _], _ => rfl
theorem bd__law_draw : BindOk "_law_draw" "_law_draw" s__law_draw ["_law_script", "_law_town", "_law_many"] := fun _ _ _ _ _ _ us hl => match us, hl with | [_, _, _], _ => rfl
theorem bd__law_pick : BindOk "_law_pick" "_law_pick" s__law_pick ["_law_script", "_law_town", "_law_some"] := fun _ _ _ _ _ _ us hl => match us, hl with | [_, _, _], _ => rfl
theorem bd__law_power : BindOk "_law_power" "_law_power" s__law_power ["_law_base", "_law_many"] := fun _ _ _ _ _ _ us hl => match us, hl with | [_, _], _ => rfl
theorem bd__law_placed : BindOk "_law_placed" "_law_placed" s__law_placed ["_law_many", "_law_rest", "_law_size", "_law_number"] := fun _ _ _ _ _ _ us hl => match us, hl with | [_, _, _, _], _ => rfl
theorem bd__law_runs : BindOk "_law_runs" "_law_runs" s__law_runs ["_law_both", "_law_size", "_law_most"] := fun _ _ _ _ _ _ us hl => match us, hl with | [_, _, _], _ => rfl
theorem bd__law_rows : BindOk "_law_rows" "_law_rows" s__law_rows ["_law_classes_here", "_law_size", "_law_most"] := fun _ _ _ _ _ _ us hl => match us, hl with | [_, _, _], _ => rfl
theorem bd__law_without : BindOk "_law_without" "_law_without" s__law_without ["_law_both", "_law_size", "_law_text"] := fun _ _ _ _ _ _ us hl => match us, hl with | [_, _, _], _ => rfl
theorem bd_law : BindOk "law" "law" s_law ["_law_script"] := fun _ _ _ _ _ _ us hl => match us, hl with | [_], _ => rfl
theorem bd_Machine___init__ : BindOk "__init__" "Machine.__init__" s_Machine___init__ ["self", "policy"] := fun _ _ _ _ _ _ us hl => match us, hl with | [_, _], _ => rfl
theorem bd_Machine_step : BindOk "step" "Machine.step" s_Machine_step ["self", "state", "sign"] := fun _ _ _ _ _ _ us hl => match us, hl with | [_, _, _], _ => rfl
theorem bd_Machine_moved : BindOk "moved" "Machine.moved" s_Machine_moved ["self", "rule", "one", "sign"] := fun _ _ _ _ _ _ us hl => match us, hl with | [_, _, _, _], _ => rfl
theorem bd_Machine_counted : BindOk "counted" "Machine.counted" s_Machine_counted ["self", "many", "most", "is_bound"] := fun _ _ _ _ _ _ us hl => match us, hl with | [_, _, _, _], _ => rfl
theorem bd_Machine_unmatched : BindOk "unmatched" "Machine.unmatched" s_Machine_unmatched ["self", "text", "end"] := fun _ _ _ _ _ _ us hl => match us, hl with | [_, _, _], _ => rfl
theorem bd_Machine_keeps : BindOk "keeps" "Machine.keeps" s_Machine_keeps ["self", "rule", "one"] := fun _ _ _ _ _ _ us hl => match us, hl with | [_, _, _], _ => rfl
theorem bd_Machine_fine : BindOk "fine" "Machine.fine" s_Machine_fine ["self", "state"] := fun _ _ _ _ _ _ us hl => match us, hl with | [_, _], _ => rfl
theorem bd_Machine_after : BindOk "after" "Machine.after" s_Machine_after ["self", "text"] := fun _ _ _ _ _ _ us hl => match us, hl with | [_, _], _ => rfl
/-- what the top has left -/
structure Top (K : PySem.W.Frag) (w : World) (mg : Str → Option Value) where
  d_is_count : DefAt K mg "is_count" s_is_count ["value", "least", "most"]
  d_is_over : DefAt K mg "is_over" s_is_over ["value", "signs", "least", "most"]
  d_are_classes : DefAt K mg "are_classes" s_are_classes ["value"]
  d_is_rule : DefAt K mg "is_rule" s_is_rule ["value", "names", "signs"]
  d_is_name : DefAt K mg "is_name" s_is_name ["value", "names"]
  d_is_policy : DefAt K mg "is_policy" s_is_policy ["value"]
  d_signs_of : DefAt K mg "signs_of" s_signs_of ["policy"]
  d_need_policy : DefAt K mg "need_policy" s_need_policy ["value"]
  d_many_from : DefAt K mg "many_from" s_many_from ["machine", "state", "size", "known"]
  d_need_size : DefAt K mg "need_size" s_need_size ["value"]
  d_count : DefAt K mg "count" s_count ["policy", "size"]
  d__law_draw : DefAt K mg "_law_draw" s__law_draw ["_law_script", "_law_town", "_law_many"]
  d__law_pick : DefAt K mg "_law_pick" s__law_pick ["_law_script", "_law_town", "_law_some"]
  d__law_power : DefAt K mg "_law_power" s__law_power ["_law_base", "_law_many"]
  d__law_placed : DefAt K mg "_law_placed" s__law_placed ["_law_many", "_law_rest", "_law_size", "_law_number"]
  d__law_runs : DefAt K mg "_law_runs" s__law_runs ["_law_both", "_law_size", "_law_most"]
  d__law_rows : DefAt K mg "_law_rows" s__law_rows ["_law_classes_here", "_law_size", "_law_most"]
  d__law_without : DefAt K mg "_law_without" s__law_without ["_law_both", "_law_size", "_law_text"]
  c_Machine : Addr
  g_Machine : mg "Machine" = some (.ref c_Machine)
  cl_Machine : Cls K c_Machine
  n_Machine_rules : NoAttr K c_Machine "rules"
  n_Machine_signs : NoAttr K c_Machine "signs"
  n_Machine_names : NoAttr K c_Machine "names"
  n_Machine_followers : NoAttr K c_Machine "followers"
  n_Machine_start : NoAttr K c_Machine "start"
  n_Machine_known : NoAttr K c_Machine "known"
  i_Machine : InitAt K c_Machine "Machine.__init__" s_Machine___init__ ["self", "policy"]
  m_Machine_step : MethAt K c_Machine "step" "Machine.step" s_Machine_step ["self", "state", "sign"]
  m_Machine_moved : MethAt K c_Machine "moved" "Machine.moved" s_Machine_moved ["self", "rule", "one", "sign"]
  m_Machine_counted : MethAt K c_Machine "counted" "Machine.counted" s_Machine_counted ["self", "many", "most", "is_bound"]
  m_Machine_unmatched : MethAt K c_Machine "unmatched" "Machine.unmatched" s_Machine_unmatched ["self", "text", "end"]
  m_Machine_keeps : MethAt K c_Machine "keeps" "Machine.keeps" s_Machine_keeps ["self", "rule", "one"]
  m_Machine_fine : MethAt K c_Machine "fine" "Machine.fine" s_Machine_fine ["self", "state"]
  m_Machine_after : MethAt K c_Machine "after" "Machine.after" s_Machine_after ["self", "text"]
  b_len : mg "len" = none
  b_all : mg "all" = none
  b_isinstance : mg "isinstance" = none
  b_set : mg "set" = none
  b_sorted : mg "sorted" = none
  b_tuple : mg "tuple" = none
  b_zip : mg "zip" = none
  b_range : mg "range" = none
  b_int : mg "int" = none
  b_bool : mg "bool" = none
  b_str : mg "str" = none
  b_sum : mg "sum" = none
  b_min : mg "min" = none
  b_list : mg "list" = none
  b_dict : mg "dict" = none
  k_LOWER : ∃ t, mg "LOWER" = some (.str tLOWER t)
  k_SIGNS : ∃ t, mg "SIGNS" = some (.str tSIGNS t)
  k_CLASSES : ∃ t, mg "CLASSES" = some (.int 4 t)
  k_RULES : ∃ t, mg "RULES" = some (.int 6 t)
  k_SIZE : ∃ t, mg "SIZE" = some (.int 12 t)
  k_TEXT : ∃ t, mg "TEXT" = some (.int 20 t)
  k_STARTS : StartsAt K w mg
  e_PassError : True
  e_InvalidPolicy : True
  e_InvalidNumber : True
end Px

set_option maxRecDepth 100000
set_option maxHeartbeats 4000000
/-! PxB: len(set(x)) where the items of x differ: x a list of texts, a text, a tuple of flat tuples of texts, ints, None. -/
namespace Px
open PySem PySem.Spec PyProof.Rows L2

section
variable {P : Program} {w : World} {κ : Type} [DecidableEq κ] {knd : KeyKind P w κ} {A : Around} {E : Value → Shared → Prop} {sh : Shared}
/-- what is asked of the kind of items: no item is of a class statement; whether an item hashes by its value is told -/
structure Leafy (knd : KeyKind P w κ) : Prop where
  cls : ∀ n k v, knd.is k v = true → ofAClassStatement n v = pure false
  byv : ∀ n k v, knd.is k v = true → ∃ b, hashByValue n v = pure b
theorem itemsAll {ks : List κ} {vs : List Value} (r : ItemsAre knd ks vs) : ∀ v ∈ vs, ∃ k, knd.is k v = true := by
  induction r with
  | nil => exact fun v hv => nomatch hv
  | @cons k v0 ks vs h1 _ ih =>
    intro v hv
    rcases List.mem_cons.mp hv with e | hv
    · exact ⟨k, e ▸ h1⟩
    · exact ih v hv
theorem cls_tup (lf : Leafy knd) {k : List κ} {b : Addr} {Q : Bool → Shared → Prop} (hk : IsTupleKey knd sh.heap k b) (h : Q false sh) : wpAny (model P w) A (ofAClassStatement 8 (.ref b)) Q E sh := by
  have hT := hk.typeIs
  obtain ⟨o, items, n, ho, _, hd, hi⟩ := hk
  unfold ofAClassStatement
  refine wpAny_bind (wpAny_typeOf hT ?_)
  dsimp only
  have e : (("tuple" : String) == "tuple") = true := by decide
  simp only [e, if_true, Bool.not_true, Bool.false_eq_true, if_false]
  try refine wpAny_bind (wpAny_pure ?_)
  try simp only [Bool.not_true, Bool.false_eq_true, if_false]
  show wpAny _ _ (seqItems? (.ref b) >>= _) _ _ sh
  refine wpAny_bind (wpAny_seqItems ho hd ?_)
  dsimp only
  refine wpAny_bind ?_
  show wpAny _ _ (forIn items _ _) _ _ sh
  rw [← Array.forIn_toList]
  refine wpAny_forIn_list _ (fun left r s' => r.1 = none ∧ s' = sh ∧ ∀ v ∈ left, ∃ k, knd.is k v = true) _ ?_ ?_ _ _ ⟨rfl, rfl, itemsAll hi⟩
  · rintro v left r s' ⟨hr, rfl, all⟩
    obtain ⟨k', hk'⟩ := all v List.mem_cons_self
    rw [lf.cls _ _ _ hk']
    refine wpAny_bind (wpAny_pure ?_)
    simp only [Bool.false_eq_true, if_false]
    exact wpAny_pure ⟨rfl, rfl, fun u hu => all u (List.mem_cons_of_mem _ hu)⟩
  · rintro ⟨r1, r2⟩ s' ⟨hr, rfl, _⟩
    simp only at hr
    subst hr
    exact wpAny_pure h
theorem byv_tup (lf : Leafy knd) {k : List κ} {b : Addr} {Q : Bool → Shared → Prop} (hk : IsTupleKey knd sh.heap k b) (h : ∀ c, Q c sh) : wpAny (model P w) A (hashByValue 8 (.ref b)) Q E sh := by
  have hT := hk.typeIs
  obtain ⟨o, items, n, ho, _, hd, hi⟩ := hk
  unfold hashByValue
  refine wpAny_bind (wpAny_specialOf hT F.slot_tuple_hash.lookup ?_)
  show wpAny _ _ (seqItems? (.ref b) >>= _) _ _ sh
  refine wpAny_bind (wpAny_seqItems ho hd ?_)
  refine wpAny_bind ?_
  show wpAny _ _ (forIn items _ _) _ _ sh
  rw [← Array.forIn_toList]
  refine wpAny_forIn_list _ (fun left r s' => s' = sh ∧ r.1 = none ∧ ∀ v ∈ left, ∃ k, knd.is k v = true) _ ?_ ?_ _ _ ⟨rfl, rfl, itemsAll hi⟩
  · rintro v left r s' ⟨rfl, hr, all⟩
    obtain ⟨k', hk'⟩ := all v List.mem_cons_self
    obtain ⟨c, hc⟩ := lf.byv 7 _ _ hk'
    rw [hc]
    refine wpAny_bind (wpAny_pure ?_)
    cases c with
    | true =>
      simp only [Bool.not_true, Bool.false_eq_true, if_false]
      exact wpAny_pure ⟨rfl, rfl, fun u hu => all u (List.mem_cons_of_mem _ hu)⟩
    | false =>
      simp only [Bool.not_false, if_true]
      exact wpAny_pure (show wpAny (model P w) A (pure false) Q E s' from wpAny_pure (h false))
  · rintro ⟨r1, r2⟩ s' ⟨rfl, hr, _⟩
    simp only at hr
    subst hr
    exact wpAny_pure (h _)
/-- a search among such tuples shows nothing -/
theorem seen_no (lf : Leafy knd) {k : List κ} {b : Addr} {Q : Bool → Shared → Prop} (hk : IsTupleKey knd sh.heap k b) {ys : List Value} (hy : ∀ y ∈ ys, ∃ k' c, y = Value.ref c ∧ IsTupleKey knd sh.heap k' c) (h : Q false sh) :
    wpAny (model P w) A (searchCouldBeSeen (.ref b) ys) Q E sh := by
  unfold searchCouldBeSeen
  refine wpAny_bind ?_
  refine wpAny_forIn_list _ (fun left r s' => r.1 = none ∧ s' = sh ∧ ∀ y ∈ left, ∃ k' c, y = Value.ref c ∧ IsTupleKey knd sh.heap k' c) _ ?_ ?_ _ _ ⟨rfl, rfl, hy⟩
  · rintro v left r s' ⟨hr, rfl, all⟩
    obtain ⟨k', c, rfl, hc⟩ := all v List.mem_cons_self
    have more : ∀ y ∈ left, ∃ k' c, y = Value.ref c ∧ IsTupleKey knd s'.heap k' c := fun u hu => all u (List.mem_cons_of_mem _ hu)
    dsimp only
    by_cases hv : (b == c || (carriedByValue (.ref b) && carriedByValue (.ref c))) = true
    · exact wp_if_pos hv (wpAny_pure ⟨rfl, rfl, more⟩)
    · refine wp_if_neg hv (wpAny_bind (wpAny_eqIsQuiet_tuple hk ?_))
      simp only [Bool.not_true, Bool.false_eq_true, if_false]
      refine wpAny_bind (wpAny_eqIsQuiet_tuple hc ?_)
      simp only [Bool.not_true, Bool.false_eq_true, if_false]
      refine wpAny_bind (cls_tup lf hk ?_)
      simp only [Bool.false_eq_true, if_false]
      refine wpAny_bind (cls_tup lf hc ?_)
      simp only [Bool.false_eq_true, if_false]
      exact wpAny_pure ⟨rfl, rfl, more⟩
  · rintro ⟨r1, r2⟩ s' ⟨hr, rfl, _⟩
    simp only at hr
    subst hr
    exact wpAny_pure h

/-- the hash of a tuple of items -/
abbrev hsh (knd : KeyKind P w κ) (k : List κ) : Int := tupleKeyHash knd k
abbrev row (knd : KeyKind P w κ) (p : Addr × List κ) : Int × Value := (hsh knd p.2, Value.ref p.1)
/-- at a stands a set of the tuples L (in the table's order) -/
structure STab (knd : KeyKind P w κ) (h : Heap) (a : Addr) (L : List (Addr × List κ)) (es : Array (Int × Value)) (ep : Nat) (t : SetTable) : Prop where
  ob : ∃ o, h.get? a = some o ∧ o.ExactSet ∧ o.data = .set es ep t
  rows : es.toList = L.map (row knd)
  tab : TabOk t (L.map fun p => hsh knd p.2)
  nd : (L.map (·.2)).Nodup
  tup : ∀ p ∈ L, IsTupleKey knd h p.2 p.1
  led : w.params.followText "set-order" = true ∨ t.led = true
  room : L.length * 5 < t.mask * 3
  few : L.length < 64
variable {a : Addr} {L : List (Addr × List κ)} {es : Array (Int × Value)} {ep : Nat} {t : SetTable}
theorem STab.size (R : STab knd sh.heap a L es ep t) : es.size = L.length := by
  rw [← Array.length_toList, R.rows, List.length_map]
theorem fits_by {n : Nat} (h1 : t.place.size = n) (h2 : t.dummies = #[]) (h3 : n ≤ t.mask) : t.fits n = true := by
  unfold SetTable.fits SetTable.fill
  rw [h2, Bool.and_eq_true, beq_iff_eq, decide_eq_true_eq]
  exact ⟨h1, by rw [h1]; exact h3⟩
theorem STab.fits (R : STab knd sh.heap a L es ep t) : t.fits es.size = true := by
  have z := R.tab.sz
  have r := R.room
  rw [List.length_map] at z
  rw [R.size]
  exact fits_by z R.tab.dm (by omega)
theorem STab.entry (R : STab knd sh.heap a L es ep t) {i : Nat} {p : Addr × List κ} (h : L[i]? = some p) : es[i]? = some (row knd p) := by
  rw [← Array.getElem?_toList, R.rows, List.getElem?_map, h]
  rfl
theorem STab.odd (R : STab knd sh.heap a L es ep t) : ¬ t.gaveWay = true := by
  unfold SetTable.gaveWay
  rw [mask_odd R.tab.mok]
  decide
abbrev pr0 (m : Nat) (h : Int) : SetTable.Probe := runAt m (SetTable.bits h % (m + 1)) (SetTable.bits h)
theorem dum_none (m : Nat) : ∀ (n : Nat) (p : SetTable.Probe), p.dummy = none → (nth m p n).dummy = none
  | 0, p, h => h
  | n + 1, p, h => dum_none m n (adv m p) (by unfold adv; split <;> exact h)

/-- a new tuple is looked for, from the c-th place of its way on -/
theorem look_new (lf : Leafy knd) (R : STab knd sh.heap a L es ep t) {x : Addr} {k : List κ} (hx : IsTupleKey knd sh.heap k x) (hu : A.units < cLine) (hnew : k ∉ L.map (·.2)) {N : Nat}
    (hN : way t.mask (hsh knd k) N ∉ t.place.toList) (hB : ∀ c, c < N → way t.mask (hsh knd k) c ∈ t.place.toList) (hF : N < 10 * SetTable.turns t.mask) {Q : SetFound → Shared → Prop} (hQ : Q (.free (way t.mask (hsh knd k) N) false) sh) :
    ∀ (f c : Nat) (st : Option SetTable.Probe), st.getD (t.probeStart (hsh knd k)) = nth t.mask (pr0 t.mask (hsh knd k)) c → c ≤ N → N - c < f → wpAny (model P w) A (setSearchFrom a (.ref x) (hsh knd k) true f st) Q E sh := by
  intro f
  induction f with
  | zero => exact fun c st _ _ z => absurd z (Nat.not_lt_zero _)
  | succ f ih =>
    intro c st hst hc hf
    obtain ⟨o, ho, hex, hd⟩ := R.ob
    have step : ∀ q, nth t.mask (nth t.mask (pr0 t.mask (hsh knd k)) c) q = nth t.mask (pr0 t.mask (hsh knd k)) (c + q) := fun q => (nth_add t.mask c _ q).symm
    have stepj : ∀ q, (nth t.mask (nth t.mask (pr0 t.mask (hsh knd k)) c) q).j = way t.mask (hsh knd k) (c + q) := fun q => congrArg SetTable.Probe.j (step q)
    have two := go_spec t R.tab.ris R.tab.dm (fun i => (es[i]?.map (·.1)).getD 0) (hsh knd k) (10 * SetTable.turns t.mask) (N - c) _ (dum_none t.mask c (pr0 t.mask (hsh knd k)) rfl) (by omega)
      (fun q hq => by rw [stepj]; exact hB (c + q) (by omega)) (by rw [stepj, show c + (N - c) = N by omega]; exact hN)
    rw [setSearchFrom_succ]
    refine wpAny_bind (wpAny_setState_of ho hd R.fits ?_)
    dsimp only
    refine wp_if_neg R.odd ?_
    try refine wpAny_bind (wpAny_pure ?_)
    rcases two with ⟨q, i, hq, hi, hh, hno, hpr⟩ | ⟨hno, hpr⟩
    · have hp' : t.probe (fun i => (es[i]?.map (·.1)).getD 0) (hsh knd k) (st.getD (t.probeStart (hsh knd k))) = some (.candidate (way t.mask (hsh knd k) (c + q)) i (nth t.mask (pr0 t.mask (hsh knd k)) (c + (q + 1)))) := by
        rw [hst, ← stepj, ← step]
        exact hpr
      rw [hp']
      dsimp only
      rw [stepj] at hi
      have hil : i < L.length := by
        have h1 : i < t.place.toList.length := (List.getElem?_eq_some_iff.mp hi).1
        have h2 := R.tab.sz
        rw [List.length_map] at h2
        rw [Array.length_toList] at h1
        omega
      obtain ⟨p, hp⟩ : ∃ p, L[i]? = some p := ⟨_, List.getElem?_eq_getElem hil⟩
      have hm : p ∈ L := List.mem_of_getElem? hp
      have hne : ¬ p.2 = k := fun e => hnew (List.mem_map.mpr ⟨p, hm, e⟩)
      have go : wpAny (model P w) A (searchRest a (.ref x) (hsh knd k) true f es t (way t.mask (hsh knd k) (c + q)) i (nth t.mask (pr0 t.mask (hsh knd k)) (c + (q + 1)))) Q E sh := by
        unfold searchRest
        rw [R.entry hp]
        dsimp only
        refine wpAny_bind (wpAny_holding (wpAny_eqBool_tuple hu (R.tup p hm) hx ?_))
        refine wpAny_bind (wpAny_setState_of ho hd R.fits ?_)
        dsimp only
        refine wp_if_neg (by simp [hne]) ?_
        try refine wpAny_bind (wpAny_pure ?_)
        rw [sameMem]
        dsimp only
        have hsl : t.slot (way t.mask (hsh knd k) (c + q)) = .live i := slot_live R.tab.ris hi
        simp only [if_true, hsl, R.entry hp]
        refine wpAny_bind (wpAny_isSame_ref_self (wpAny_bind (wpAny_pure ?_)))
        simp only [if_true]
        refine wp_if_neg (by simp [hne]) ?_
        exact ih (c + (q + 1)) _ rfl (by omega) (by omega)
      by_cases hl : t.led = true
      · refine wp_if_neg (by simp [hl]) ?_
        try refine wpAny_bind (wpAny_pure ?_)
        exact go
      · refine wp_if_pos (by simp [hl]) ?_
        refine wpAny_bind (seen_no lf hx (fun y hy => ?_) ?_)
        · obtain ⟨e, he, ee⟩ := List.mem_map.mp hy
          have he1 : e ∈ es ∧ e.1 = hsh knd k := by simpa using he
          have he2 : e ∈ es.toList := by simpa using he1.1
          rw [R.rows] at he2
          obtain ⟨p2, hp2, e2⟩ := List.mem_map.mp he2
          exact ⟨p2.2, p2.1, by rw [← ee, ← e2], R.tup p2 hp2⟩
        · refine wp_if_neg (by decide) ?_
          try refine wpAny_bind (wpAny_pure ?_)
          exact go
    · have e2 : way t.mask (hsh knd k) N = (nth t.mask (nth t.mask (pr0 t.mask (hsh knd k)) c) (N - c)).j := by
        rw [stepj, show c + (N - c) = N by omega]
      have hp' : t.probe (fun i => (es[i]?.map (·.1)).getD 0) (hsh knd k) (st.getD (t.probeStart (hsh knd k))) = some (.empty (way t.mask (hsh knd k) N) none) := by
        rw [hst, e2]
        exact hpr
      rw [hp']
      dsimp only
      exact wpAny_pure hQ
theorem find_new (lf : Leafy knd) (R : STab knd sh.heap a L es ep t) {x : Addr} {k : List κ} (hx : IsTupleKey knd sh.heap k x) (hu : A.units < cLine) (hnew : k ∉ L.map (·.2)) {Q : SetFound → Shared → Prop}
    (hQ : ∀ N, way t.mask (hsh knd k) N ∉ t.place.toList → (∀ c, c < N → way t.mask (hsh knd k) c ∈ t.place.toList) → Q (.free (way t.mask (hsh knd k) N) false) sh) :
    wpAny (model P w) A (setSearch a (.ref x) (hsh knd k) true) Q E sh := by
  have hroom := R.room
  obtain ⟨N, h1, h2, h3⟩ := R.tab.first (by rw [List.length_map]; omega) (hsh knd k)
  have small : N < 100000 := by
    have : 10 * SetTable.turns t.mask ≤ 1420 := by
      unfold SetTable.turns
      rcases R.tab.mok with e | e | e <;> omega
    omega
  unfold setSearch
  exact look_new lf R hx hu hnew h2 h3 h1 (hQ N h2 h3) 100000 0 none rfl (Nat.zero_le _) (by omega)

theorem key_same {h h' : Heap} {k : List κ} {a b : Addr} {o : Obj} {es : Array (Int × Value)} {ep : Nat} {t : SetTable} (hb : IsTupleKey knd h k b) (ho : h.get? a = some o) (hd : o.data = .set es ep t) (hs : Heap.SameBut a h h') : IsTupleKey knd h' k b := by
  obtain ⟨o', items, n, ho', hc, hd', hi⟩ := hb
  have hne : b ≠ a := fun z => by
    rw [z, ho] at ho'
    rw [← Option.some.inj ho', hd] at hd'
    exact nomatch hd'
  exact ⟨o', items, n, (hs.2 b hne).trans ho', hc, hd', hi⟩
theorem key_keep {h h' : Heap} {k : List κ} {b : Addr} (hb : IsTupleKey knd h k b) (hk : ∀ c o, h.get? c = some o → h'.get? c = some o) : IsTupleKey knd h' k b :=
  let ⟨o, items, n, ho, r⟩ := hb
  ⟨o, items, n, hk b o ho, r⟩
theorem mid_perm {α : Type} (l : List α) (p : Nat) (x : α) : (l.take p ++ x :: l.drop p).Perm (x :: l) := by
  have := List.perm_middle (a := x) (l₁ := l.take p) (l₂ := l.drop p)
  rwa [List.take_append_drop] at this
/-- the rows in another order -/
theorem reorder (L : List (Addr × List κ)) (es : Array (Int × Value)) (order : Array Nat) (hr : es.toList = L.map (row knd)) (hp : order.toList.Perm (List.range L.length)) :
    ∃ L2 : List (Addr × List κ), (order.filterMap (es[·]?)).toList = L2.map (row knd) ∧ L2.Perm L ∧ (L2.map fun p => hsh knd p.2) = order.toList.map fun i => (es.map (·.1)).getD i 0 := by
  have ent : ∀ i, es[i]? = L[i]?.map (row knd) := fun i => by rw [← Array.getElem?_toList, hr, List.getElem?_map]
  have key : ∀ l : List Nat, (∀ i ∈ l, i < L.length) → l.filterMap (fun i => es[i]?) = (l.filterMap fun i => L[i]?).map (row knd) ∧ ((l.filterMap fun i => L[i]?).map fun p => hsh knd p.2) = l.map fun i => (es.map (·.1)).getD i 0 := by
    intro l
    induction l with
    | nil => exact fun _ => ⟨rfl, rfl⟩
    | cons i l ih =>
      intro hl
      have hi := hl i List.mem_cons_self
      obtain ⟨e1, e2⟩ := ih fun j hj => hl j (List.mem_cons_of_mem _ hj)
      have eL : L[i]? = some L[i] := List.getElem?_eq_getElem hi
      have eE : es[i]? = some (row knd L[i]) := by rw [ent, eL]; rfl
      refine ⟨?_, ?_⟩
      · rw [List.filterMap_cons_some eE, List.filterMap_cons_some eL, List.map_cons, e1]
      · rw [List.filterMap_cons_some eL, List.map_cons, List.map_cons, e2]
        have q : (es.map (·.1)).getD i 0 = hsh knd (L[i]).2 := by
          rw [Array.getD_eq_getD_getElem?, Array.getElem?_map, eE]
          rfl
        rw [q]
  obtain ⟨e1, e2⟩ := key order.toList fun i hi => List.mem_range.mp (hp.mem_iff.mp hi)
  refine ⟨order.toList.filterMap fun i => L[i]?, by rw [Array.toList_filterMap]; exact e1, ?_, e2⟩
  have all : ∀ n, n ≤ L.length → (List.range n).filterMap (fun i => L[i]?) = L.take n := by
    intro n
    induction n with
    | zero => exact fun _ => rfl
    | succ n ih =>
      intro hn
      rw [List.range_succ, List.filterMap_append, ih (Nat.le_of_lt hn), List.take_succ, List.filterMap_cons_some (List.getElem?_eq_getElem hn), List.getElem?_eq_getElem hn]
      rfl
  have := hp.filterMap fun i => L[i]?
  rwa [all L.length (Nat.le_refl _), List.take_length] at this
/-- the table made larger -/
theorem grow {o : Obj} (ho : sh.heap.get? a = some o) (hex : o.ExactSet) (hd : o.data = .set es ep t) (hrows : es.toList = L.map (row knd)) (hsz : t.place.size = es.size) (hdm : t.dummies = #[]) (hfl : es.size ≤ t.mask)
    (nd : (L.map (·.2)).Nodup) (tup : ∀ p ∈ L, IsTupleKey knd sh.heap p.2 p.1) (ld : w.params.followText "set-order" = true ∨ t.led = true) (few : L.length < 64) {wanted M : Nat}
    (hw : SetTable.sizeAbove wanted - 1 = M) (hM : MaskOk M) (hw2 : SetTable.sizeAbove wanted ≤ 128) (hn : L.length * 5 < M * 3) {Q : Unit → Shared → Prop}
    (hQ : ∀ h' L' es' ep' t', Heap.SameBut a sh.heap h' → STab knd h' a L' es' ep' t' → L'.Perm L → Q () { sh with heap := h' }) : wpAny (model P w) A (setRelay a wanted) Q E sh := by
  have hsl : es.size = L.length := by rw [← Array.length_toList, hrows, List.length_map]
  obtain ⟨t', order, e, hp, T, em, el, _, ed⟩ := relaid_ok t (hs := es.map (·.1)) (wanted := wanted) hw hM (by rw [Array.size_map, hsl]; omega)
  rw [Array.size_map, hsl] at hp
  obtain ⟨L2, r1, r2, r3⟩ := reorder L es order hrows hp
  rw [← r3] at T
  have hs2 : (order.filterMap (es[·]?)).size = es.size := by rw [← Array.length_toList, r1, List.length_map, r2.length_eq, hsl]
  rw [setRelay_eq]
  refine wpAny_bind (wpAny_setState_of ho hd (fits_by hsz hdm hfl) ?_)
  dsimp only
  refine wp_if_neg (by rw [sizeLine_eq]; omega) ?_
  try refine wpAny_bind (wpAny_pure ?_)
  rw [e]
  dsimp only
  refine wpAny_bind ?_
  refine wp_if_neg (by rw [hs2]; simp) ?_
  try refine wpAny_bind (wpAny_pure ?_)
  refine wpAny_pure ?_
  dsimp only
  refine wpAny_storeSet_of ho hd ?_ (by rw [hs2, hsl, sizeLine_eq]; omega)
  have sb : Heap.SameBut a sh.heap (sh.heap.update a (Obj.putSet (order.filterMap (es[·]?)) t')) := Heap.SameBut.update ..
  exact hQ _ L2 (order.filterMap (es[·]?)) (ep + 1) t' sb ⟨⟨_, store_at ho hd, ⟨hex.1, hex.2.1, hex.2.2⟩, rfl⟩, r1, T, (r2.map (·.2)).nodup_iff.mpr nd, fun p hpm => key_same (tup p (r2.mem_iff.mp hpm)) ho hd sb, by rw [el]; exact ld, by rw [r2.length_eq, em]; exact hn, by rw [r2.length_eq]; exact few⟩ r2
theorem tab_plain {t : SetTable} {hs : List Int} (T : TabOk t hs) (b : Bool) : TabOk { t with plain := b } hs := ⟨T.ris, T.dm, T.sz, T.mok, T.bd, T.reach⟩
/-- a new tuple is added -/
theorem add_new (lf : Leafy knd) (R : STab knd sh.heap a L es ep t) {x : Addr} {k : List κ} (hx : IsTupleKey knd sh.heap k x) (hu : A.units < cLine) (hnew : k ∉ L.map (·.2)) (hfew : L.length + 1 < 64) {Q : Bool → Shared → Prop}
    (hQ : ∀ h' L' es' ep' t', Heap.SameBut a sh.heap h' → STab knd h' a L' es' ep' t' → L'.Perm ((x, k) :: L) → Q true { sh with heap := h' }) :
    wpAny (model P w) A (setAddHashed a (.ref x) (hsh knd k)) Q E sh := by
  obtain ⟨o, ho, hex, hd⟩ := R.ob
  have hsl := R.size
  have hroom := R.room
  unfold setAddHashed
  refine wpAny_holding ?_
  rw [show (100000 : Nat) = 99999 + 1 from rfl, setAddHashedIn_succ]
  refine wpAny_bind (wpAny_setState_of ho hd R.fits ?_)
  dsimp only
  refine wp_if_neg (by simp [byScan, Value.scannable]) ?_
  try refine wpAny_bind (wpAny_pure ?_)
  refine wpAny_bind (find_new lf R hx hu hnew fun N hN hB => ?_)
  dsimp only
  refine wpAny_bind (wpAny_setState_of ho hd R.fits ?_)
  dsimp only
  obtain ⟨q1, q2, q3, q4, q5, _, _, _, q9⟩ := R.tab.put hN hB
  generalize hpt : t.put (way t.mask (hsh knd k) N) = pt at q1 q3 q4 q5 q9 ⊢
  obtain ⟨t1, p⟩ := pt
  dsimp only at q1 q3 q4 q5 q9 ⊢
  subst q1
  -- behind the question whether the item hashes by value: some table t2, t1 up to that flag
  suffices fin : ∀ c : Bool, wpAny (model P w) A (do
      storeSet a (SetTable.insertAt es (SetTable.below t.place (way t.mask (hsh knd k) N)) (hsh knd k, Value.ref x)) (if c = true then t1 else { t1 with plain := false })
      if (!false && (if c = true then t1 else { t1 with plain := false }).tooFull) = true then setRelay a (SetTable.grown (es.size + 1))
      pure true) Q E sh by
    by_cases hp1 : t1.plain = true
    · first
        | (refine wpAny_bind ?_; refine wp_if_pos hp1 ?_; exact byv_tup lf hx fun c => fin c)
        | exact wp_if_pos hp1 (wpAny_bind (byv_tup lf hx fun c => fin c))
    · first
        | (refine wpAny_bind ?_; refine wp_if_neg hp1 ?_; exact wpAny_pure (fin true))
        | exact wp_if_neg hp1 (wpAny_bind (wpAny_pure (fin true)))
        | exact wp_if_neg hp1 (fin true)
  intro c
  have T2 : ∃ t2, (if c = true then t1 else { t1 with plain := false }) = t2 ∧ TabOk t2 ((L.map fun p => hsh knd p.2).take (SetTable.below t.place (way t.mask (hsh knd k) N)) ++ hsh knd k :: (L.map fun p => hsh knd p.2).drop (SetTable.below t.place (way t.mask (hsh knd k) N))) ∧ t2.mask = t.mask ∧ t2.led = t.led ∧ t2.fill = L.length + 1 := by
    rw [List.length_map] at q9
    cases c with
    | true => exact ⟨t1, rfl, q3, q4, q5, q9⟩
    | false => exact ⟨_, rfl, tab_plain q3 false, q4, q5, q9⟩
  obtain ⟨t2, et, q3', m2, l2, f2⟩ := T2
  rw [et]
  generalize hpp : SetTable.below t.place (way t.mask (hsh knd k) N) = p at q2 q3' ⊢
  have pm := mid_perm L p (x, k)
  have hlen : (L.take p ++ (x, k) :: L.drop p).length = L.length + 1 := pm.length_eq
  have hin : (SetTable.insertAt es p (hsh knd k, Value.ref x)).toList = (L.take p ++ (x, k) :: L.drop p).map (row knd) := by
    rw [SetTable.toList_insertAt, R.rows, List.map_append, List.map_cons, List.map_take, List.map_drop]
  have hhs : (L.take p ++ (x, k) :: L.drop p).map (fun p => hsh knd p.2) = (L.map fun p => hsh knd p.2).take p ++ hsh knd k :: (L.map fun p => hsh knd p.2).drop p := by
    rw [List.map_append, List.map_cons, List.map_take, List.map_drop]
  rw [← hhs] at q3'
  have nd1 : ((L.take p ++ (x, k) :: L.drop p).map (·.2)).Nodup := by
    refine (pm.map (·.2)).nodup_iff.mpr ?_
    rw [List.map_cons]
    exact List.nodup_cons.mpr ⟨hnew, R.nd⟩
  have hes : (SetTable.insertAt es p (hsh knd k, Value.ref x)).size = L.length + 1 := by rw [← Array.length_toList, hin, List.length_map, hlen]
  generalize SetTable.insertAt es p (hsh knd k, Value.ref x) = es1 at hin hes ⊢
  generalize L.take p ++ (x, k) :: L.drop p = L1 at pm hlen q3' nd1 hin
  refine wpAny_bind (wpAny_storeSet_of ho hd ?_ (by rw [hes, sizeLine_eq]; omega))
  have sb : Heap.SameBut a sh.heap (sh.heap.update a (Obj.putSet es1 t2)) := Heap.SameBut.update ..
  have ho1 := store_at (es' := es1) (t' := t2) ho hd
  generalize sh.heap.update a (Obj.putSet es1 t2) = h1 at sb ho1 ⊢
  have tup1 : ∀ p ∈ L1, IsTupleKey knd h1 p.2 p.1 := fun p hp => by
    rcases List.mem_cons.mp (pm.mem_iff.mp hp) with e | hp
    · rw [e]; exact key_same hx ho hd sb
    · exact key_same (R.tup p hp) ho hd sb
  have ld1 : w.params.followText "set-order" = true ∨ t2.led = true := by rw [l2]; exact R.led
  by_cases hf : t2.tooFull = true
  · have full : (L.length + 1) * 5 ≥ t2.mask * 3 := by
      have h := hf
      unfold SetTable.tooFull at h
      rw [decide_eq_true_eq, f2] at h
      exact h
    rw [hsl]
    have hsz1 : t2.place.size = es1.size := by
      have h := q3'.sz
      rw [List.length_map, hlen] at h
      rw [h, hes]
    have which : (t.mask = 7 ∧ L.length = 4) ∨ (t.mask = 31 ∧ L.length = 18) := by
      rcases R.tab.mok with e | e | e
      · left; rw [m2, e] at full; rw [e] at hroom; exact ⟨e, by omega⟩
      · right; rw [m2, e] at full; rw [e] at hroom; exact ⟨e, by omega⟩
      · exfalso; rw [m2, e] at full; omega
    have go : ∀ M, SetTable.sizeAbove (SetTable.grown (L.length + 1)) - 1 = M → MaskOk M → SetTable.sizeAbove (SetTable.grown (L.length + 1)) ≤ 128 → (L.length + 1) * 5 < M * 3 →
        wpAny (model P w) A (setRelay a (SetTable.grown (L.length + 1))) (fun _ s' => wpAny (model P w) A (pure true) Q E s') E { sh with heap := h1 } := fun M g1 g2 g3 g4 => by
      refine grow (sh := { sh with heap := h1 }) ho1 ⟨hex.1, hex.2.1, hex.2.2⟩ rfl hin hsz1 q3'.dm (by rw [hes, m2]; rcases which with ⟨e, e2⟩ | ⟨e, e2⟩ <;> omega) nd1 tup1 ld1 (by rw [hlen]; exact hfew) g1 g2 g3 (by rw [hlen]; exact g4) ?_
      intro h2 L2 es2 ep2 t3 sb2 R2 pm2
      exact wpAny_pure (hQ h2 L2 es2 ep2 t3 (sb.trans sb2) R2 (pm2.trans pm))
    have both : wpAny (model P w) A (setRelay a (SetTable.grown (L.length + 1))) (fun _ s' => wpAny (model P w) A (pure true) Q E s') E { sh with heap := h1 } := by
      rcases which with ⟨_, e2⟩ | ⟨_, e2⟩
      · exact go 31 (by rw [e2, size_20]) (.inr (.inl rfl)) (by rw [e2, size_20]; decide) (by omega)
      · exact go 127 (by rw [e2, size_76]) (.inr (.inr rfl)) (by rw [e2, size_76]; decide) (by omega)
    first
      | exact wp_if_pos (by simp [hf]) (wpAny_bind both)
      | (refine wpAny_bind ?_; exact wp_if_pos (by simp [hf]) both)
  · have fin2 : wpAny (model P w) A (pure true) Q E { sh with heap := h1 } := by
      refine wpAny_pure (hQ h1 L1 es1 (ep + 1) t2 sb ⟨⟨_, ho1, ⟨hex.1, hex.2.1, hex.2.2⟩, rfl⟩, hin, q3', nd1, tup1, ld1, ?_, by rw [hlen]; exact hfew⟩ pm)
      have h := hf
      unfold SetTable.tooFull at h
      rw [decide_eq_true_eq, f2] at h
      rw [hlen]
      omega
    first
      | exact wp_if_neg (by simp [hf]) fin2
      | (refine wpAny_bind ?_; exact wp_if_neg (by simp [hf]) (wpAny_pure fin2))
end
end Px

set_option maxRecDepth 100000
set_option maxHeartbeats 4000000
/-! PxC: set(x), len(set(x)): the call, over anything that is walked. -/
namespace Px
open PySem PySem.Spec PyProof.Rows L2

section
variable {P : Program} {w : World} {A : Around} {E : Value → Shared → Prop} {sh : Shared}
/-- a set as it is made -/
abbrev setNew (w : World) : Obj := { cls := .type "set", dict := none, data := .set #[] 0 (.fresh 0 0 (!w.params.followText "set-order")) }
/-- set.update's loop: Sv tells the set's state by the turn -/
theorem set_fill {I : Addr} {fp wr : List Addr} {G : Array GenState → Array GenState → Prop} {n : Nat} {Pv : Nat → Value → Prop} {St : Nat → Shared → Prop} {R : Result → Shared → Prop}
    (W : WalksS P w A.in1 I fp wr G n Pv St) (S : Addr) (hSf : S ∉ fp) (Sv : Nat → Heap → Prop)
    (hkeep : ∀ i h h', Sv i h → (∀ b o, b ∉ wr → h.get? b = some o → h'.get? b = some o) → Sv i h')
    (hadd : ∀ i v (s : Shared) (Q : Bool → Shared → Prop), i < n → Pv i v → Sv i s.heap → (∀ b h' tk, Heap.SameBut S s.heap h' → s.toks ≤ tk → Sv (i + 1) h' → Q b { s with heap := h', toks := tk }) →
      wpAny (model P w) A.in1 (setAdd S v) Q (fun e s' => R (.error e) s') s) :
    ∀ (k i : Nat) (s : Shared), n - i = k → i ≤ n → St i s → Sv i s.heap → (∀ s', Moved (S :: wr) G s s' → Sv n s'.heap → R (.ok (.ret .none)) s') →
      codeAny (model P w) A (.builtin "set.update.loop" ⟨[.ref S, .ref I], []⟩) R s := by
  have sub1 : ∀ b ∈ wr, b ∈ S :: wr := fun b hb => List.mem_cons_of_mem _ hb
  intro k
  induction k with
  | zero =>
    intro i s hk hi hst hS hR
    obtain rfl : i = n := by omega
    refine codeAny_builtin F.entry_set_update_loop ?_
    rw [Around.under_plainId F.plain_set_update_loop _]
    show wpAny _ A.in1 (pyNext (.ref I) >>= _) _ _ s
    refine wpAny_bind (W.done s _ _ hst fun s' hm => ?_)
    exact wpAny_pure (hR s' (hm.mono sub1) (hkeep _ _ _ hS hm.heap))
  | succ k ih =>
    intro i s hk hi hst hS hR
    have hlt : i < n := by omega
    refine codeAny_builtin F.entry_set_update_loop ?_
    rw [Around.under_plainId F.plain_set_update_loop _]
    show wpAny _ A.in1 (pyNext (.ref I) >>= _) _ _ s
    refine wpAny_bind (W.item i s _ _ hlt hst fun v s' hP hst' hm => ?_)
    show wpAny _ A.in1 (holding [v] (setAdd S v) >>= _) _ _ s'
    refine wpAny_bind (wpAny_holding (hadd i v s' _ hlt hP (hkeep _ _ _ hS hm.heap) fun b h' tk hsb htk hS2 => ?_))
    refine wpAny_pure ⟨plainId_quiet F.plain_set_update_loop _, ih (i + 1) _ (by omega) hlt (W.frame _ s' _ _ hst' htk fun b hb o e => ?_) hS2 fun s'' hm'' hS'' => ?_⟩
    · rw [hsb.2 b (fun z : b = S => hSf (by rw [← z]; exact hb))]; exact e
    · refine hR s'' (Moved.trans W.gtrans ((hm.mono sub1).then_heap htk fun b o hb e => ?_) hm'') hS''
      rw [hsb.2 b (fun z : b = S => hb (by rw [z]; exact List.mem_cons_self))]; exact e

/-- set(src): src of the built-in type T is walked by an iterator I; n items, the set's state by the turn is told by Sv -/
theorem set_call {src : Value} {T : String} {n : Nat} (Sv : Nat → Heap → Prop)
    (hsls : isSubtype (.type T) (.type "set") = pure false) (hslf : isSubtype (.type T) (.type "frozenset") = pure false) (hne : (Value.type T == Value.type "dict") = false)
    (hT : ∀ h : Heap, (∀ b o, sh.heap.get? b = some o → h.get? b = some o) → Shared.TypeIs { sh with heap := h } src T)
    (hit : ∀ (A' : Around) (Q : Value → Shared → Prop) (E' : Value → Shared → Prop), A'.handled = none → A'.units ≤ A.units + 2 →
      (∀ (o : Obj) (fp : List Addr) (Pv : Nat → Value → Prop) (St : Nat → Heap → Prop), Walks P w A'.in1 (sh.heap.objs.size + 1) fp [sh.heap.objs.size + 1] n Pv St → sh.heap.objs.size ∉ fp → St 0 ((sh.heap.push (setNew w)).push o) →
        (∀ i v (s : Shared) (Q : Bool → Shared → Prop) (E'' : Value → Shared → Prop), i < n → Pv i v → Sv i s.heap → (∀ b h' tk, Heap.SameBut sh.heap.objs.size s.heap h' → s.toks ≤ tk → Sv (i + 1) h' → Q b { s with heap := h', toks := tk }) →
          wpAny (model P w) A'.in1 (setAdd sh.heap.objs.size v) Q E'' s) →
        Q (.ref (sh.heap.objs.size + 1)) { sh with heap := (sh.heap.push (setNew w)).push o }) →
      wpAny (model P w) A' (pyIter src) Q E' { sh with heap := sh.heap.push (setNew w) })
    (hkeep : ∀ i h h', Sv i h → (∀ b o, b ∉ [sh.heap.objs.size + 1] → h.get? b = some o → h'.get? b = some o) → Sv i h')
    (h0 : ∀ o, Sv 0 ((sh.heap.push (setNew w)).push o)) {Q : Value → Shared → Prop} (hh : A.handled = none)
    (hQ : ∀ (h' : Heap) (tk : Nat), Sv n h' → (∀ b o, sh.heap.get? b = some o → h'.get? b = some o) → Q (.ref sh.heap.objs.size) { sh with heap := h', toks := tk }) :
    wpAny (model P w) A (call (.type "set") [src]) Q E sh := by
  obtain ⟨c, tl, hmro⟩ := F.called_set.mro
  have hmade := F.called_set.made
  have hsub := F.called_set.sub
  refine wpAny_call (codeAny_of_tree ?_)
  show wpAny _ _ (callAny (.type "set") _) _ _ _
  refine wpAny_pure ⟨Code.quiet_builtin _ (by decide +kernel), codeAny_builtin F.entry_type_call ?_⟩
  rw [Around.under_plain (weight_type_call_type "set" [src] []) rfl]
  have h1 := F.called_set.notType
  have h2 := F.called_set.canCreate
  have hct := F.typeCall_set_1 src
  repeat (any_goals (first | assumption | wp_step))
  refine codeAny_mono (code_set_led1 src (E := E) (Q₁ := fun obj s₁ => obj = .ref sh.heap.objs.size ∧ s₁ = { sh with heap := sh.heap.push (setNew w) }) ⟨rfl, rfl⟩) fun r s₁ hr => ?_
  cases r with
  | error e => exact hr
  | ok fl =>
    cases fl with
    | ret obj =>
      obtain ⟨rfl, rfl⟩ := hr
      have hS : (sh.heap.push (setNew w)).get? sh.heap.objs.size = some (setNew w) := Heap.get?_push_size _ rfl
      have hTS : Shared.TypeIs { sh with heap := sh.heap.push (setNew w) } (.ref sh.heap.objs.size) "set" := ⟨_, hS, rfl⟩
      have hli := F.called_set.init.lookup
      have hbi := F.called_set.init.bind (.ref sh.heap.objs.size)
      repeat (any_goals (first | assumption | wp_step))
      refine codeAny_mono (codeAny_call_builtin (R := wants (fun r s₂ => r = .none ∧ ∃ h' tk, s₂ = { sh with heap := h', toks := tk } ∧ Sv n h' ∧ (∀ b o, sh.heap.get? b = some o → h'.get? b = some o)) E)
        F.called_set.init.plain F.entry_set_init (check_set_init_1 hTS ?_)) fun r₂ s₂ hr₂ => ?_
      · have hTs := hT (sh.heap.push (setNew w)) fun b o e => Heap.get?_push_of_some _ e
        unfold Builtin.«set.__init__» noKeywords Builtin.Frozenset.updateFrom
        generalize hPI : pyIter = PI
        wp_walk
        subst hPI
        have hh3 : A.in1.in1.handled = none := by simp [hh]
        refine hit _ _ _ hh3 (by show A.units + 1 + 1 ≤ A.units + 2; omega) fun o fp Pv St W hSf hst hadd => ?_
        refine wpAny_bind (wpAny_runValue ?_)
        have old : ∀ (s' : Shared), Moved [sh.heap.objs.size, sh.heap.objs.size + 1] (fun a b => b = a) { sh with heap := (sh.heap.push (setNew w)).push o } s' → ∀ b u, sh.heap.get? b = some u → s'.heap.get? b = some u := fun s' hm b u e => by
          have hb0 : b < sh.heap.objs.size := Heap.lt_size e
          refine hm.heap b u ?_ (Heap.get?_push_of_some _ (Heap.get?_push_of_some _ e))
          simp only [List.mem_cons, List.not_mem_nil, or_false, not_or]
          exact ⟨Nat.ne_of_lt hb0, Nat.ne_of_lt (Nat.lt_succ_of_lt hb0)⟩
        refine set_fill W.toS sh.heap.objs.size hSf Sv hkeep (fun i v s Q hi hp hs hq => hadd i v s Q _ hi hp hs hq) n 0 _ (by omega) (Nat.zero_le _) hst (h0 o) fun s' hm hS' => ?_
        obtain ⟨h', g2, d', tk', os'⟩ := s'
        have eg : g2 = sh.gens := hm.gens
        have ed : d' = sh.drawn := hm.drawn
        have eo : os' = sh.os := hm.os
        have kp := old _ hm
        subst eg; subst ed; subst eo
        show wpAny _ _ _ _ _ _
        refine wpAny_pure ?_
        show wpAny _ _ (ret Value.none) _ _ _
        exact wpAny_pure ⟨rfl, h', tk', rfl, hS', kp⟩
      · cases r₂ with
        | error e => exact hr₂
        | ok fl₂ =>
          cases fl₂ with
          | ret r =>
            obtain ⟨rfl, h', tk, rfl, hS', hk'⟩ := hr₂
            repeat (any_goals (first | assumption | wp_step))
            exact hQ _ _ hS' hk'
          | _ => exact hr₂.elim
    | _ => exact hr.elim
end
end Px

set_option maxRecDepth 100000
set_option maxHeartbeats 4000000
/-! PxD: len(set(x)): x a list of texts, a text, a tuple of different flat tuples. -/
namespace Px
open PySem PySem.Spec PyProof.Rows L2

/-- the items, each once -/
def dstep {α : Type} [DecidableEq α] (acc : List α) (x : α) : List α := if x ∈ acc then acc else acc ++ [x]
def dd {α : Type} [DecidableEq α] (xs : List α) : List α := xs.foldl dstep []
section
variable {α : Type} [DecidableEq α]
theorem dstep_mem {acc : List α} {x y : α} : y ∈ dstep acc x ↔ y ∈ acc ∨ y = x := by
  unfold dstep
  split
  · rename_i h
    exact ⟨.inl, fun q => q.elim id fun e => e ▸ h⟩
  · rw [List.mem_append, List.mem_singleton]
theorem fold_mem : ∀ (xs acc : List α) (y : α), y ∈ xs.foldl dstep acc ↔ y ∈ acc ∨ y ∈ xs
  | [], acc, y => by simp
  | x :: xs, acc, y => by
    rw [List.foldl_cons, fold_mem xs, dstep_mem, List.mem_cons]
    constructor
    · rintro ((h | h) | h)
      · exact .inl h
      · exact .inr (.inl h)
      · exact .inr (.inr h)
    · rintro (h | h | h)
      · exact .inl (.inl h)
      · exact .inl (.inr h)
      · exact .inr h
theorem dd_mem {xs : List α} {y : α} : y ∈ dd xs ↔ y ∈ xs := by
  unfold dd
  rw [fold_mem]
  simp
theorem fold_nodup : ∀ (xs acc : List α), acc.Nodup → (xs.foldl dstep acc).Nodup
  | [], acc, h => h
  | x :: xs, acc, h => by
    refine fold_nodup xs _ ?_
    unfold dstep
    split
    · exact h
    · rename_i n
      rw [List.nodup_append]
      exact ⟨h, by simp, fun a ha b hb => by rw [List.mem_singleton.mp hb]; exact fun e => n (e ▸ ha)⟩
theorem dd_nodup (xs : List α) : (dd xs).Nodup := fold_nodup xs [] List.nodup_nil
theorem dd_snoc (xs : List α) (x : α) : dd (xs ++ [x]) = dstep (dd xs) x := by
  unfold dd
  rw [List.foldl_append]
  rfl
theorem fold_le : ∀ (xs acc : List α), (xs.foldl dstep acc).length ≤ acc.length + xs.length
  | [], acc => by simp
  | x :: xs, acc => by
    have h := fold_le xs (dstep acc x)
    have g : (dstep acc x).length ≤ acc.length + 1 := by
      unfold dstep
      split
      · omega
      · simp
    rw [List.foldl_cons, List.length_cons]
    omega
theorem dd_le (xs : List α) : (dd xs).length ≤ xs.length := by
  have := fold_le xs []
  simpa [dd] using this
theorem fold_same : ∀ (xs acc : List α), (acc ++ xs).Nodup → xs.foldl dstep acc = acc ++ xs
  | [], acc, _ => by simp
  | x :: xs, acc, h => by
    have n : x ∉ acc := fun m => by
      rw [List.nodup_append] at h
      exact h.2.2 x m x List.mem_cons_self rfl
    rw [List.foldl_cons]
    have e : dstep acc x = acc ++ [x] := by
      unfold dstep
      rw [if_neg n]
    rw [e, fold_same xs (acc ++ [x]) (by simpa using h)]
    simp
theorem dd_same {xs : List α} (h : xs.Nodup) : dd xs = xs := by
  have := fold_same xs [] (by simpa using h)
  simpa [dd] using this
end

section
variable {P : Program} {w : World} {A : Around} {E : Value → Shared → Prop} {sh : Shared}
/-- a set of n things stands at a -/
def SetN (h : Heap) (a : Addr) (n : Nat) : Prop := ∃ o es ep t, h.get? a = some o ∧ o.ExactSet ∧ o.data = .set es ep t ∧ t.fits es.size = true ∧ es.size = n
/-- a set of the first i texts -/
def SvS (P : Program) (w : World) (a : Addr) (xs : List Str) (i : Nat) (h : Heap) : Prop := h.SetOf (strKind P w) a (fun k => decide (k ∈ xs.take i)) (dd (xs.take i)).length
theorem svs_keep {a : Addr} {xs : List Str} {i : Nat} {h h' : Heap} (s : SvS P w a xs i h) (k : ∀ o, h.get? a = some o → h'.get? a = some o) : SvS P w a xs i h' :=
  let ⟨o, es, ep, t, ho, r⟩ := s
  ⟨o, es, ep, t, k o ho, r⟩
theorem svs_n {a : Addr} {xs : List Str} {h : Heap} (s : SvS P w a xs xs.length h) : SetN h a (dd xs).length := by
  obtain ⟨o, es, ep, t, ho, hx, hd, _, _, _, hf, hn⟩ := s
  rw [List.take_length] at hn
  exact ⟨o, es, ep, t, ho, hx, hd, hf, hn⟩
theorem svs_new {a : Addr} {xs : List Str} {h : Heap} (ho : h.get? a = some (setNew w)) : SvS P w a xs 0 h := by
  have q := (setObjOf_fresh (knd := strKind P w) (!w.params.followText "set-order")).setOf ho (by unfold scanBound; omega)
  have e : (fun k => decide (k ∈ xs.take 0)) = fun _ : Str => false := by funext k; simp
  unfold SvS
  rw [e]
  exact q
theorem svs_add {a : Addr} {xs : List Str} {i : Nat} {x : Str} {t : Tok} (hx : xs[i]? = some x) (hs : SvS P w a xs i sh.heap) (hz : xs.length + 1 < scanBound) {Q : Bool → Shared → Prop}
    (hQ : ∀ b h' tk, Heap.SameBut a sh.heap h' → sh.toks ≤ tk → SvS P w a xs (i + 1) h' → Q b { sh with heap := h', toks := tk }) : wpAny (model P w) A (setAdd a (.str x t)) Q E sh := by
  have hi : i < xs.length := (List.getElem?_eq_some_iff.mp hx).1
  have ht : xs.take (i + 1) = xs.take i ++ [x] := by rw [List.take_succ, hx]; rfl
  have hl : (dd (xs.take i)).length + 1 < scanBound := by
    have h1 := dd_le (xs.take i)
    have h2 := List.length_take_le i xs
    omega
  unfold setAdd
  refine wpAny_holding (wpAny_bind ((strKind P w).pyHash (k := x) (strKind_is P w x t) ?_))
  refine wpAny_setAddHashed_of (knd := strKind P w) (s := { sh with toks := sh.toks + 1 }) (strKind_is P w x t) rfl hs hl fun h' hsb hS2 => ?_
  refine hQ _ h' (sh.toks + 1) hsb (Nat.le_succ _) ?_
  unfold SvS
  have e1 : (fun k => decide (k ∈ xs.take (i + 1))) = fun k : Str => (decide (k ∈ xs.take i) || decide (k = x)) := by
    funext k
    rw [ht]
    simp [List.mem_append]
  have e2 : (dd (xs.take (i + 1))).length = if decide (x ∈ xs.take i) = true then (dd (xs.take i)).length else (dd (xs.take i)).length + 1 := by
    rw [ht, dd_snoc]
    unfold dstep
    by_cases m : x ∈ xs.take i
    · rw [if_pos (dd_mem.mpr m), if_pos (decide_eq_true m)]
    · rw [if_neg (fun z => m (dd_mem.mp z)), if_neg (by simpa using m)]
      simp
  rw [e1, e2]
  exact hS2
theorem old_ne {h : Heap} {b : Addr} {o : Obj} (e : h.get? b = some o) : b ≠ h.objs.size ∧ b ≠ h.objs.size + 1 := by
  have := Heap.lt_size e
  exact ⟨Nat.ne_of_lt this, Nat.ne_of_lt (Nat.lt_succ_of_lt this)⟩
theorem get_two {h : Heap} (o : Obj) : ((h.push (setNew w)).push o).get? h.objs.size = some (setNew w) := Heap.get?_push_of_some _ (Heap.get?_push_size _ rfl)
theorem size_one {h : Heap} : (h.push (setNew w)).objs.size = h.objs.size + 1 := Heap.size_push ..
/-- set(xs), xs a list of texts -/
theorem set_listS {l : Addr} {its : List Value} {xs : List Str} (hl : sh.heap.IsList l its.toArray) (hv : Vals (xs.map V.str) its) (hz : xs.length + 1 < scanBound) (hh : A.handled = none) {Q : Value → Shared → Prop}
    (hQ : ∀ (h' : Heap) (tk : Nat), SetN h' sh.heap.objs.size (dd xs).length → (∀ b o, sh.heap.get? b = some o → h'.get? b = some o) → Q (.ref sh.heap.objs.size) { sh with heap := h', toks := tk }) :
    wpAny (model P w) A (call (.type "set") [.ref l]) Q E sh := by
  obtain ⟨ol, hol, hcl, nl, hdl⟩ := id hl
  have hlt := old_ne hol
  have hn : its.toArray.size = xs.length := by rw [List.size_toArray, ← hv.length, List.length_map]
  refine set_call (src := .ref l) (T := "list") (n := xs.length) (SvS P w sh.heap.objs.size xs) F.sub_list_set F.sub_list_frozenset (by decide) (fun h k => ⟨ol, k _ _ hol, hcl⟩) ?_ (fun i h h' s k => svs_keep s fun o e => k _ o (by simp) e) (fun o => svs_new (get_two o)) hh fun h' tk s k => hQ h' tk (svs_n s) k
  intro A' Q' E' hA hAu hc
  have hl1 : (sh.heap.push (setNew w)).IsList l its.toArray := ⟨ol, Heap.get?_push_of_some _ hol, hcl, nl, hdl⟩
  refine wpAny_pyIter_list hl1 ?_
  show Q' (.ref (sh.heap.push (setNew w)).objs.size) _
  rw [size_one]
  have W := Walks.list (prog := P) (w := w) (A := A'.in1) (by simpa using hA) (sh.heap.objs.size + 1) l hlt.2 its.toArray
  rw [hn] at W
  refine hc _ _ _ _ W ?_ ⟨⟨_, by rw [← size_one (w := w)]; exact Heap.get?_push_size _ rfl, rfl, rfl⟩, hl1.push _⟩ fun i v s Q2 E2 hi hp hs hq => ?_
  · simp only [List.mem_cons, List.not_mem_nil, or_false, not_or]
    exact ⟨Nat.ne_of_lt (Nat.lt_succ_self _), hlt.1.symm⟩
  · have hx : xs[i]? = some xs[i] := List.getElem?_eq_getElem hi
    obtain ⟨u, hu, ru⟩ := hv.get (i := i) (x := .str xs[i]) (by rw [List.getElem?_map, hx]; rfl)
    have hp' : its.toArray[i]? = some v := hp
    rw [List.getElem?_toArray, hu] at hp'
    cases hp'
    obtain ⟨t, rfl⟩ := ru
    exact svs_add hx hs hz hq
/-- set(z), z a text -/
theorem set_text {z : Str} {tz : Tok} (hz : z.cps.size + 1 < scanBound) (hh : A.handled = none) {Q : Value → Shared → Prop}
    (hQ : ∀ (h' : Heap) (tk : Nat), SetN h' sh.heap.objs.size (dd z.cps.toList).length → (∀ b o, sh.heap.get? b = some o → h'.get? b = some o) → Q (.ref sh.heap.objs.size) { sh with heap := h', toks := tk }) :
    wpAny (model P w) A (call (.type "set") [.str z tz]) Q E sh := by
  have hn : (z.cps.toList.map fun c => (⟨#[c]⟩ : Str)).length = z.cps.size := by rw [List.length_map, Array.length_toList]
  have hd : (dd (z.cps.toList.map fun c => (⟨#[c]⟩ : Str))).length = (dd z.cps.toList).length := by
    have key : ∀ (xs acc : List Nat), (xs.map fun c => (⟨#[c]⟩ : Str)).foldl dstep (acc.map fun c => (⟨#[c]⟩ : Str)) = (xs.foldl dstep acc).map fun c => (⟨#[c]⟩ : Str) := by
      intro xs
      induction xs with
      | nil => exact fun acc => rfl
      | cons x xs ih =>
        intro acc
        rw [List.map_cons, List.foldl_cons, List.foldl_cons, ← ih]
        have e : dstep (acc.map fun c => (⟨#[c]⟩ : Str)) ⟨#[x]⟩ = (dstep acc x).map fun c => (⟨#[c]⟩ : Str) := by
          have m : (⟨#[x]⟩ : Str) ∈ acc.map (fun c => (⟨#[c]⟩ : Str)) ↔ x ∈ acc := by
            rw [List.mem_map]
            constructor
            · rintro ⟨c, hc, e⟩
              have : c = x := by
                injection e with e
                simpa using e
              exact this ▸ hc
            · exact fun h => ⟨x, h, rfl⟩
          unfold dstep
          by_cases q : x ∈ acc
          · rw [if_pos q, if_pos (m.mpr q)]
          · rw [if_neg q, if_neg (fun h => q (m.mp h)), List.map_append]
            rfl
        rw [e]
    have := key z.cps.toList []
    unfold dd
    rw [show ([] : List Str) = ([] : List Nat).map (fun c => (⟨#[c]⟩ : Str)) from rfl, this, List.length_map]
  refine set_call (src := .str z tz) (T := "str") (n := z.cps.size) (SvS P w sh.heap.objs.size (z.cps.toList.map fun c => (⟨#[c]⟩ : Str))) PySem.F.sub_str_set PySem.F.sub_str_frozenset (by decide) (fun h k => typeIs_str _ _ _) ?_ (fun i h h' s k => svs_keep s fun o e => k _ o (by simp) e) (fun o => svs_new (get_two o)) hh fun h' tk s k => hQ h' tk (by
    rw [← hd]
    rw [← hn] at s
    exact svs_n s) k
  intro A' Q' E' hA hAu hc
  refine wpAny_pyIter_str fun o St hW hst => ?_
  have W := hW A'.in1 (by simpa using hA)
  show Q' (.ref (sh.heap.push (setNew w)).objs.size) _
  rw [size_one] at W ⊢
  refine hc o _ _ _ W ?_ hst fun i v s Q2 E2 hi hp hs hq => ?_
  · simp only [List.mem_cons, List.not_mem_nil, or_false]
    exact Nat.ne_of_lt (Nat.lt_succ_self _)
  · obtain ⟨c, u, hcx, rfl⟩ := hp
    refine svs_add ?_ hs (by rw [hn]; exact hz) hq
    rw [List.getElem?_map, Array.getElem?_toList, hcx]
    rfl
/-! ### tuples of flat tuples -/
theorem leafy (P : Program) (w : World) : Leafy (leafKind P w) where
  cls := fun n k v h => by
    have h : Leaf.isOf k v = true := h
    cases k with
    | none => cases (show NestedIs default NestedKey.none v from Leaf.nested h); cases n <;> rfl
    | num i => cases (show NestedIs default (NestedKey.num i) v from Leaf.nested h) <;> (cases n <;> rfl)
    | text x => cases (show NestedIs default (NestedKey.text x) v from Leaf.nested h); cases n <;> rfl
  byv := fun n k v h => by
    have h : Leaf.isOf k v = true := h
    cases k with
    | none => cases (show NestedIs default NestedKey.none v from Leaf.nested h); cases n <;> exact ⟨_, rfl⟩
    | num i => cases (show NestedIs default (NestedKey.num i) v from Leaf.nested h) <;> (cases n <;> exact ⟨_, rfl⟩)
    | text x => cases (show NestedIs default (NestedKey.text x) v from Leaf.nested h); cases n <;> exact ⟨_, rfl⟩
theorem stab_new {κ : Type} [DecidableEq κ] {knd : KeyKind P w κ} {h : Heap} {a : Addr} (ho : h.get? a = some (setNew w)) : STab knd h a [] #[] 0 (.fresh 0 0 (!w.params.followText "set-order")) where
  ob := ⟨_, ho, ⟨rfl, rfl, rfl⟩, rfl⟩
  rows := rfl
  tab := ⟨List.Pairwise.nil, rfl, rfl, .inl rfl, (fun x hx => nomatch hx), (fun i h j hi => by simp at hi)⟩
  nd := List.nodup_nil
  tup := fun p hp => nomatch hp
  led := by
    show _ ∨ (!w.params.followText "set-order") = true
    cases w.params.followText "set-order"
    · exact .inr rfl
    · exact .inl rfl
  room := by
    show 0 * 5 < 7 * 3
    decide
  few := by
    show 0 < 64
    decide
/-- a set of the first i tuples; the tuples stand -/
def SvT (P : Program) (w : World) (a : Addr) (ks : List (Addr × List Leaf)) (i : Nat) (h : Heap) : Prop :=
  (∃ L es ep t, STab (leafKind P w) h a L es ep t ∧ L.Perm (ks.take i)) ∧ (∀ p ∈ ks, IsTupleKey (leafKind P w) h p.2 p.1) ∧ ∀ p ∈ ks, p.1 < a
theorem svt_keep {a : Addr} {ks : List (Addr × List Leaf)} {i : Nat} {h h' : Heap} (s : SvT P w a ks i h) (k : ∀ b o, b ≤ a → h.get? b = some o → h'.get? b = some o) : SvT P w a ks i h' := by
  obtain ⟨⟨L, es, ep, t, T, pm⟩, tk, lt⟩ := s
  have keyk : ∀ (ls : List Leaf) (b : Addr), b ≤ a → IsTupleKey (leafKind P w) h ls b → IsTupleKey (leafKind P w) h' ls b := fun ls b hb ⟨o, its, n, ho, r⟩ => ⟨o, its, n, k b o hb ho, r⟩
  obtain ⟨o, ho, r⟩ := T.ob
  refine ⟨⟨L, es, ep, t, ⟨⟨o, k a o (Nat.le_refl _) ho, r⟩, T.rows, T.tab, T.nd, fun p hp => ?_, T.led, T.room, T.few⟩, pm⟩, fun p hp => keyk _ _ (Nat.le_of_lt (lt p hp)) (tk p hp), lt⟩
  have hm := List.mem_of_mem_take (pm.mem_iff.mp hp)
  exact keyk _ _ (Nat.le_of_lt (lt p hm)) (T.tup p hp)
theorem svt_add {a : Addr} {ks : List (Addr × List Leaf)} {i : Nat} {p : Addr × List Leaf} (hu : A.units < cLine) (hp : ks[i]? = some p) (hs : SvT P w a ks i sh.heap) (nd : (ks.map (·.2)).Nodup) (few : ks.length < 63) {Q : Bool → Shared → Prop}
    (hQ : ∀ b h' tk, Heap.SameBut a sh.heap h' → sh.toks ≤ tk → SvT P w a ks (i + 1) h' → Q b { sh with heap := h', toks := tk }) : wpAny (model P w) A (setAdd a (.ref p.1)) Q E sh := by
  obtain ⟨⟨L, es, ep, t, T, pm⟩, tk, lt⟩ := hs
  have hi : i < ks.length := (List.getElem?_eq_some_iff.mp hp).1
  have hm : p ∈ ks := List.mem_of_getElem? hp
  have hk := tk p hm
  have ht : ks.take (i + 1) = ks.take i ++ [p] := by rw [List.take_succ, hp]; rfl
  have new : p.2 ∉ L.map (·.2) := fun z => by
    have z2 := ((pm.map (·.2)).mem_iff).mp z
    have q := nd.sublist ((List.take_sublist (i + 1) ks).map (·.2))
    rw [ht, List.map_append, List.nodup_append] at q
    exact q.2.2 _ z2 _ (List.mem_singleton.mpr rfl) rfl
  have len : L.length ≤ i := by rw [pm.length_eq]; exact List.length_take_le i ks
  obtain ⟨o, ho, hex, hd⟩ := T.ob
  unfold setAdd
  refine wpAny_holding (wpAny_bind (wpAny_pyHash_tuple hu hk ?_))
  refine add_new (sh := { sh with toks := sh.toks + (p.2.length + 1) }) (leafy P w) T hk hu new (by omega) fun h' L' es' ep' t' sb T' pm' => ?_
  refine hQ true h' _ sb (Nat.le_add_right _ _) ⟨⟨L', es', ep', t', T', ?_⟩, fun q hq => key_same (tk q hq) ho hd sb, lt⟩
  rw [ht]
  exact pm'.trans ((pm.cons p).trans (List.perm_append_singleton p _).symm)
/-- set(t), t a tuple of different flat tuples -/
theorem set_tups {l : Addr} {its : List Value} {ks : List (Addr × List Leaf)} (hl : sh.heap.IsTuple l its.toArray) (hv : its = ks.map fun p => Value.ref p.1) (hk : ∀ p ∈ ks, IsTupleKey (leafKind P w) sh.heap p.2 p.1) (nd : (ks.map (·.2)).Nodup)
    (few : ks.length < 63) (hh : A.handled = none) (hu : A.units + 64 < cLine) {Q : Value → Shared → Prop}
    (hQ : ∀ (h' : Heap) (tk : Nat), SetN h' sh.heap.objs.size ks.length → (∀ b o, sh.heap.get? b = some o → h'.get? b = some o) → Q (.ref sh.heap.objs.size) { sh with heap := h', toks := tk }) :
    wpAny (model P w) A (call (.type "set") [.ref l]) Q E sh := by
  obtain ⟨ol, hol, hcl, nl, hdl⟩ := id hl
  have hlt := old_ne hol
  have hn : its.toArray.size = ks.length := by rw [List.size_toArray, hv, List.length_map]
  have hlow : ∀ p ∈ ks, p.1 < sh.heap.objs.size := fun p hp => let ⟨_, _, _, e, _⟩ := hk p hp; Heap.lt_size e
  refine set_call (src := .ref l) (T := "tuple") (n := ks.length) (SvT P w sh.heap.objs.size ks) F.sub_tuple_set F.sub_tuple_frozenset (by decide) (fun h k => ⟨ol, k _ _ hol, hcl⟩) ?_
    (fun i h h' s k => svt_keep s fun b o hb e => k b o (by
      rw [List.mem_singleton]
      exact Nat.ne_of_lt (Nat.lt_succ_of_le hb)) e)
    (fun o => ⟨⟨[], #[], 0, _, stab_new (get_two o), .nil⟩, fun p hp => key_keep (hk p hp) fun c ob e => Heap.get?_push_of_some _ (Heap.get?_push_of_some _ e), hlow⟩) hh fun h' tk s k => hQ h' tk ?_ k
  · intro A' Q' E' hA hAu hc
    have hl1 : (sh.heap.push (setNew w)).IsTuple l its.toArray := ⟨ol, Heap.get?_push_of_some _ hol, hcl, nl, hdl⟩
    refine wpAny_pyIter_tuple hl1 ?_
    show Q' (.ref (sh.heap.push (setNew w)).objs.size) _
    rw [size_one]
    have W := Walks.tuple (prog := P) (w := w) (A := A'.in1) (by simpa using hA) (sh.heap.objs.size + 1) l hlt.2 its.toArray
    rw [hn] at W
    refine hc _ _ _ _ W ?_ ⟨⟨_, by rw [← size_one (w := w)]; exact Heap.get?_push_size _ rfl, rfl, rfl⟩, hl1.push _⟩ fun i v s Q2 E2 hi hp hs hq => ?_
    · simp only [List.mem_cons, List.not_mem_nil, or_false, not_or]
      exact ⟨Nat.ne_of_lt (Nat.lt_succ_self _), hlt.1.symm⟩
    · have hx : ks[i]? = some ks[i] := List.getElem?_eq_getElem hi
      have hp' : its.toArray[i]? = some v := hp
      rw [List.getElem?_toArray, hv, List.getElem?_map, hx] at hp'
      cases hp'
      exact svt_add (by show A'.units + 1 < cLine; omega) hx hs nd few hq
  · obtain ⟨⟨L, es, ep, t, T, pm⟩, _, _⟩ := s
    obtain ⟨o, ho, hex, hd⟩ := T.ob
    rw [List.take_length] at pm
    have z := T.size (sh := { sh with heap := h' })
    have f := T.fits (sh := { sh with heap := h' })
    exact ⟨o, es, ep, t, ho, hex, hd, f, by rw [z, pm.length_eq]⟩
end
end Px

set_option maxRecDepth 100000
set_option maxHeartbeats 4000000
/-! PxF: further rules: in over data, len(set(x)), sorted of a tuple of texts, get of a written dict. -/
namespace Px
open PySem PySem.Spec PyProof.Rows L2

/-! ### x in xs, x not in xs: any data -/
section
variable {X : Cx}
theorem any_mem (ks : List NestedKey) (k : NestedKey) : (ks.any fun j => NestedKey.beq j k) = decide (k ∈ ks) := by
  induction ks with
  | nil => simp
  | cons j ks ih =>
    rw [List.any_cons, ih, ← NestedKey.decide_eq]
    by_cases e : j = k
    · subst e; simp
    · have e2 : ¬ k = j := fun z => e z.symm
      simp [e, e2]
open Classical in
theorem in_facts {pn : List (Addr × Obj)} {sg : L2.St} {H : Hp} {sh : Shared} {xs : List V} {ks : List NestedKey} {x : V} {k : NestedKey} {us : List Value} {u : Value} (I : Inv X pn sg H sh) (hu : X.A.units + 64 < cLine) (dx : Dk X.K H x k) (rx : RelV x u)
    (da : DkA X.K H xs ks) (ra : Vals xs us) (dp : k.depth ≤ 40) :
    (∀ y, y ∈ us.toArray → SeqAt.EqAt X.A.in1 sh y u (decide (NestedIs sh.heap k y))) ∧ us.toArray.any (fun y => decide (NestedIs sh.heap k y)) = decide (k ∈ ks) := by
  have hk := Dk.is I k x u dx rx
  have one : ∀ (ks : List NestedKey) (us : List Value), NestedAll sh.heap ks us → (∀ y ∈ us, SeqAt.EqAt X.A.in1 sh y u (decide (NestedIs sh.heap k y))) ∧ us.any (fun y => decide (NestedIs sh.heap k y)) = ks.any fun j => NestedKey.beq j k := by
    intro ks
    induction ks with
    | nil => intro us h; cases h; exact ⟨(fun y hy => nomatch hy), rfl⟩
    | cons j ks ih =>
      intro us h
      cases h with
      | @cons _ v _ vs h1 h2 =>
        obtain ⟨i1, i2⟩ := ih vs h2
        have ev : decide (NestedIs sh.heap k v) = NestedKey.beq j k := by
          cases q : NestedKey.beq j k with
          | true =>
            have := NestedKey.eq_of_beq _ _ q
            subst this
            exact decide_eq_true h1
          | false =>
            refine decide_eq_false fun z => ?_
            rw [NestedIs.inj _ _ _ z h1, NestedKey.beq_self] at q
            cases q
        refine ⟨fun y hy => ?_, by rw [List.any_cons, List.any_cons, i2, ev]⟩
        rcases List.mem_cons.mp hy with e | hy
        · rw [e, ev]
          refine eqAt_key j k X.A.in1 sh v u h1 hk ?_
          show X.A.units + 1 + _ < cLine
          have : min j.depth k.depth ≤ 40 := Nat.le_trans (Nat.min_le_right _ _) dp
          omega
        · exact i1 y hy
  obtain ⟨o1, o2⟩ := one ks us (DkA.is I ks xs us da ra)
  refine ⟨fun y hy => o1 y (by simpa using hy), ?_⟩
  rw [← any_mem, ← o2]
  simp
/-- x (not) in a list or tuple of data -/
def rInN (K : PySem.W.Frag) (neg : Bool) : R2 := fun x y H Q => ∃ p xs ks k, y = .ref p ∧ (SqL K H p xs ∨ SqT K H p xs) ∧ DkA K H xs ks ∧ Dk K H x k ∧ k.depth ≤ 40 ∧ Q (.bl (cond neg (!decide (k ∈ ks)) (decide (k ∈ ks)))) H
theorem op_inN (hu : X.A.units + 64 < cLine) : OpR X (compareOp .In) (rInN X.K false) := by
  intro pn sh sg H x y v u Q I rx ry h
  obtain ⟨p, xs, ks, k, rfl, hq, da, dx, dp, q⟩ := h
  cases ry
  rcases hq with hq | hq
  · obtain ⟨its, r, pl, _⟩ := I.list hq
    obtain ⟨f1, f2⟩ := in_facts I hu dx rx da r dp
    exact SeqAt.in_listAt _ pl.isList f1 ⟨.bl _, H, I, by rw [f2]; rfl, q⟩
  · obtain ⟨its, r, pl, _⟩ := I.tuple hq
    obtain ⟨f1, f2⟩ := in_facts I hu dx rx da r dp
    exact SeqAt.in_tupleAt _ pl f1 ⟨.bl _, H, I, by rw [f2]; rfl, q⟩
theorem op_notInN (hu : X.A.units + 64 < cLine) : OpR X (compareOp .NotIn) (rInN X.K true) := by
  intro pn sh sg H x y v u Q I rx ry h
  obtain ⟨p, xs, ks, k, rfl, hq, da, dx, dp, q⟩ := h
  cases ry
  rcases hq with hq | hq
  · obtain ⟨its, r, pl, _⟩ := I.list hq
    obtain ⟨f1, f2⟩ := in_facts I hu dx rx da r dp
    exact SeqAt.notIn_listAt _ pl.isList f1 ⟨.bl _, H, I, by rw [f2]; rfl, q⟩
  · obtain ⟨its, r, pl, _⟩ := I.tuple hq
    obtain ⟨f1, f2⟩ := in_facts I hu dx rx da r dp
    exact SeqAt.notIn_tupleAt _ pl f1 ⟨.bl _, H, I, by rw [f2]; rfl, q⟩
end

/-! ### data: == -/
mutual
/-- all texts within are of true code points -/
def okK : NestedKey → Bool
  | .none => true
  | .num _ => true
  | .text x => PyData.strOk x
  | .tup ks => okA ks
def okA : List NestedKey → Bool
  | [] => true
  | k :: ks => okK k && okA ks
end
mutual
theorem eqv_data : ∀ a b : NestedKey, PyData.eqv a.data b.data = NestedKey.beq a b
  | .none, .none => rfl
  | .none, .num _ => rfl
  | .none, .text _ => rfl
  | .none, .tup _ => rfl
  | .num _, .none => rfl
  | .num a, .num b => by
    show (a == b) = decide (a = b)
    by_cases e : a = b <;> simp [e]
  | .num _, .text _ => rfl
  | .num _, .tup _ => rfl
  | .text _, .none => rfl
  | .text _, .num _ => rfl
  | .text a, .text b => by
    show (a == b) = decide (a = b)
    by_cases e : a = b <;> simp [e]
  | .text _, .tup _ => rfl
  | .tup _, .none => rfl
  | .tup _, .num _ => rfl
  | .tup _, .text _ => rfl
  | .tup a, .tup b => eqvA_data a b
theorem eqvA_data : ∀ a b : List NestedKey, PyData.eqvAll (NestedKey.datas a) (NestedKey.datas b) = NestedKey.beqAll a b
  | [], [] => rfl
  | [], _ :: _ => rfl
  | _ :: _, [] => rfl
  | a :: as, b :: bs => by
    show (PyData.eqv a.data b.data && PyData.eqvAll (NestedKey.datas as) (NestedKey.datas bs)) = (NestedKey.beq a b && NestedKey.beqAll as bs)
    rw [eqv_data a b, eqvA_data as bs]
end
mutual
theorem can_data : ∀ a : NestedKey, okK a = true → a.data.canLay0 = true
  | .none, _ => by simp only [NestedKey.data, PyData.canLay0]
  | .num _, _ => by simp only [NestedKey.data, PyData.canLay0]
  | .text x, h => by simp only [NestedKey.data, PyData.canLay0]; exact h
  | .tup ks, h => by simp only [NestedKey.data, PyData.canLay0]; exact canA_data ks h
theorem canA_data : ∀ a : List NestedKey, okA a = true → PyData.canLayAll0 (NestedKey.datas a) = true
  | [], _ => by simp only [NestedKey.datas, PyData.canLayAll0]
  | k :: ks, h => by
    simp only [okA, Bool.and_eq_true] at h
    simp only [NestedKey.datas, PyData.canLayAll0, Bool.and_eq_true]
    exact ⟨can_data k h.1, canA_data ks h.2⟩
end
mutual
theorem depth_data : ∀ a : NestedKey, a.data.depth = a.depth
  | .none => by simp only [NestedKey.data, NestedKey.depth, PyData.depth]
  | .num _ => by simp only [NestedKey.data, NestedKey.depth, PyData.depth]
  | .text x => by simp only [NestedKey.data, NestedKey.depth, PyData.depth]
  | .tup ks => by simp only [NestedKey.data, NestedKey.depth, PyData.depth]; rw [depthA_data ks]
theorem depthA_data : ∀ a : List NestedKey, PyData.depthAll (NestedKey.datas a) = NestedKey.depthAll a
  | [] => by simp only [NestedKey.datas, PyData.depthAll, NestedKey.depthAll]
  | k :: ks => by simp only [NestedKey.datas, PyData.depthAll, NestedKey.depthAll]; rw [depth_data k, depthA_data ks]
end
theorem shaped_data {k : NestedKey} (h : okK k = true) (hd : k.depth ≤ 64) : SeqAt.shaped k.data = true := by
  unfold SeqAt.shaped
  rw [can_data k h, depth_data, Bool.true_and]
  exact decide_eq_true hd
/-- == and != of data -/
def rEqN (K : PySem.W.Frag) (neg : Bool) : R2 := fun x y H Q => ∃ k j, Dk K H x k ∧ Dk K H y j ∧ okK k = true ∧ okK j = true ∧ k.depth ≤ 64 ∧ j.depth ≤ 64 ∧ Q (.bl (cond neg (!decide (k = j)) (decide (k = j)))) H
theorem op_eqN {X : Cx} (hu : X.A.units + 64 < cLine) : OpR X (compareOp .Eq) (rEqN X.K false) := by
  intro pn sh sg H x y v u Q I rx ry h
  obtain ⟨k, j, dk, dj, o1, o2, h1, h2, q⟩ := h
  refine op_eqD hu pn sh sg H x y v u Q I rx ry ⟨k.data, j.data, dk.dp, dj.dp, shaped_data o1 h1, shaped_data o2 h2, ?_⟩
  rw [eqv_data, ← NestedKey.decide_eq]
  exact q
theorem op_neN {X : Cx} (hu : X.A.units + 64 < cLine) : OpR X (compareOp .NotEq) (rEqN X.K true) := by
  intro pn sh sg H x y v u Q I rx ry h
  obtain ⟨k, j, dk, dj, o1, o2, h1, h2, q⟩ := h
  refine op_neD hu pn sh sg H x y v u Q I rx ry ⟨k.data, j.data, dk.dp, dj.dp, shaped_data o1 h1, shaped_data o2 h2, ?_⟩
  rw [eqv_data, ← NestedKey.decide_eq]
  exact q

/-! ### len(set(x)) -/
def tLenSet (K : PySem.W.Frag) (ta : TE) : TE := fun σ H Q => ta σ H fun x H1 =>
  (∃ l xs, x = .ref l ∧ SqL K H1 l (xs.map V.str) ∧ xs.length ≤ 4000 ∧ Q (.int ((dd xs).length : Nat)) H1) ∨
  (∃ z, x = .str z ∧ z.cps.size ≤ 4000 ∧ Q (.int ((dd z.cps.toList).length : Nat)) H1) ∨
  (∃ (a : Addr) (vs : List V) (ks : List (List Leaf)), x = .ref a ∧ SqT K H1 a vs ∧ DkA K H1 vs (ks.map fun ls => .tup (ls.map Leaf.key)) ∧ ks.Nodup ∧ ks.length ≤ 60 ∧ Q (.int (ks.length : Nat)) H1)
section
variable {X : Cx} {pn : List (Addr × Obj)} {sg : L2.St} {H : Hp} {sh : Shared}
theorem leaf_items (I : Inv X pn sg H sh) : ∀ (ls : List Leaf) (vs : List V) (us : List Value), DkA X.K H vs (ls.map Leaf.key) → Vals vs us → ItemsAre (leafKind X.prog X.w) ls us
  | [], _, _, d, r => by cases d; cases r; exact .nil
  | l :: ls, _, _, d, r => by
    obtain ⟨v, vs', rfl, d1, d2⟩ := DkA.consI d
    cases r with
    | cons r1 r2 =>
      refine .cons ?_ (leaf_items I ls vs' _ d2 r2)
      cases l with
      | none => cases d1; cases r1; rfl
      | num i => cases d1; obtain ⟨t, rfl⟩ := r1; exact decide_eq_true rfl
      | text x => cases d1; obtain ⟨t, rfl⟩ := r1; exact strKind_is X.prog X.w x t
theorem tup_keys (I : Inv X pn sg H sh) : ∀ (ks : List (List Leaf)) (vs : List V) (us : List Value), DkA X.K H vs (ks.map fun ls => .tup (ls.map Leaf.key)) → Vals vs us →
    ∃ ps : List (Addr × List Leaf), us = ps.map (fun p => Value.ref p.1) ∧ ps.map (·.2) = ks ∧ ∀ p ∈ ps, IsTupleKey (leafKind X.prog X.w) sh.heap p.2 p.1
  | [], _, _, d, r => by cases d; cases r; exact ⟨[], rfl, rfl, fun p hp => nomatch hp⟩
  | l :: ks, _, _, d, r => by
    obtain ⟨v, vs', rfl, d1, d2⟩ := DkA.consI d
    cases r with
    | cons r1 r2 =>
      obtain ⟨ps, e1, e2, e3⟩ := tup_keys I ks vs' _ d2 r2
      obtain ⟨a, xs, rfl, hs, da⟩ := d1.tupI
      cases r1
      obtain ⟨its, rv, ⟨o, ho, hc, n, hd⟩, _⟩ := I.tuple hs
      refine ⟨(a, l) :: ps, by rw [e1]; rfl, by rw [← e2]; rfl, fun p hp => ?_⟩
      rcases List.mem_cons.mp hp with q | q
      · rw [q]
        exact ⟨o, its.toArray, n, ho, hc, hd, by simpa using leaf_items I l xs its da rv⟩
      · exact e3 p q
theorem setN_len {a : Addr} {n : Nat} {h' : Heap} {tk : Nat} {Q : Value → Shared → Prop} {A : Around} {E : Value → Shared → Prop} (S : SetN h' a n) (hn : n ≤ 4000) (hQ : ∀ t tk', Q (.int (n : Nat) t) { sh with heap := h', toks := tk' }) :
    wpAny (model X.prog X.w) A (call (.builtin "len") [.ref a]) Q E { sh with heap := h', toks := tk } := by
  obtain ⟨o, es, ep, t, ho, hex, hd, hf, e⟩ := S
  refine call_len_set ho hex hd hf (by rw [e]; omega) ?_
  rw [e]
  exact hQ _ _
theorem pe_lenSet {a : Expr} {ta : TE} {p p2 q pos : Pos} (hu : X.A.units + 64 < cLine) (hc : X.calm = true) (hg : Gl X "len") (hm : X.mg "len" = none) (hg2 : Gl X "set") (hm2 : X.mg "set" = none) (ha : PE X a ta)
    (na : starEach [a] X.env = (false, eval a X.env) :: starEach [] X.env := by rfl) : PE X (.Call (.Name "len" p) [.Call (.Name "set" p2) [a] [] q] [] pos) (tLenSet X.K ta) := by
  refine ⟨fun pn sh sg H Q I h => ?_⟩
  refine Call_ (ld_blt I hg hm PySem.boot_len ?_)
  refine PyProof.Rows.callWith_builtin1 (PyProof.Rows.args_cons ?_ rfl) rfl rfl
  refine Call_ (ld_blt I hg2 hm2 PyProof.Rows.boot_set ?_)
  refine PyProof.Rows.callWith_type1 (PyProof.Rows.args_cons (thn (ha.run pn sh sg H _ I h) fun v s1 ⟨x, H1, I1, r1, q1⟩ => PyProof.Rows.args_nil ?_) na) na rfl
  rcases q1 with ⟨l, xs, rfl, hl, hz, q1⟩ | ⟨z, rfl, hz, q1⟩ | ⟨a, vs, ks, rfl, ht, da, nd, hz, q1⟩
  · cases r1
    obtain ⟨its, rv, pl, _⟩ := I1.list hl
    refine set_listS pl.isList rv (by unfold scanBound; omega) (I1.ok.hd hc) fun h' tk S k => PyProof.Rows.args_nil ?_
    exact setN_len S (Nat.le_trans (dd_le xs) hz) fun t tk' => ⟨.int _, H1, I1.kept (t' := tk') k, ⟨t, rfl⟩, q1⟩
  · obtain ⟨t, rfl⟩ := r1
    refine set_text (by unfold scanBound; omega) (I1.ok.hd hc) fun h' tk S k => PyProof.Rows.args_nil ?_
    refine setN_len S (Nat.le_trans (dd_le _) (by rw [Array.length_toList]; exact hz)) fun t tk' => ⟨.int _, H1, I1.kept (t' := tk') k, ⟨t, rfl⟩, q1⟩
  · cases r1
    obtain ⟨its, rv, pl, _⟩ := I1.tuple ht
    obtain ⟨ps, e1, e2, e3⟩ := tup_keys I1 ks vs its da rv
    have el : ps.length = ks.length := by rw [← e2, List.length_map]
    refine set_tups (show s1.heap.IsTuple a its.toArray from pl) e1 e3 (by rw [e2]; exact nd) (by omega) (I1.ok.hd hc) hu fun h' tk S k => PyProof.Rows.args_nil ?_
    rw [el] at S
    exact setN_len S (by omega) fun t tk' => ⟨.int _, H1, I1.kept (t' := tk') k, ⟨t, rfl⟩, q1⟩
end

/-- what is tracked is there -/
theorem ok_there {P : Program} {w : World} {H : Hp} {h : Heap} {a : Addr} {o : HO} (x : ObjOk P w H h a o) : ∃ ob, h.get? a = some ob := by
  cases o with
  | lst xs => obtain ⟨_, _, _, _, e⟩ := x; exact ⟨_, e⟩
  | tup xs => obtain ⟨_, _, _, o, e, _⟩ := x; exact ⟨o, e⟩
  | dK kvs => obtain ⟨_, _, _, _, o, _, _, e, _⟩ := x; exact ⟨o, e⟩
  | dT kvs => obtain ⟨_, _, _, _, o, _, _, e, _⟩ := x; exact ⟨o, e⟩
  | set S n => obtain ⟨o, _, _, _, e, _⟩ := x; exact ⟨o, e⟩
  | ins C dx fs => obtain ⟨_, _, _, e, _⟩ := x; exact ⟨_, e⟩
  | own y => exact x
  | xd fs => obtain ⟨_, ⟨o, _, _, e, _⟩, _⟩ := x; exact ⟨o, e⟩
  | rng lo hi => obtain ⟨_, _, _, e⟩ := x; exact ⟨_, e⟩
  | frz ob u => obtain ⟨e, _⟩ := x; exact ⟨_, e⟩
  | tbl ps => exact ⟨_, (show h.get? a = some _ from x)⟩
  | met f y => exact ⟨_, (show h.get? a = some _ from x)⟩
  | ext φ => obtain ⟨_, e, _⟩ := x; exact e
/-! ### sorted of a tuple of texts -/
def rSortedU (K : PySem.W.Frag) : List V → Hp → VK → Prop := fun vs H Q => ∃ (a : Addr) (xs : List Str), vs = [V.ref a] ∧ SqT K H a (xs.map V.str) ∧ xs.length < 64 ∧
  ∀ (ys : List Str) (p : Addr), ys.Perm xs → sortedS ys = true → H p = none → Q (.ref p) (upd H p (.lst (ys.map V.str)))
theorem cr_sortedU {X : Cx} : CallR X (.builtin "sorted") (rSortedU X.K) := by
  intro pn sh sg H vs us Q I r h
  obtain ⟨a, xs, rfl, hs, h64, q⟩ := h
  obtain ⟨its, rv, ⟨o, ho, hc, n, hd⟩, _⟩ := I.tuple hs
  rw [Vals.ref1 r]
  have hS := rv.strs
  have hlen0 := rv.length
  rw [List.length_map] at hlen0
  refine Calls.call_function_entry kind_sorted plain_sorted entry_sorted (args_sorted1 _) ?_
  unfold Builtin.«sorted»
  refine wpAny_bind (m := checkCount "sorted" 1 1 _) (wpAny_pure ?_)
  refine wpAny_bind (wpAny_collect_seq a (.inr rfl) ho hc hd (fun h' k => ?_) (by rw [sizeLine_eq, List.size_toArray]; omega))
  refine wpAny_bind (wpAny_newList ?_ (by rw [sizeLine_eq]; simp; omega))
  have hoL : (h'.push (seqObj "list" its.toArray 0)).get? h'.objs.size = some (seqObj "list" its.toArray 0) := Heap.get?_push_size _ rfl
  refine wpAny_bind (wpAny_holding (wpAny_call_entry slot_list_sort ⟨_, hoL, rfl⟩ entry_list_sort (list_sort_treeK (κ := PyProof.Rows.strKind) strKind_oneLt hoL hS.keysOf (fun v₁ v₂ rest e => keyKind_strs (by rw [← e]; exact hS)) (by rw [← hlen0]; exact h64) fun st' hp hsr => ⟨_, rfl, ?_⟩) (args_list_sort _)))
  obtain ⟨ys, g1, g2, g3⟩ := sorted_out_str hS hp hsr
  obtain ⟨e, he⟩ := sortedHeap_at (vs := its) (out := (arrOf st').map (·.2)) hoL
  have hlen : (ys.map V.str).length ≤ sizeLine := by rw [List.length_map, g2.length_eq]; exact small64 h64
  have kp : ∀ b u, sh.heap.get? b = some u → (sortedHeap (h'.push (seqObj "list" its.toArray 0)) h'.objs.size its ((arrOf st').map (·.2))).get? b = some u := fun b u eb => by
    have hb := Heap.lt_size (k b u eb)
    rw [sortedHeap_old (Nat.ne_of_lt hb) (by rw [size_push']; exact Nat.lt_succ_of_lt hb)]
    exact Heap.get?_push_of_some _ (k b u eb)
  have free : sh.heap.get? h'.objs.size = none := by
    cases c : sh.heap.get? h'.objs.size with
    | none => rfl
    | some u => exact absurd (Heap.lt_size (k _ u c)) (Nat.lt_irrefl _)
  have hn : H h'.objs.size = none := by
    cases c : H h'.objs.size with
    | none => rfl
    | some u =>
      obtain ⟨ob, e1⟩ := ok_there (I.hok _ _ c)
      rw [free] at e1
      cases e1
  have J := I.laidN (o := .lst (ys.map V.str)) (t' := sh.toks) kp free hn ⟨hlen, ((arrOf st').map (·.2)).toList, e, vals_of_strs g1, he⟩
  exact wpAny_pure ⟨_, rfl, .ref h'.objs.size, _, J, rfl, q ys _ g2 g3 hn⟩

/-! ### d.get(k, x), d a written dict with text keys -/
/-- what a written dict gives -/
def KGet (K : PySem.W.Frag) (w : World) (a : Addr) (x : Str) (d r : V) : Prop :=
  ∃ es n u, K.lookup a = some ⟨.type "dict", none, .dict es n, #[]⟩ ∧ PySem.W.KeysLit w.params es.toList ∧ (a == sysModules) = false ∧ PySem.W.nsIn K a x = some u ∧ (match u with | some v => RelV r v | none => r = d)
def tKGet (K : PySem.W.Frag) (w : World) (a : Addr) (ty tx : TE) : TE := fun σ H Q => ty σ H fun y H1 => tx σ H1 fun z H2 => ∃ x r, y = .str x ∧ KGet K w a x z r ∧ Q r H2
theorem pe_kget {X : Cx} {x : Str} {p apos cpos : Pos} {e f : Expr} {ty tx : TE} {a : Addr} {es : Array DictEntry} {n : Nat} (hg : Gl X x) (hm : X.mg x = some (.ref a)) (hl : X.K.lookup a = some ⟨.type "dict", none, .dict es n, #[]⟩) (hk : PySem.W.KeysLit X.w.params es.toList)
    (he : PE X e ty) (hf : PE X f tx) (m : M2 X (.Name x p) "get" apos e f cpos) (hdb : (x == ("__debug__" : Str)) = false := by decide) : PE X (.Call (.Attribute (.Name x p) "get" apos) [e, f] [] cpos) (tKGet X.K X.w a ty tx) := by
  refine ⟨fun pn sh sg H Q I h => ?_⟩
  have M : ∀ {pn : List (Addr × Obj)} {sg : L2.St} {H : Hp} {sh : Shared}, Inv X pn sg H sh → sh.heap.MapOf (strKind X.prog X.w) a (fun k => findBy Value.isStrOf es k) := fun I => PySem.W.mapOf_K (prog := X.prog) (w := X.w) I.kIn hl hk
  refine wpAny_Call_method m.base m.few m.line PySem.F.plainAttrs_dict PySem.F.slot_dict_get PySem.F.type_dict_get (ld_glob I hg hm ?_ hdb)
  refine ⟨(M I).typeIs, fun b eb => ?_, ?_⟩
  · cases eb
    exact ⟨_, I.kIn _ _ hl, rfl⟩
  rw [m.trees]
  refine Calls.callWith_builtin rfl (Calls.evalArgs_plain (Calls.spliced_cons (thn (he.run pn sh sg H _ I h) fun iv s2 ⟨y, H2, I2, ry, q2⟩ =>
    Calls.spliced_cons (thn (hf.run pn s2 sg H2 _ I2 q2) fun fv s3 ⟨z, H3, I3, rz, x0, r, ey, g, q3⟩ => Calls.spliced_nil ?_))))
  subst ey
  obtain ⟨t, rfl⟩ := ry
  obtain ⟨es', n', u0, hl', _, low, hn, rr⟩ := g
  rw [hl] at hl'
  cases hl'
  refine call_meetsIn PySem.F.slot_dict_get (M I3).typeIs PySem.F.entry_dict_get (PySem.F.args_dict_get_3 _ _ _) (meets_dict_get_default (strKind X.prog X.w) (d := a) (strKind_is X.prog X.w x0 t) low fv) ⟨_, M I3, ?_⟩
  rw [PySem.W.find_K hl hn]
  cases u0 with
  | some v => exact ⟨r, H3, I3.tok _, rr, q3⟩
  | none =>
    subst rr
    exact ⟨_, H3, I3.tok _, rz, q3⟩
end Px

set_option maxRecDepth 100000
set_option maxHeartbeats 4000000
/-! PxE: what a for walks: enumerate of a tuple and of a text, zip of two texts. -/
namespace Px
open PySem PySem.Spec PyProof.Rows L2

/-! ### turns told by GoesN -/
/-- pairs, each a new tuple: f and g tell what stands in it at turn i; n tells how many -/
def ItP (n : Hp → Nat → Prop) (f g : Nat → Hp → V → Prop) : It :=
  ⟨fun i H => ∃ m, n H m ∧ i < m, fun i H v H' => ∃ T x y, v = .ref T ∧ H T = none ∧ H' = upd H T (.tup [x, y]) ∧ f i H x ∧ g i H y, fun i H => n H i⟩
theorem pair_new {X : Cx} {pn : List (Addr × Obj)} {sg : L2.St} {H : Hp} {sh : Shared} {wr : List Addr} {h' : Heap} {tk : Nat} {T : Addr} {x y : V} {u v : Value} (I : Inv X pn sg H sh) (hf : ∀ b ∈ wr, FpOk X pn H b)
    (k : ∀ b o, b ∉ wr → sh.heap.get? b = some o → h'.get? b = some o) (hT : sh.heap.objs.size ≤ T) (ht : h'.IsTuple T #[u, v]) (rx : RelV x u) (ry : RelV y v) : Inv X pn sg (upd H T (.tup [x, y])) { sh with heap := h', toks := tk } := by
  obtain ⟨o, ho, hc, m, hd⟩ := ht
  exact I.turnedNew (t' := tk) (ch := wr) k hf hT ⟨by show 2 ≤ sizeLine; decide, [u, v], .cons rx (.cons ry .nil), ⟨o, ho, hc, m, hd⟩⟩
theorem turn_of {P : Program} {w : World} {K : PySem.W.Frag} {tg : Expr} {it : Addr} {fp : List Addr} {tn : Nat → Heap → Prop} {n : Hp → Nat → Prop} {f g : Nat → Hp → V → Prop} (mem : it ∈ fp)
    (obj : ∀ i h, tn i h → ∀ b ∈ fp, ∃ o, h.get? b = some o ∧ ∀ v, o.data ≠ .cell v)
    (keep : ∀ i h h', tn i h → (∀ b ∈ fp, ∀ o, h.get? b = some o → h'.get? b = some o) → tn i h')
    (goes : ∀ (X : Cx), X.prog = P → X.w = w → X.K = K → X.calm = true → ∀ (i m : Nat) (pn : List (Addr × Obj)) (sh : Shared) (sg : L2.St) (H : Hp), Inv X pn sg H sh → tn i sh.heap → n H m →
      ∃ fp' wr Y St, GoesN P w X.A tg it fp' wr m Y St ∧ St i sh.heap ∧ (∀ b ∈ wr, b ∈ fp) ∧ (∀ j h', St j h' → tn j h') ∧
        ∀ v h', Y i sh.heap v h' → ∃ T u1 u2 x y, v = .ref T ∧ sh.heap.objs.size ≤ T ∧ h'.IsTuple T #[u1, u2] ∧ RelV x u1 ∧ RelV y u2 ∧ f i H x ∧ g i H y)
    (self : ∀ (A : Around) (i : Nat) (s : Shared) (Q : Value → Shared → Prop) (E : Value → Shared → Prop), tn i s.heap → Q (.ref it) s → wpAny (model P w) A (pyIter (.ref it)) Q E s) :
    Turn P w K tg (ItP n f g) fp it tn where
  mem := mem
  obj := obj
  keep := keep
  item := by
    intro X hP hw hK hc i pn sh sg H E I hf st hg
    obtain ⟨m, hm, hi⟩ := hg
    obtain ⟨fp', wr, Y, St, W, hst, sub, back, tell⟩ := goes X hP hw hK hc i m pn sh sg H I st hm
    refine W.goes i sh _ E hi hst fun v h' tk hY st' hk htk => ?_
    obtain ⟨T, u1, u2, x, y, rfl, hT, ht, rx, ry, hx, hy⟩ := tell v h' hY
    refine ⟨.ref T, _, pair_new (tk := tk) I (fun b hb => hf b (sub b hb)) hk hT ht rx ry, rfl, ⟨T, x, y, rfl, I.hok.fresh hT, rfl, hx, hy⟩, back _ _ st', fun b hb => ?_⟩
    obtain ⟨o, ho, _⟩ := obj i _ st b hb
    rw [upd_ne (Nat.ne_of_lt (Nat.lt_of_lt_of_le (Heap.lt_size ho) hT))]
    exact (hf b hb).1
  done := by
    intro X hP hw hK hc i pn sh sg H E I hf st hg
    obtain ⟨fp', wr, Y, St, W, hst, sub, back, tell⟩ := goes X hP hw hK hc i i pn sh sg H I st hg
    exact W.stops sh _ E hst fun h' tk hk htk => I.turnedL (t' := tk) (ch := wr) hk fun b hb => hf b (sub b hb)
  self := self

/-! ### enumerate of a text -/
def EnT (z : Str) : It := ItP (fun _ m => m = z.cps.size) (fun i _ x => x = .int (i : Nat)) (fun i _ y => ∃ c, z.cps[i]? = some c ∧ y = .str ⟨#[c]⟩)
theorem turn_enT {P : Program} {w : World} {K : PySem.W.Frag} {elts : List Expr} {kk : Nat} {tpos : Pos} (z : Str) (tz : Tok) (e it : Addr) (hne : e ≠ it) :
    Turn P w K (.Tuple elts kk tpos) (EnT z) [e, it] e (fun i h => (∃ old, IsEnum h e it ((i : Nat) : Int) old) ∧ h.IsStrIter it (strIterType z) z tz i) := by
  refine turn_of (by simp) (fun i h st b hb => ?_) (fun i h h' st k => ?_) (fun X hP hw hK hc i m pn sh sg H I st hm => ?_) fun A i s Q E st h => let ⟨⟨_, he⟩, _⟩ := st; wpAny_pyIter_enum he h
  · obtain ⟨⟨old, he⟩, ⟨o, ho, hc, hd⟩⟩ := st
    rcases (by simpa using hb : b = e ∨ b = it) with q | q
    · rw [q]; exact ⟨_, he, fun v q => nomatch q⟩
    · rw [q]; exact ⟨o, ho, fun v q => by rw [hd] at q; cases q⟩
  · obtain ⟨⟨old, he⟩, ⟨o, ho, r⟩⟩ := st
    exact ⟨⟨old, k e (by simp) _ he⟩, ⟨o, k it (by simp) _ ho, r⟩⟩
  · subst hm
    have D := Draws.text (prog := P) (w := w) (A := X.A.in1) (by simpa using I.ok.hd hc) it z tz
    refine ⟨_, _, _, _, GoesN.enumFrom (elts := elts) (x1 := kk) (pos := tpos) 0 D e hne (by simpa using hne) (by simp), ⟨?_, st.2⟩, fun b hb => hb, fun j h' s' => ?_, fun v h' hY => ?_⟩
    · obtain ⟨old, he⟩ := st.1
      exact ⟨old, by rw [Int.zero_add]; exact he⟩
    · obtain ⟨⟨old, he⟩, s2⟩ := s'
      exact ⟨⟨old, by rw [Int.zero_add] at he; exact he⟩, s2⟩
    · obtain ⟨T, t, x, rfl, hT, ⟨c, u, hx, rfl⟩, ht⟩ := hY
      rw [Int.zero_add] at ht
      exact ⟨T, _, _, .int (i : Nat), .str ⟨#[c]⟩, rfl, hT, ht, ⟨_, rfl⟩, ⟨_, rfl⟩, rfl, c, hx, rfl⟩
/-! ### enumerate of a tuple -/
def EnU (K : PySem.W.Frag) (a : Addr) : It := ItP (fun H m => ∃ xs, SqT K H a xs ∧ m = xs.length) (fun i _ x => x = .int (i : Nat)) (fun i H y => ∀ xs, SqT K H a xs → xs[i]? = some y)
theorem turn_enU {P : Program} {w : World} {K : PySem.W.Frag} {elts : List Expr} {kk : Nat} {tpos : Pos} (a e it : Addr) (hne : e ≠ it) (hea : e ≠ a) (hia : a ≠ it) :
    Turn P w K (.Tuple elts kk tpos) (EnU K a) [e, it] e (fun i h => (∃ old, IsEnum h e it ((i : Nat) : Int) old) ∧ h.IsTupleIter it a i) := by
  refine turn_of (by simp) (fun i h st b hb => ?_) (fun i h h' st k => ?_) (fun X hP hw hK hc i m pn sh sg H I st hm => ?_) fun A i s Q E st h => let ⟨⟨_, he⟩, _⟩ := st; wpAny_pyIter_enum he h
  · obtain ⟨⟨old, he⟩, ⟨o, ho, hc, hd⟩⟩ := st
    rcases (by simpa using hb : b = e ∨ b = it) with q | q
    · rw [q]; exact ⟨_, he, fun v q => nomatch q⟩
    · rw [q]; exact ⟨o, ho, fun v q => by rw [hd] at q; cases q⟩
  · obtain ⟨⟨old, he⟩, hi⟩ := st
    exact ⟨⟨old, k e (by simp) _ he⟩, hi.at fun o q => k it (by simp) o q⟩
  · obtain ⟨xs, hxs, rfl⟩ := hm
    rw [← hK] at hxs
    obtain ⟨its, rv, p, _⟩ := I.tuple hxs
    have D := Draws.tuple (prog := P) (w := w) (A := X.A.in1) (by simpa using I.ok.hd hc) it a hia its.toArray
    have hl : its.toArray.size = xs.length := by rw [List.size_toArray, rv.length]
    rw [hl] at D
    refine ⟨_, _, _, _, GoesN.enumFrom (elts := elts) (x1 := kk) (pos := tpos) 0 D e hne (by simp [hne, hea]) (by simp), ⟨?_, st.2, p⟩, fun b hb => hb, fun j h' s' => ?_, fun v h' hY => ?_⟩
    · obtain ⟨old, he⟩ := st.1
      exact ⟨old, by rw [Int.zero_add]; exact he⟩
    · obtain ⟨⟨old, he⟩, s2, _⟩ := s'
      exact ⟨⟨old, by rw [Int.zero_add] at he; exact he⟩, s2⟩
    · obtain ⟨T, t, x, rfl, hT, hx, ht⟩ := hY
      rw [Int.zero_add] at ht
      have hx2 : its[i]? = some x := by simpa using hx
      have hi : i < xs.length := by
        rw [rv.length]
        exact (List.getElem?_eq_some_iff.mp hx2).1
      obtain ⟨u, hu, ru⟩ := rv.get (List.getElem?_eq_getElem hi)
      rw [hx2] at hu
      cases hu
      refine ⟨T, _, _, .int (i : Nat), xs[i], rfl, hT, ht, ⟨_, rfl⟩, ru, rfl, fun ys hy => ?_⟩
      rw [← hK] at hy
      rw [I.tuple_inj hy hxs]
      exact List.getElem?_eq_getElem hi
/-! ### zip of two texts -/
def ZpT (z1 z2 : Str) : It := ItP (fun _ m => m = min z1.cps.size z2.cps.size) (fun i _ x => ∃ c, z1.cps[i]? = some c ∧ x = .str ⟨#[c]⟩) (fun i _ y => ∃ c, z2.cps[i]? = some c ∧ y = .str ⟨#[c]⟩)
theorem turn_zpT {P : Program} {w : World} {K : PySem.W.Frag} {elts : List Expr} {kk : Nat} {tpos : Pos} (z1 z2 : Str) (t1 t2 : Tok) {z TI TO i1 i2 : Addr} (S : ZipSep2 z TI TO i1 i2 [i1] [i2]) :
    Turn P w K (.Tuple elts kk tpos) (ZpT z1 z2) [z, TI, TO, i1, i2] z (fun i h => IsZip h z TI TO .none ∧ IsTupOf2 h TI (.ref i1) (.ref i2) ∧ (∃ a1 a2, IsTupOf2 h TO a1 a2) ∧ h.IsStrIter i1 (strIterType z1) z1 t1 i ∧ h.IsStrIter i2 (strIterType z2) z2 t2 i) := by
  refine turn_of (by simp) (fun i h st b hb => ?_) (fun i h h' st k => ?_) (fun X hP hw hK hc i m pn sh sg H I st hm => ?_) fun A i s Q E st h => wpAny_pyIter_zip st.1 h
  · obtain ⟨hz, hTI, ⟨a1, a2, hTO⟩, ⟨o1, e1, _, d1⟩, ⟨o2, e2, _, d2⟩⟩ := st
    rcases (by simpa using hb : b = z ∨ b = TI ∨ b = TO ∨ b = i1 ∨ b = i2) with q | q | q | q | q
    · rw [q]; exact ⟨_, hz, fun v q => nomatch q⟩
    · rw [q]; exact ⟨_, hTI, fun v q => nomatch q⟩
    · rw [q]; exact ⟨_, hTO, fun v q => nomatch q⟩
    · rw [q]; exact ⟨o1, e1, fun v q => by rw [d1] at q; cases q⟩
    · rw [q]; exact ⟨o2, e2, fun v q => by rw [d2] at q; cases q⟩
  · obtain ⟨hz, hTI, ⟨a1, a2, hTO⟩, ⟨o1, e1, r1⟩, ⟨o2, e2, r2⟩⟩ := st
    exact ⟨k z (by simp) _ hz, k TI (by simp) _ hTI, ⟨a1, a2, k TO (by simp) _ hTO⟩, ⟨o1, k i1 (by simp) _ e1, r1⟩, ⟨o2, k i2 (by simp) _ e2, r2⟩⟩
  · subst hm
    have D1 := Draws.text (prog := P) (w := w) (A := X.A.in1) (by simpa using I.ok.hd hc) i1 z1 t1
    have D2 := Draws.text (prog := P) (w := w) (A := X.A.in1) (by simpa using I.ok.hd hc) i2 z2 t2
    refine ⟨_, _, _, _, GoesN.zip2 (elts := elts) (x1 := kk) (pos := tpos) S D1 D2, st, fun b hb => ?_, fun j h' s' => s', fun v h' hY => ?_⟩
    · rcases (by simpa using hb : b = z ∨ b = TO ∨ b = i1 ∨ b = i2) with q | q | q | q <;> simp [q]
    · obtain ⟨T, x, y, rfl, hT, ⟨c, u, hx, rfl⟩, ⟨d, u', hy, rfl⟩, ht⟩ := hY
      exact ⟨T, _, _, .str ⟨#[c]⟩, .str ⟨#[d]⟩, rfl, hT, ht, ⟨_, rfl⟩, ⟨_, rfl⟩, ⟨c, hx, rfl⟩, ⟨d, hy, rfl⟩⟩

/-! ### how they begin -/
section
variable {P : Program} {w : World} {A : Around} {E : Value → Shared → Prop} {sh : Shared}
theorem meets_enumU (l : Addr) (items : Array Value) :
    Meets (Builtin.«enumerate.__new__» ⟨[.type "enumerate", .ref l], []⟩) (fun _ R s => s.heap.IsTuple l items ∧
      R (.ok (.ret (.ref (s.heap.push { cls := .type "tuple_iterator", data := .fields #[.ref l, .int 0 0] }).objs.size)))
        { s with heap := (s.heap.push { cls := .type "tuple_iterator", data := .fields #[.ref l, .int 0 0] }).push { cls := .type "enumerate", data := .fields #[.none, .bool false, .ref s.heap.objs.size, rawInt 0, .none, .none] } }) :=
  .of_wp fun prog w A R s h => by
    obtain ⟨hp, g, d, tk, os⟩ := s; obtain ⟨hl, h⟩ := h
    have hsub := sub_enumerate
    have q1 : ∀ {A' : Around} {E : Value → Shared → Prop} {Q : Value → Shared → Prop}, Q (.ref hp.objs.size) ⟨hp.push { cls := .type "tuple_iterator", data := .fields #[.ref l, .int 0 0] }, g, d, tk, os⟩ → wpAny (model prog w) A' (pyIter (.ref l)) Q E ⟨hp, g, d, tk, os⟩ :=
      fun q => wpAny_pyIter_tuple hl q
    wp_walk using q1
    refine wpAny_stack_any fun st => wpAny_pure ?_
    split
    · rename_i c _ _ _ _ _
      cases (c == Value.type "enumerate")
      · wp_walk using q1
        exact ⟨_, rfl, h⟩
      · wp_walk using q1
        exact ⟨_, rfl, h⟩
    · wp_walk using q1
      exact ⟨_, rfl, h⟩
theorem call_enumU {l : Addr} {items : Array Value} {Q : Value → Shared → Prop} (hL : sh.heap.IsTuple l items)
    (h : ∀ h', IsEnum h' (sh.heap.objs.size + 1) sh.heap.objs.size 0 .none → h'.IsTupleIter sh.heap.objs.size l 0 → (∀ b o, sh.heap.get? b = some o → h'.get? b = some o) → Q (.ref (sh.heap.objs.size + 1)) { sh with heap := h' }) :
    wpAny (model P w) A (call (.type "enumerate") [.ref l]) Q E sh := by
  refine callType_new F.called_enumerate (by decide) (F.typeCall_enumerate_1 _) (F.newCall_enumerate_1 _) (fun obj => F.args_object_init_2 obj _) F.entry_enumerate_new
    (meets_enumU l items) ⟨hL, ?_⟩
  generalize ho : ({ cls := .type "tuple_iterator", data := .fields #[.ref l, .int 0 0] } : Obj) = o1
  have hz : (sh.heap.push o1).objs.size = sh.heap.objs.size + 1 := Heap.size_push ..
  show _ ∧ _
  rw [hz]
  have he : IsEnum ((sh.heap.push o1).push { cls := .type "enumerate", data := .fields #[.none, .bool false, .ref sh.heap.objs.size, rawInt 0, .none, .none] }) (sh.heap.objs.size + 1) sh.heap.objs.size 0 .none := by
    have := Heap.get?_push_size (sh.heap.push o1) (o := { cls := .type "enumerate", data := .fields #[.none, .bool false, .ref sh.heap.objs.size, rawInt 0, .none, .none] }) rfl
    rw [hz] at this; exact this
  refine ⟨⟨_, he, rfl⟩, h _ he ⟨o1, Heap.get?_push_of_some _ (Heap.get?_push_size _ (by rw [← ho]; rfl)), by rw [← ho], by rw [← ho]; rfl⟩ fun b o x => Heap.get?_push_of_some _ (Heap.get?_push_of_some _ x)⟩
end
section
variable {X : Cx} {e e2 : Expr} {ta : TA} {p pos tpos : Pos} {elts : List Expr} {kk : Nat}
def iEnT (ta : TA) : TI := fun σ H R => ta σ H fun vs H1 => ∃ z, vs = [.str z] ∧ R (EnT z) H1
def iEnU (K : PySem.W.Frag) (ta : TA) : TI := fun σ H R => ta σ H fun vs H1 => ∃ a xs, vs = [.ref a] ∧ SqT K H1 a xs ∧ R (EnU K a) H1
def iZpT (ta : TA) : TI := fun σ H R => ta σ H fun vs H1 => ∃ z1 z2, vs = [.str z1, .str z2] ∧ R (ZpT z1 z2) H1
theorem two_fresh {pn : List (Addr × Obj)} {sg : L2.St} {H : Hp} {sh : Shared} (I : Inv X pn sg H sh) : ∀ b ∈ [sh.heap.objs.size + 1, sh.heap.objs.size], FpOk X pn H b := fun b hb => by
  have hle : sh.heap.objs.size ≤ b := by
    rcases (by simpa using hb : b = sh.heap.objs.size + 1 ∨ b = sh.heap.objs.size) with z | z
    · rw [z]; exact Nat.le_add_right _ _
    · rw [z]; exact Nat.le_refl _
  exact I.fpOk hle (I.hok.fresh hle)
theorem pi_enT (hg : Gl X "enumerate") (hm : X.mg "enumerate" = none) (ha : PA X [e] ta) (hs : starEach [e] X.env = [(false, eval e X.env)] := by rfl) :
    PI X (.Tuple elts kk tpos) (.Call (.Name "enumerate" p) [e] [] pos) (iEnT ta) := by
  refine ⟨fun pn sh sg H R I h => ?_⟩
  refine Call_ (ld_blt I hg hm boot_enumerate (PyProof.Rows.callWith_type1 (thn (ha.run pos pn sh sg H _ I h) fun us s1 ⟨vs, H1, I1, r1, z, ez, q⟩ => ?_) hs rfl))
  subst ez
  obtain ⟨u, rfl, ru⟩ := vals1 r1
  obtain ⟨t, rfl⟩ := ru
  refine call_enumerate_str fun h' he hit hsz hk => wpAny_pyIter_enum he ?_
  have I2 : Inv X pn sg H1 { s1 with heap := h' } := I1.kept (t' := s1.toks) hk
  exact ⟨s1.heap.objs.size + 1, [s1.heap.objs.size + 1, s1.heap.objs.size], _, _, H1, rfl, I2, turn_enT z t (s1.heap.objs.size + 1) s1.heap.objs.size (Nat.succ_ne_self _), ⟨⟨.none, he⟩, hit⟩, two_fresh I1, q⟩
theorem pi_enU (hg : Gl X "enumerate") (hm : X.mg "enumerate" = none) (ha : PA X [e] ta) (hs : starEach [e] X.env = [(false, eval e X.env)] := by rfl) :
    PI X (.Tuple elts kk tpos) (.Call (.Name "enumerate" p) [e] [] pos) (iEnU X.K ta) := by
  refine ⟨fun pn sh sg H R I h => ?_⟩
  refine Call_ (ld_blt I hg hm boot_enumerate (PyProof.Rows.callWith_type1 (thn (ha.run pos pn sh sg H _ I h) fun us s1 ⟨vs, H1, I1, r1, a, xs, ez, hx, q⟩ => ?_) hs rfl))
  subst ez
  obtain ⟨u, rfl, ru⟩ := vals1 r1
  cases ru
  obtain ⟨its, rv, pl, _⟩ := I1.tuple hx
  have hlt : a < s1.heap.objs.size := pl.lt
  refine call_enumU pl fun h' he hit hk => wpAny_pyIter_enum he ?_
  have I2 : Inv X pn sg H1 { s1 with heap := h' } := I1.kept (t' := s1.toks) hk
  exact ⟨s1.heap.objs.size + 1, [s1.heap.objs.size + 1, s1.heap.objs.size], _, _, H1, rfl, I2, turn_enU a (s1.heap.objs.size + 1) s1.heap.objs.size (Nat.succ_ne_self _) (Nat.ne_of_gt (Nat.lt_succ_of_lt hlt)) (Nat.ne_of_lt hlt), ⟨⟨.none, he⟩, hit⟩, two_fresh I1, q⟩
theorem pi_zpT (hg : Gl X "zip") (hm : X.mg "zip" = none) (ha : PA X [e, e2] ta)
    (hs : starEach [e, e2] X.env = (false, eval e X.env) :: starEach [e2] X.env := by rfl) (hpl : (backTo pos (starEach [e2] X.env)).any (·.1) = false := by rfl) :
    PI X (.Tuple elts kk tpos) (.Call (.Name "zip" p) [e, e2] [] pos) (iZpT ta) := by
  refine ⟨fun pn sh sg H R I h => ?_⟩
  refine Call_ (ld_blt I hg hm PyProof.Rows.boot_zip (PyProof.Rows.callWith_type1 (thn (ha.run pos pn sh sg H _ I h) fun us s1 ⟨vs, H1, I1, r1, z1, z2, ez, q⟩ => ?_) hs hpl))
  subst ez
  obtain ⟨u1, u2, rfl, ru1, ru2⟩ := vals2 r1
  obtain ⟨t1, rfl⟩ := ru1
  obtain ⟨t2, rfl⟩ := ru2
  refine zip_begins2 (begins_text z1 t1) (begins_text z2 t2) trivial trivial fun h' hz hTI hTO h1 h2 hsz hk => wpAny_pyIter_zip hz ?_
  have I2 : Inv X pn sg H1 { s1 with heap := h' } := I1.kept (t' := s1.toks) hk
  have S := zip_sep2 (N := s1.heap.objs.size) (fp1 := []) (fp2 := []) (fun b hb => nomatch hb) (fun b hb => nomatch hb)
  refine ⟨s1.heap.objs.size + 4, [s1.heap.objs.size + 4, s1.heap.objs.size + 2, s1.heap.objs.size + 3, s1.heap.objs.size, s1.heap.objs.size + 1], _, _, H1, rfl, I2, turn_zpT z1 z2 t1 t2 S, ⟨hz, hTI, ⟨_, _, hTO⟩, ⟨_, h1, rfl, rfl⟩, ⟨_, h2, rfl, rfl⟩⟩, fun c hc => ?_, q⟩
  have hle : s1.heap.objs.size ≤ c := by
    rcases (by simpa using hc : c = s1.heap.objs.size + 4 ∨ c = s1.heap.objs.size + 2 ∨ c = s1.heap.objs.size + 3 ∨ c = s1.heap.objs.size ∨ c = s1.heap.objs.size + 1) with z | z | z | z | z
    · rw [z]; exact Nat.le_add_right _ _
    · rw [z]; exact Nat.le_add_right _ _
    · rw [z]; exact Nat.le_add_right _ _
    · rw [z]; exact Nat.le_refl _
    · rw [z]; exact Nat.le_add_right _ _
  exact I1.fpOk hle (I1.hok.fresh hle)
end
/-! ### as walks -/
/-- a new pair -/
def YP (f g : Nat → V → Prop) : Nat → Hp → V → Hp → Prop := fun i H v H' => ∃ T x y, v = .ref T ∧ H T = none ∧ H' = upd H T (.tup [x, y]) ∧ f i x ∧ g i y
theorem walk_enT {z : Str} : Walk (EnT z) z.cps.size (fun _ => True) (YP (fun i x => x = .int (i : Nat)) (fun i y => ∃ c, z.cps[i]? = some c ∧ y = .str ⟨#[c]⟩)) :=
  ⟨fun i H hi _ => ⟨_, rfl, hi⟩, fun H _ => rfl, fun i H x H' _ _ y => y⟩
theorem walk_enU {K : PySem.W.Frag} {a : Addr} {xs : List V} : Walk (EnU K a) xs.length (fun H => SqT K H a xs) (YP (fun i x => x = .int (i : Nat)) (fun i y => xs[i]? = some y)) := by
  refine ⟨fun i H hi q => ⟨_, ⟨xs, q, rfl⟩, hi⟩, fun H q => ⟨xs, q, rfl⟩, fun i H x H' _ q y => ?_⟩
  obtain ⟨T, x, y, h1, h2, h3, h4, h5⟩ := y
  exact ⟨T, x, y, h1, h2, h3, h4, h5 xs q⟩
theorem walk_zpT {z1 z2 : Str} : Walk (ZpT z1 z2) (min z1.cps.size z2.cps.size) (fun _ => True) (YP (fun i x => ∃ c, z1.cps[i]? = some c ∧ x = .str ⟨#[c]⟩) (fun i y => ∃ c, z2.cps[i]? = some c ∧ y = .str ⟨#[c]⟩)) :=
  ⟨fun i H hi _ => ⟨_, rfl, hi⟩, fun H _ => rfl, fun i H x H' _ _ y => y⟩
theorem walk_zpU {K : PySem.W.Frag} {a b : Addr} {xs ys : List V} (hl : xs.length = ys.length) : Walk (RZ.ItzT K a b) xs.length (fun H => SqT K H a xs ∧ SqT K H b ys) (YP (fun i x => xs[i]? = some x) (fun i y => ys[i]? = some y)) := by
  refine ⟨fun i H hi q => ?_, fun H q => ⟨xs, ys, q.1, q.2, .inl (Nat.le_refl _)⟩, fun i H v H' _ q y => ?_⟩
  · have h2 : i < ys.length := by omega
    exact ⟨xs, ys, xs[i], ys[i], q.1, q.2, by simp [hi], by simp [h2]⟩
  · obtain ⟨T, x, z, h1, h2, h3, h4, h5⟩ := y
    exact ⟨T, x, z, h1, h2, h3, h4 xs q.1, h5 ys q.2⟩
end Px

set_option maxRecDepth 100000
set_option maxHeartbeats 4000000
/-! PxG: comprehensions whose items are known turn by turn; small words for the walks. -/
namespace Px
open PySem PySem.Spec PyProof.Rows L2

theorem Kp.fresh {H H1 : Hp} {D : Addr} {L : List Addr} (x : Kp (D :: L) H H1) (n : H D = none) : Kp L H H1 :=
  ⟨fun a o m e => x.keep a o (fun q => (List.mem_cons.mp q).elim (fun z => by rw [z, n] at e; cases e) m) e, x.fix⟩
theorem Kp.drop1 {H H1 : Hp} {D : Addr} (x : Kp [D] H H1) (n : H D = none) : Kp [] H H1 := x.fresh n

/-- [e for .. in ..]: the items are told by the relation R (which lasts) -/
theorem lc_rel {J : It} {n : Nat} {G : Hp → Prop} {Y : Nat → Hp → V → Hp → Prop} (w : Walk J n G Y) (L : List Addr) (R : Hp → Nat → V → Prop) (hR : ∀ H H' i v, Kp L H H' → R H i v → R H' i v) (hRD : ∀ H p o i v, (∃ u, H p = some u ∧ Fx u = false) → R H i v → R (upd H p o) i v)
    {g : TG} {te : TE} {vs : List Nat} {σ : L2.St} {H1 : Hp} {D : Addr} {Qd : Hp → Prop} (hn : n ≤ 1000) (nD : H1 D = none) (hDL : D ∉ L) (hG : ∀ H, Kp (D :: L) H1 H → G H)
    (hs : ∀ i x H H' (Z : V → Hp → Prop), i < n → Kp (D :: L) H1 H → Y i H x H' → (∀ y H4, R H4 i y → Kp L H H4 → Z y H4) →
      g x (wipe σ vs) H' fun σ2 H2 => wipe σ2 vs = wipe σ vs ∧ te σ2 H2 Z)
    (hd : ∀ H ys, Kp (D :: L) H1 H → H D = some (.lst ys) → ys.length = n → (∀ i y, ys[i]? = some y → R H i y) → Qd H) :
    ∃ W : Nat → Nat → Hp → Prop, (∃ m, W 0 m (upd H1 D (.lst []))) ∧ ∀ i m H, W i m H →
      (J.stop i H ∧ Qd H) ∨ (J.go i H ∧ ∃ Nx : Hp → Prop, (∀ H', Nx H' → ∃ m', m' < m ∧ W (i + 1) m' H') ∧ ∀ x H', J.yld i H x H' → g x (wipe σ vs) H' fun σ2 H2 => wipe σ2 vs = wipe σ vs ∧ tYes σ2 H2 fun b H3 =>
        if b = true then te σ2 H3 fun y H4 => ∃ acc, H4 D = some (.lst acc) ∧ acc.length < sizeLine ∧ Nx (upd H4 D (.lst (acc ++ [y]))) else Nx H3) := by
  refine lc_it (tt := tYes) w (fun i H => Kp (D :: L) H1 H ∧ ∃ ys, H D = some (.lst ys) ∧ ys.length = i ∧ ∀ j y, ys[j]? = some y → R H j y) ⟨Kp.new nD, [], upd_same, rfl, fun j y e => by simp at e⟩ (fun i H _ q => hG H q.1) ?_ (fun H q => ?_)
  · rintro i x H H' hi ⟨k, ys, hD, hl, hr⟩ y
    refine hs i x H H' (fun y H4 => ∃ acc, H4 D = some (.lst acc) ∧ acc.length < sizeLine ∧ _) hi k y fun v H4 r kk => ?_
    have hD4 := kk.keep D _ hDL hD
    refine ⟨ys, hD4, small1000 (by omega), ?_, ys ++ [v], upd_same, by simp [hl], fun j u e => ?_⟩
    · exact k.trans ((kk.mono fun b m => List.mem_cons_of_mem _ m).trans (Kp.put (List.mem_cons_self ..) hD4 rfl))
    · by_cases hj : j < ys.length
      · rw [List.getElem?_append_left hj] at e
        exact hRD _ _ _ _ _ ⟨_, hD4, rfl⟩ (hR _ _ _ _ kk (hr j u e))
      · rw [List.getElem?_append_right (by omega)] at e
        have : j = i := by
          have := (List.getElem?_eq_some_iff.mp e).1
          simp at this
          omega
        subst this
        rw [show j - ys.length = 0 by omega] at e
        simp at e
        subst e
        exact hRD _ _ _ _ _ ⟨_, hD4, rfl⟩ r
  · obtain ⟨k, ys, hD, hl, hr⟩ := q
    exact hd H ys k hD hl hr
/-- the items are values that the turn tells -/
theorem lc_val {J : It} {n : Nat} {G : Hp → Prop} {Y : Nat → Hp → V → Hp → Prop} (w : Walk J n G Y) (L : List Addr) (f : Nat → V) {g : TG} {te : TE} {vs : List Nat} {σ : L2.St} {H1 : Hp} {D : Addr} {Qd : Hp → Prop} (hn : n ≤ 1000) (nD : H1 D = none) (hDL : D ∉ L) (hG : ∀ H, Kp (D :: L) H1 H → G H)
    (hs : ∀ i x H H' (Z : V → Hp → Prop), i < n → Kp (D :: L) H1 H → Y i H x H' → (∀ H4, Kp L H H4 → Z (f i) H4) →
      g x (wipe σ vs) H' fun σ2 H2 => wipe σ2 vs = wipe σ vs ∧ te σ2 H2 Z)
    (hd : ∀ H, Kp (D :: L) H1 H → H D = some (.lst ((List.range n).map f)) → Qd H) :
    ∃ W : Nat → Nat → Hp → Prop, (∃ m, W 0 m (upd H1 D (.lst []))) ∧ ∀ i m H, W i m H →
      (J.stop i H ∧ Qd H) ∨ (J.go i H ∧ ∃ Nx : Hp → Prop, (∀ H', Nx H' → ∃ m', m' < m ∧ W (i + 1) m' H') ∧ ∀ x H', J.yld i H x H' → g x (wipe σ vs) H' fun σ2 H2 => wipe σ2 vs = wipe σ vs ∧ tYes σ2 H2 fun b H3 =>
        if b = true then te σ2 H3 fun y H4 => ∃ acc, H4 D = some (.lst acc) ∧ acc.length < sizeLine ∧ Nx (upd H4 D (.lst (acc ++ [y]))) else Nx H3) := by
  refine lc_rel w L (fun _ i v => v = f i) (fun _ _ _ _ _ r => r) (fun _ _ _ _ _ _ r => r) hn nD hDL hG (fun i x H H' Z hi k y hZ => hs i x H H' Z hi k y fun H4 kk => hZ _ _ rfl kk) fun H ys k hD hl hr => hd H k ?_
  rw [hD]
  refine congrArg (fun l => some (HO.lst l)) (List.ext_getElem? fun i => ?_)
  by_cases hi : i < n
  · rw [List.getElem?_eq_getElem (by omega), hr i _ (List.getElem?_eq_getElem (by omega)), List.getElem?_map, List.getElem?_range hi]
    rfl
  · rw [List.getElem?_eq_none (by omega), List.getElem?_eq_none (by simp; omega)]
/-- a list read by its turns -/
theorem range_at {α β : Type} (f : α → β) (d : β) : ∀ (xs : List α), (List.range xs.length).map (fun i => (xs[i]?.map f).getD d) = xs.map f := by
  intro xs
  refine List.ext_getElem? fun i => ?_
  by_cases hi : i < xs.length
  · simp [List.getElem?_range hi, List.getElem?_eq_getElem hi]
  · rw [List.getElem?_eq_none (by simp; omega), List.getElem?_eq_none (by simp; omega)]
/-- isinstance(e, T), T a built-in class -/
def tIsi (K : PySem.W.Frag) (ta : TE) (n : String) : TE := fun σ H Q => ta σ H fun v H1 => rIsi K [v, .ty n] H1 Q
theorem pe_isi {X : Cx} {a : Expr} {ta : TE} {x : Str} {n : String} {p p2 pos : Pos} (ha : PE X a ta) (hm1 : X.mg "isinstance" = none) (hm2 : X.mg x = none) (hb : bootBuiltins x = some (.type n)) (hg1 : Gl X "isinstance" := by rfl) (hg2 : Gl X x := by rfl)
    (hn : x ≠ "__name__" := by decide) (hd : (x == ("__debug__" : Str)) = false := by decide)
    (s1 : starEach [a, .Name x p2] X.env = (false, eval a X.env) :: starEach [.Name x p2] X.env := by rfl) (s2 : starEach [.Name x p2] X.env = (false, eval (.Name x p2) X.env) :: starEach [] X.env := by rfl)
    (hpl : (backTo pos (starEach [.Name x p2] X.env)).any (·.1) = false := by rfl) : PE X (.Call (.Name "isinstance" p) [a, .Name x p2] [] pos) (tIsi X.K ta n) :=
  show PE X _ (tCB (rIsi X.K) (tCons ta (tCons (tC (V.ty n)) tNil))) from
  pe_callB call_isi hg1 hm1 PyProof.Rows.boot_isinstance (pa_cons ha (pa_cons (pe_bltn (v := V.ty n) hg2 hm2 hb rfl hn hd) pa_nil s2) s1) (by decide) (by decide) s1 hpl
theorem isiQ {K : PySem.W.Frag} {H : Hp} {v : V} {t n : String} {b : Bool} {Q : VK} (ht : TyX K H v (.type t)) (hk : kitB t n = some b) (q : Q (.bl b) H) : rIsi K [v, .ty n] H Q :=
  ⟨v, .ty n, .type t, .type n, b, rfl, .ty n, ht, kit_ty hk, q⟩
/-- a piece of data that is a tuple -/
theorem sqt_ty {K : PySem.W.Frag} {H : Hp} {a : Addr} {xs : List V} (h : SqT K H a xs) : TyX K H (.ref a) (.type "tuple") := by
  rcases h with (h | ⟨o, h⟩) | ⟨o, its, n, h, c, _⟩
  · exact .base (.tup h)
  · exact .fTuple h
  · exact .kTuple h c
section
variable {X : Cx} {K : PySem.W.Frag} {a e : Expr} {ta te : TE} {f : Str} {pos : Pos}
theorem ixT (h : X.K = K := by rfl) : IxR X (rIxT K) := h ▸ ix_tup
theorem ixL (h : X.K = K := by rfl) : IxR X (rIxL K) := h ▸ ix_list
def rLenQ (K : PySem.W.Frag) : List V → Hp → VK → Prop := fun xs H Q => ∃ p ys, xs = [.ref p] ∧ (SqL K H p ys ∨ SqT K H p ys) ∧ Q (.int ys.length) H
theorem lenK (h : X.K = K := by rfl) : CallR X (.builtin "len") (rLenQ K) := h ▸ call_len_seq
theorem allK (hc : X.calm = true) (h : X.K = K := by rfl) : CallR X (.builtin "all") (rAll K) := h ▸ cr_all hc
theorem sumK (hc : X.calm = true) (h : X.K = K := by rfl) : CallR X (.builtin "sum") (rSum K) := h ▸ cr_sum hc
def rTupOf (K : PySem.W.Frag) : List V → Hp → VK → Prop := fun xs H Q => ∃ p ys, xs = [.ref p] ∧ ((SqL K H p ys ∧ ∀ l, H l = none → Q (.ref l) (upd H l (.tup ys))) ∨ (SqT K H p ys ∧ Q (.ref p) H))
theorem tupK (h : X.K = K := by rfl) : CallR X (.type "tuple") (rTupOf K) := h ▸ call_tuple_of
theorem sortedK (h : X.K = K := by rfl) : CallR X (.builtin "sorted") (rSortedU K) := h ▸ cr_sortedU
theorem isiK {x : Str} {n : String} {p p2 : Pos} (ha : PE X a ta) (hm1 : X.mg "isinstance" = none) (hm2 : X.mg x = none) (hb : bootBuiltins x = some (.type n)) (h : X.K = K := by rfl) (hg1 : Gl X "isinstance" := by rfl) (hg2 : Gl X x := by rfl)
    (hn : x ≠ "__name__" := by decide) (hd : (x == ("__debug__" : Str)) = false := by decide)
    (s1 : starEach [a, .Name x p2] X.env = (false, eval a X.env) :: starEach [.Name x p2] X.env := by rfl) (s2 : starEach [.Name x p2] X.env = (false, eval (.Name x p2) X.env) :: starEach [] X.env := by rfl)
    (hpl : (backTo pos (starEach [.Name x p2] X.env)).any (·.1) = false := by rfl) : PE X (.Call (.Name "isinstance" p) [a, .Name x p2] [] pos) (tIsi K ta n) := h ▸ pe_isi ha hm1 hm2 hb hg1 hg2 hn hd s1 s2 hpl
theorem fldK (he : PE X e ta) (h : X.K = K := by rfl) (hb : attributeBase e f X.env (eval e X.env) = eval e X.env := by rfl) : PE X (.Attribute e f pos) (tFld K ta f) := h ▸ pe_fld he hb
theorem inK (hu : X.A.units + 64 < cLine) (h : X.K = K := by rfl) : OpR X (compareOp .In) (rInN K false) := h ▸ op_inN hu
theorem ninK (hu : X.A.units + 64 < cLine) (h : X.K = K := by rfl) : OpR X (compareOp .NotIn) (rInN K true) := h ▸ op_notInN hu
theorem eqK (hu : X.A.units + 64 < cLine) (h : X.K = K := by rfl) : OpR X (compareOp .Eq) (rEqN K false) := h ▸ op_eqN hu
theorem neK (hu : X.A.units + 64 < cLine) (h : X.K = K := by rfl) : OpR X (compareOp .NotEq) (rEqN K true) := h ▸ op_neN hu
theorem catT (h : X.K = K := by rfl) : OpR X (binaryOp .Add) (rCatA K) := h ▸ op_catA
theorem pgT {es : List Expr} {k : Nat} {t : TGs} {n : Nat} (hc : X.calm = true) (hp : PGs X es t) (h : X.K = K := by rfl) (hn : (assignEach es X.env).length = n := by rfl) (hst : (assignEach es X.env).findIdx? (·.1) = none := by rfl) : PG X (.Tuple es k pos) (gTup K n t) := h ▸ pg_tup hc hp hn hst
theorem kgetK {w : World} {x : Str} {p apos cpos : Pos} {f : Expr} {ty tx : TE} {a : Addr} {es : Array DictEntry} {n : Nat} (hg : Gl X x) (hm : X.mg x = some (.ref a)) (hl : K.lookup a = some ⟨.type "dict", none, .dict es n, #[]⟩) (hk : PySem.W.KeysLit w.params es.toList)
    (he : PE X e ty) (hf : PE X f tx) (m : M2 X (.Name x p) "get" apos e f cpos) (h : X.K = K := by rfl) (h2 : X.w = w := by rfl) (hdb : (x == ("__debug__" : Str)) = false := by decide) : PE X (.Call (.Attribute (.Name x p) "get" apos) [e, f] [] cpos) (tKGet K w a ty tx) := by
  subst h h2
  exact pe_kget hg hm hl hk he hf m hdb
theorem slT (h : X.K = K := by rfl) : SlR X (rSlA K) := h ▸ sl_tupA
end
theorem iteD {p A B : Prop} [Decidable p] (h : p) (x : A) : if decide p = true then A else B := by
  rw [decide_eq_true h]
  exact iteT x
theorem iteN {p A B : Prop} [Decidable p] (h : ¬ p) (x : B) : if decide p = true then A else B := by
  rw [decide_eq_false h]
  exact iteF x
/-- the test's answer turned round -/
theorem iteDn {p A B : Prop} [Decidable p] (h : p) (x : B) : if (!decide p) = true then A else B := by
  rw [decide_eq_true h]
  exact iteF x
theorem iteNn {p A B : Prop} [Decidable p] (h : ¬ p) (x : A) : if (!decide p) = true then A else B := by
  rw [decide_eq_false h]
  exact iteT x
theorem iteB {b : Bool} {A B : Prop} (h : b = true) (x : A) : if b = true then A else B := by
  rw [h]
  exact iteT x
theorem iteBn {b : Bool} {A B : Prop} (h : b = false) (x : B) : if b = true then A else B := by
  rw [h]
  exact iteF x
theorem kp_tup {H H1 : Hp} {T : Addr} {L : List Addr} {xs : List V} (n : H T = none) : Kp L H (upd H T (.tup xs)) := Kp.new n
end Px

set_option maxRecDepth 100000
set_option maxHeartbeats 4000000
/-! PxM: the mirror: policies, rules and their automata in plain Lean. A text is the list of its code points. -/
namespace Px
open PySem L2

abbrev T := List Nat
/-- a text of code points -/
def S (t : T) : Str := ⟨t.toArray⟩
theorem S_cps (t : T) : (S t).cps.toList = t := rfl
theorem S_inj {a b : T} (h : S a = S b) : a = b := by
  have := congrArg (fun x : Str => x.cps.toList) h
  simpa [S] using this
theorem S_eq {a b : T} : S a = S b ↔ a = b := ⟨S_inj, fun h => h ▸ rfl⟩
theorem S_of (x : Str) : S x.cps.toList = x := by
  cases x
  rfl
theorem S_len (t : T) : (S t).length = t.length := by
  show (S t).cps.size = t.length
  simp [S]
theorem S_app (a b : T) : S a ++ S b = S (a ++ b) := by
  show Str.append (S a) (S b) = S (a ++ b)
  unfold Str.append S
  simp
theorem S_nil : S [] = ("" : Str) := rfl

/-! ### policies -/
inductive Rule where
  | size (a : Nat) (b : Option Nat)
  | least (c : T) (n : Nat)
  | most (c : T) (n : Nat)
  | kinds (n : Nat)
  | run (n : Nat)
  | row (n : Nat)
  | nt (s : T)
  | first (c : T)
  | last (c : T)
  deriving DecidableEq
structure Pol where
  cls : List (T × T)
  rules : List Rule
  deriving DecidableEq
def Rule.leaves : Rule → List Leaf
  | .size a b => [.text "size", .num a, match b with | some m => .num m | none => .none]
  | .least c n => [.text "least", .text (S c), .num n]
  | .most c n => [.text "most", .text (S c), .num n]
  | .kinds n => [.text "kinds", .num n]
  | .run n => [.text "run", .num n]
  | .row n => [.text "row", .num n]
  | .nt s => [.text "not", .text (S s)]
  | .first c => [.text "first", .text (S c)]
  | .last c => [.text "last", .text (S c)]
def Rule.key (r : Rule) : NestedKey := .tup (r.leaves.map Leaf.key)
def clsKey (p : T × T) : NestedKey := .tup [.text (S p.1), .text (S p.2)]
def Pol.key (p : Pol) : NestedKey := .tup [.tup (p.cls.map clsKey), .tup (p.rules.map Rule.key)]
def Pol.signs (p : Pol) : T := (p.cls.map (·.2)).flatten
def Pol.names (p : Pol) : List T := p.cls.map (·.1)
theorem leaves_inj {a b : Rule} (h : a.leaves = b.leaves) : a = b := by
  have n : ∀ {i j : Nat}, (i : Int) = (j : Int) → i = j := fun h => Int.ofNat.inj h
  cases a <;> cases b <;> simp only [Rule.leaves, List.cons.injEq, Leaf.text.injEq, Leaf.num.injEq, S_eq, and_true, true_and, reduceCtorEq, and_false, false_and, List.nil_eq, List.cons_ne_nil] at h <;>
    first
    | exact absurd h (by decide +kernel)
    | exact absurd h.1 (by decide +kernel)
    | (rw [n h])
    | (rw [h])
    | (obtain ⟨h1, h2⟩ := h; rw [h1, n h2])
    | (obtain ⟨h1, h2⟩ := h
       rename_i b1 _ b2
       cases b1 <;> cases b2 <;> simp only [reduceCtorEq, Leaf.num.injEq] at h2
       · rw [n h1]
       · rw [n h1, n h2])
theorem leaves_nodup {rs : List Rule} (h : rs.Nodup) : (rs.map Rule.leaves).Nodup := by
  refine List.pairwise_map.mpr (h.imp fun hne e => hne (leaves_inj e))

/-! ### whether a value is a policy -/
def lower : T := tLower.cps.toList
where tLower : Str := "abcdefghijklmnopqrstuvwxyz"
def signs : T := tSigns.cps.toList
where tSigns : Str := "abcdefghijklmnopqrstuvwxyzABCDEFGHIJKLMNOPQRSTUVWXYZ0123456789!#+-?_"
def inB (i a b : Nat) : Bool := decide (a ≤ i) && decide (i ≤ b)
def isOver (x sg : T) (a b : Nat) : Bool := inB x.length a b && x.all fun c => decide (c ∈ sg)
def isRule (names : List T) (sg : T) : Rule → Bool
  | .size a b => inB a 0 12 && (match b with | some m => inB m a 12 | none => true)
  | .least c n => decide (c ∈ names) && inB n 1 4
  | .most c n => decide (c ∈ names) && inB n 0 4
  | .kinds n => inB n 1 4
  | .run n => inB n 1 4
  | .row n => inB n 1 4
  | .nt s => isOver s sg 1 5
  | .first c => decide (c ∈ names)
  | .last c => decide (c ∈ names)
def areCls (cls : List (T × T)) : Bool :=
  inB cls.length 1 4 && (cls.all fun p => isOver p.1 lower 1 6 && isOver p.2 signs 1 6) && decide ((cls.map (·.1)).length = (dd (cls.map (·.1))).length) && decide ((cls.map (·.2)).flatten.length = (dd (cls.map (·.2)).flatten).length)
def isPol (p : Pol) : Bool := areCls p.cls && decide (p.rules.length ≤ 6) && (p.rules.all fun r => isRule p.names p.signs r)

/-! ### automata -/
inductive RS where
  | num (n : Nat)
  | set (l : List T)
  | pair (c : T) (n : Nat)
  | txt (t : T)
  deriving DecidableEq
def RS.key : RS → NestedKey
  | .num n => .num n
  | .set l => .tup (l.map fun t => .text (S t))
  | .pair c n => .tup [.text (S c), .num n]
  | .txt t => .text (S t)
def stKey (st : List RS) : NestedKey := .tup (st.map RS.key)
theorem key_inj {a b : RS} (h : a.key = b.key) : a = b := by
  have tx : ∀ {l m : List T}, l.map (fun t => NestedKey.text (S t)) = m.map (fun t => NestedKey.text (S t)) → l = m := by
    intro l
    induction l with
    | nil => intro m h; cases m with
      | nil => rfl
      | cons _ _ => exact nomatch h
    | cons x l ih => intro m h; cases m with
      | nil => exact nomatch h
      | cons y m =>
        rw [List.map_cons, List.map_cons] at h
        injection h with h1 h2
        injection h1 with h1
        rw [S_inj h1, ih h2]
  cases a with
  | num n => cases b with
    | num m => injection h with h; rw [Int.ofNat.inj h]
    | _ => exact nomatch h
  | txt t => cases b with
    | txt u => injection h with h; rw [S_inj h]
    | _ => exact nomatch h
  | set l => cases b with
    | set m => injection h with h; rw [tx h]
    | pair c n =>
      injection h with h
      cases l with
      | nil => exact nomatch h
      | cons x l => cases l with
        | nil => exact nomatch h
        | cons y l =>
          rw [List.map_cons, List.map_cons] at h
          injection h with _ h
          injection h with h _
          exact nomatch h
    | _ => exact nomatch h
  | pair c n => cases b with
    | pair d m =>
      injection h with h
      injection h with h1 h
      injection h with h2 _
      injection h1 with h1
      injection h2 with h2
      rw [S_inj h1, Int.ofNat.inj h2]
    | set m =>
      injection h with h
      cases m with
      | nil => exact nomatch h
      | cons x l => cases l with
        | nil => exact nomatch h
        | cons y l =>
          rw [List.map_cons, List.map_cons] at h
          injection h with _ h
          injection h with h _
          exact nomatch h
    | _ => exact nomatch h
theorem stKey_inj {a b : List RS} (h : stKey a = stKey b) : a = b := by
  have : ∀ {a b : List RS}, a.map RS.key = b.map RS.key → a = b := by
    intro a
    induction a with
    | nil => intro b h; cases b with
      | nil => rfl
      | cons _ _ => exact nomatch h
    | cons x a ih => intro b h; cases b with
      | nil => exact nomatch h
      | cons y b =>
        rw [List.map_cons, List.map_cons] at h
        injection h with h1 h2
        rw [key_inj h1, ih h2]
  injection h with h
  exact this h
/-- the class of a character -/
def nameOf : List (T × T) → Nat → T
  | [], _ => []
  | p :: r, c => if c ∈ p.2 then p.1 else nameOf r c
/-- the next character in a list -/
def nextIn : T → Nat → Option Nat
  | a :: b :: r, c => if a = c then some b else nextIn (b :: r) c
  | _, _ => none
/-- the next one after a character in its class -/
def nextOf : List (T × T) → Nat → Option Nat
  | [], _ => none
  | p :: r, c => if c ∈ p.2 then nextIn p.2 c else nextOf r c
def start1 : Rule → RS
  | .size .. | .least .. | .most .. => .num 0
  | .kinds _ => .set []
  | .run _ | .row _ => .pair [] 0
  | .nt _ | .first _ | .last _ => .txt []
def counted (many most : Nat) (bound : Bool) : Option RS := if many ≤ most then some (.num many) else if bound then none else some (.num most)
/-- the longest end that is a beginning of s -/
def trim (s : T) : T → T
  | [] => []
  | x :: r => if (x :: r).isPrefixOf s then x :: r else trim s r
def unmatched (s e : T) : Option RS := if s.isSuffixOf e then none else some (.txt (trim s e))
/-- texts by their code points -/
def insT (x : T) : List T → List T
  | [] => [x]
  | y :: r => if x < y then x :: y :: r else y :: insT x r
def sortT (l : List T) : List T := l.foldr insT []
def moved (cls : List (T × T)) (r : Rule) (st : RS) (c : Nat) : Option RS :=
  match r, st with
  | .size a b, .num n => counted (n + 1) (b.getD a) b.isSome
  | .least k m, .num n => counted (n + if nameOf cls c = k then 1 else 0) m false
  | .most k m, .num n => counted (n + if nameOf cls c = k then 1 else 0) m true
  | .kinds _, .set l => some (.set (if nameOf cls c ∈ l then l else sortT (l ++ [nameOf cls c])))
  | .run m, .pair d n => if (if d = [c] then n + 1 else 1) ≤ m then some (.pair [c] (if d = [c] then n + 1 else 1)) else none
  | .row m, .pair d n =>
    let many := match d with | [x] => if nextOf cls x = some c then n + 1 else 1 | _ => 1
    if many ≤ m then some (.pair [c] many) else none
  | .nt s, .txt e => unmatched s (e ++ [c])
  | .first k, .txt d => if d ≠ [] then some (.txt d) else if nameOf cls c = k then some (.txt (nameOf cls c)) else none
  | .last _, .txt _ => some (.txt (nameOf cls c))
  | _, _ => none
def keeps1 (r : Rule) (st : RS) : Bool :=
  match r, st with
  | .size a _, .num n => decide (a ≤ n)
  | .least _ m, .num n => decide (m ≤ n)
  | .kinds m, .set l => decide (m ≤ l.length)
  | .first k, .txt d => decide (d = k)
  | .last k, .txt d => decide (d = k)
  | _, _ => true
def all? : List (Option RS) → Option (List RS)
  | [] => some []
  | none :: _ => none
  | some x :: r => (all? r).map (x :: ·)
def start (p : Pol) : List RS := p.rules.map start1
def stepS (p : Pol) (st : List RS) (c : Nat) : Option (List RS) := all? ((p.rules.zip st).map fun x => moved p.cls x.1 x.2 c)
def step (p : Pol) (st : Option (List RS)) (c : Nat) : Option (List RS) := st.bind fun s => stepS p s c
def fineS (p : Pol) (st : List RS) : Bool := (p.rules.zip st).all fun x => keeps1 x.1 x.2
def fine (p : Pol) (st : Option (List RS)) : Bool := match st with | none => false | some s => fineS p s
def runFrom (p : Pol) (st : Option (List RS)) (t : T) : Option (List RS) := t.foldl (step p) st
def after (p : Pol) (t : T) : Option (List RS) := runFrom p (some (start p)) t
end Px

set_option maxRecDepth 100000
/-! PxX: texts as lists of code points: join, slices, beginnings and ends. -/
namespace Px
open PySem L2
theorem S_SX (t : T) : S t = SX.S t := rfl
theorem joinL_nil : ∀ ys : List T, TL.joinL [] ys = ys.flatten
  | [] => rfl
  | [p] => by simp [TL.joinL]
  | p :: q :: r => by
    show p ++ ([] ++ TL.joinL [] (q :: r)) = _
    rw [joinL_nil (q :: r)]
    simp
theorem join_flat (ys : List T) : Txt.join "" (ys.map S) = S ys.flatten := by
  rw [← joinL_nil]
  exact SX.join_S [] ys
theorem cut_from (a : T) (i : Nat) : cutS (S a) (some (i : Int)) none = S (a.drop i) := by
  unfold cutS
  rw [S_len, HT.sIx_nat, HT.sIx_none, S_cps]
  refine congrArg S ?_
  by_cases h : i ≤ a.length
  · rw [Nat.min_eq_left h, List.take_of_length_le (by simp)]
  · rw [Nat.min_eq_right (by omega), List.drop_of_length_le (Nat.le_refl _), List.drop_of_length_le (by omega), List.take_nil]
theorem cut_to (a : T) (i : Nat) : cutS (S a) none (some (i : Int)) = S (a.take i) := by
  unfold cutS
  rw [S_len, HT.sIx_nat, HT.sIx_none, S_cps]
  refine congrArg S ?_
  rw [List.drop_zero, Nat.sub_zero]
  by_cases h : i ≤ a.length
  · rw [Nat.min_eq_left h]
  · rw [Nat.min_eq_right (by omega), List.take_of_length_le (Nat.le_refl _), List.take_of_length_le (by omega)]
theorem starts_S (a b : T) : Txt.startswith (S a) (S b) = b.isPrefixOf a := by
  unfold Txt.startswith
  rw [PySem.StrLaws.subAt_eq, S_len, S_len]
  show (decide (0 + b.length ≤ a.length) && (((a.drop 0).take b.length) == b)) = _
  rw [List.drop_zero, Bool.eq_iff_iff]
  simp only [Bool.and_eq_true, decide_eq_true_eq, beq_iff_eq, List.isPrefixOf_iff_prefix, List.prefix_iff_eq_take, Nat.zero_add]
  constructor
  · rintro ⟨_, h⟩
    exact h.symm
  · intro h
    refine ⟨?_, h.symm⟩
    rw [h, List.length_take]
    omega
theorem ends_S (a b : T) : Txt.endswith (S a) (S b) = b.isSuffixOf a := by
  unfold Txt.endswith
  rw [PySem.StrLaws.subAt_eq, S_len, S_len]
  show (decide (0 + b.length ≤ a.length) && (((a.drop (a.length - b.length)).take b.length) == b)) = _
  rw [Bool.eq_iff_iff]
  simp only [Bool.and_eq_true, decide_eq_true_eq, beq_iff_eq, List.isSuffixOf_iff_suffix, List.suffix_iff_eq_drop, Nat.zero_add]
  constructor
  · rintro ⟨hl, h⟩
    rw [List.take_of_length_le (by rw [List.length_drop]; omega)] at h
    exact h.symm
  · intro h
    have hl : b.length ≤ a.length := by
      have := congrArg List.length h
      rw [List.length_drop] at this
      omega
    refine ⟨hl, ?_⟩
    rw [List.take_of_length_le (by rw [List.length_drop]; omega)]
    exact h.symm
theorem fold_map {α β : Type} [DecidableEq α] [DecidableEq β] {f : α → β} (inj : ∀ a b, f a = f b → a = b) : ∀ (xs acc : List α), (xs.map f).foldl dstep (acc.map f) = (xs.foldl dstep acc).map f
  | [], _ => rfl
  | x :: xs, acc => by
    have e : dstep (acc.map f) (f x) = (dstep acc x).map f := by
      unfold dstep
      by_cases h : x ∈ acc
      · rw [if_pos h, if_pos (List.mem_map_of_mem h)]
      · rw [if_neg h, if_neg (fun m => by
          obtain ⟨y, hy, e⟩ := List.mem_map.mp m
          exact h (inj _ _ e ▸ hy)), List.map_append]
        rfl
    rw [List.map_cons, List.foldl_cons, e, List.foldl_cons]
    exact fold_map inj xs _
theorem dd_S (xs : List T) : (dd (xs.map S)).length = (dd xs).length := by
  have := fold_map (f := S) (fun a b h => S_inj h) xs []
  unfold dd
  rw [List.map_nil] at this
  rw [this, List.length_map]
end Px

set_option maxRecDepth 100000
set_option maxHeartbeats 4000000
/-! PxW1: policies.py, walked def by def: each says True of a policy. -/
namespace Px
open PySem PySem.Spec PyProof.Rows L2
section
variable {P : Program} {w : World} {K : PySem.W.Frag} {mg : Str → Option Value} {base : Heap}

def spCount : Sp := fun vs H Q _ => ∃ i a b : Int, vs = [.int i, .int a, .int b] ∧ Q (.bl (decide (a ≤ i) && decide (i ≤ b))) H
theorem sc_is_cnt : FnScope ["value", "least", "most"] ["value", "least", "most"] (defScope s_is_count) := ⟨rfl, rfl, rfl, by decide +kernel, rfl, by decide +kernel, by decide +kernel⟩
theorem ok_is_count (T : Top K w mg) : FnOk P w K mg base CX0 1 T.d_is_count.f T.d_is_count.fd ["value", "least", "most"] spCount := by
  refine T.d_is_count.F.ok sc_is_cnt (fun vs H Q E h => ?_) (fun cdv A outer s H vs Q E hr h => ?_)
  · obtain ⟨i, a, b, rfl, _⟩ := h
    rfl
  obtain ⟨i, a, b, rfl, q⟩ := h
  refine ⟨_, pss_one (ps_ret (pe_and (pe_isi (pv 0) T.b_isinstance T.b_int boot_int) (pe_and (pe_not (pe_isi (pv 0) T.b_isinstance T.b_bool boot_bool)) (pe_one (pe_chain op_le op_le (pv 1) (pv 0) (pv 2)))))), ?_⟩
  refine ⟨_, rfl, isiQ (b := true) (.base (.int _)) (by decide +kernel) ⟨_, rfl, iteT ?_⟩⟩
  refine ⟨_, rfl, isiQ (b := false) (.base (.int _)) (by decide +kernel) ⟨_, rfl, _, rfl, iteT ?_⟩⟩
  refine ⟨_, rfl, _, rfl, _, _, rfl, rfl, _, rfl, ite2 (fun h1 => ?_) (fun h1 => ?_)⟩
  · refine ⟨_, rfl, _, _, rfl, rfl, ?_⟩
    rw [h1] at q
    exact q
  · rw [Bool.eq_false_iff.mpr h1] at q
    exact q
def spOver : Sp := fun vs H Q _ => ∃ (x sg : T) (a b : Nat), vs = [.str (S x), .str (S sg), .int a, .int b] ∧ x.length ≤ 1000 ∧ isOver x sg a b = true ∧ ∀ H', Kp [] H H' → Q (.bl true) H'
theorem sc_over : FnScope ["value", "signs", "least", "most", "sign"] ["value", "signs", "least", "most"] (defScope s_is_over) := ⟨rfl, rfl, rfl, by decide +kernel, rfl, by decide +kernel, by decide +kernel⟩
theorem all_true {n : Nat} : (((List.range n).map fun _ => true).all id) = true := by simp
theorem bl_true {n : Nat} : ((List.range n).map fun _ => V.bl true) = ((List.range n).map fun _ => true).map V.bl := by rw [List.map_map]; rfl
theorem ok_is_over (T : Top K w mg) : FnOk P w K mg base CX0 1 T.d_is_over.f T.d_is_over.fd ["value", "signs", "least", "most"] spOver := by
  refine T.d_is_over.F.ok sc_over (fun vs H Q E h => ?_) (fun cdv A outer s H vs Q E hr h => ?_)
  · obtain ⟨x, sg, a, b, rfl, _⟩ := h
    rfl
  obtain ⟨x, sg, a, b, rfl, hl, ho, q⟩ := h
  unfold isOver inB at ho
  simp only [Bool.and_eq_true, decide_eq_true_eq, List.all_eq_true] at ho
  obtain ⟨⟨h1, h2⟩, h3⟩ := ho
  refine ⟨_, pss_one (ps_ret (pe_and (pe_isi (pv 0) T.b_isinstance T.b_str boot_str) (pe_and (pe_chain op_le op_le (pv 2) (pe_callB call_len_str (by rfl) T.b_len PySem.boot_len (pa_cons (pv 0) pa_nil)) (pv 3))
    (pe_one (pe_callB (cr_all rfl) (by rfl) T.b_all PyProof.Rows.boot_all (pa_cons (pe_lc (own := [("sign", 4)]) (g := gName 4) (tt := tYes) rfl sc_over.nd (pi_str (pv 0)) (blkOk_by (N := ["value", "signs", "least", "most", "sign"]) (sc := defScope s_is_over) (by decide +kernel))
      (fun _ _ _ _ _ => pg_name (i := 4) sc_over.nd rfl (Or.inl rfl)) (fun _ _ _ _ _ => pts_nil) (fun _ _ _ _ _ => pe_cmpR op_in_sign (pv 4) (pv 1) rfl)) pa_nil)))))), ?_⟩
  refine ⟨_, rfl, isiQ (b := true) (.base (.str _)) (by decide +kernel) ⟨_, rfl, iteT ?_⟩⟩
  refine ⟨_, rfl, _, rfl, _, rfl, (by rw [S_len]; exact Nat.le_of_lt (small1000 hl)), _, _, rfl, rfl, _, rfl, ?_⟩
  rw [S_len, decide_eq_true (by omega : (a : Int) ≤ (x.length : Int))]
  refine iteT ⟨_, rfl, _, _, rfl, rfl, _, rfl, ?_⟩
  rw [decide_eq_true (by omega : (x.length : Int) ≤ (b : Int))]
  refine iteT ?_
  refine ⟨_, rfl, _, rfl, fun D nD => ?_⟩
  refine lc_val (walk_str (z := S x)) [] (fun _ => .bl true) (by show x.length ≤ 1000; exact hl) nD (fun h => nomatch h) (fun _ _ => trivial) (fun i y H1 H' Z hi k hy hZ => ?_) (fun H1 k hD => ?_)
  · obtain ⟨rfl, c, hc, rfl⟩ := hy
    refine ⟨rfl, _, rfl, _, rfl, _, _, rfl, rfl, ?_⟩
    rw [S_cps, decide_eq_true (h3 c (by
      have := List.mem_of_getElem? (show x[i]? = some c by simpa [S] using hc)
      exact this))]
    exact hZ _ Kp.refl
  · refine ⟨D, (List.range x.length).map fun _ => true, rfl, SqL.of (by rw [hD]; exact congrArg (fun l => some (HO.lst l)) bl_true), ?_⟩
    rw [all_true]
    exact q _ (k.drop1 nD)
/-! ### signs_of -/
theorem Dk.pair {H : Hp} {v : V} {c : T × T} (d : Dk K H v (clsKey c)) : ∃ a, v = .ref a ∧ SqT K H a [.str (S c.1), .str (S c.2)] := by
  obtain ⟨a, xs, rfl, h, e⟩ := Dk.tupI d
  obtain ⟨x, r, rfl, d1, e2⟩ := e.consI
  obtain ⟨y, r, rfl, d2, e3⟩ := e2.consI
  cases e3.nilI
  cases d1.txtI
  cases d2.txtI
  exact ⟨a, rfl, h⟩
theorem Dk.pol {H : Hp} {v : V} {p : Pol} (d : Dk K H v p.key) : ∃ a c r xs ys, v = .ref a ∧ SqT K H a [.ref c, .ref r] ∧ SqT K H c xs ∧ DkA K H xs (p.cls.map clsKey) ∧ SqT K H r ys ∧ DkA K H ys (p.rules.map Rule.key) := by
  obtain ⟨a, zs, rfl, h, e⟩ := Dk.tupI d
  obtain ⟨x, r, rfl, d1, e2⟩ := e.consI
  obtain ⟨y, r, rfl, d2, e3⟩ := e2.consI
  obtain ⟨c, xs, rfl, h1, d1⟩ := d1.tupI
  obtain ⟨r', ys, rfl, h2, d2⟩ := d2.tupI
  cases e3.nilI
  exact ⟨a, c, r', xs, ys, rfl, h, h1, d1, h2, d2⟩
def Small (p : Pol) : Prop := p.cls.length ≤ 4 ∧ ∀ c ∈ p.cls, c.1.length ≤ 6 ∧ c.2.length ≤ 6
theorem sum_le {n : Nat} : ∀ (ys : List T), (∀ y ∈ ys, y.length ≤ n) → (ys.map fun y => (S y).length).sum ≤ ys.length * n
  | [], _ => by simp
  | y :: ys, h => by
    have := sum_le ys fun z hz => h z (List.mem_cons_of_mem _ hz)
    have := h y (List.mem_cons_self ..)
    simp only [List.map_cons, List.sum_cons, List.length_cons, S_len, Nat.add_mul]
    simp only [S_len] at *
    omega
theorem flat_le {n : Nat} : ∀ (ys : List T), (∀ y ∈ ys, y.length ≤ n) → ys.flatten.length ≤ ys.length * n
  | [], _ => by simp
  | y :: ys, h => by
    have := flat_le ys fun z hz => h z (List.mem_cons_of_mem _ hz)
    have := h y (List.mem_cons_self ..)
    simp only [List.flatten_cons, List.length_append, List.length_cons, Nat.add_mul]
    omega
theorem Small.signs {p : Pol} (h : Small p) : p.signs.length ≤ 24 := by
  have := flat_le (n := 6) (p.cls.map (·.2)) (fun y hy => by
    obtain ⟨c, hc, rfl⟩ := List.mem_map.mp hy
    exact (h.2 c hc).2)
  rw [List.length_map] at this
  have := h.1
  show (p.cls.map (·.2)).flatten.length ≤ 24
  omega
def spSigns (K : PySem.W.Frag) : Sp := fun vs H Q _ => ∃ v p, vs = [v] ∧ Dk K H v (Pol.key p) ∧ Small p ∧ ∀ H', Kp [] H H' → Q (.str (S p.signs)) H'
theorem sc_signs : FnScope ["policy", "pair"] ["policy"] (defScope s_signs_of) := ⟨rfl, rfl, rfl, by decide +kernel, rfl, by decide +kernel, by decide +kernel⟩
theorem ok_signs_of (T : Top K w mg) : FnOk P w K mg base CX0 1 T.d_signs_of.f T.d_signs_of.fd ["policy"] (spSigns K) := by
  refine T.d_signs_of.F.ok sc_signs (fun vs H Q E h => ?_) (fun cdv A outer s H vs Q E hr h => ?_)
  · obtain ⟨v, p, rfl, _⟩ := h
    rfl
  obtain ⟨v, p, rfl, d, hs, q⟩ := h
  obtain ⟨a, c, r, xs, ys, rfl, h0, h1, d1, h2, d2⟩ := d.pol
  refine ⟨_, pss_one (ps_ret (pe_join pe_str (pe_lc (own := [("pair", 1)]) (g := gName 1) (tt := tYes) rfl sc_signs.nd (pi_tup (pe_ix ix_tup (pv 0) pe_int (fun _ _ => rfl))) (blkOk_by (N := ["policy", "pair"]) (sc := defScope s_signs_of) (by decide +kernel))
      (fun _ _ _ _ _ => pg_name (i := 1) sc_signs.nd rfl (Or.inl rfl)) (fun _ _ _ _ _ => pts_nil) (fun _ _ _ _ _ => pe_ix (r := rIxT K) ix_tup (pv 1) pe_int (fun _ _ => rfl))))), ?_⟩
  have hl := d1.length
  rw [List.length_map] at hl
  refine ⟨⟨_, rfl⟩, _, rfl, a, _, _, _, rfl, rfl, h0, atI_nat (j := 0) rfl, c, rfl, ⟨xs, h1⟩, fun D nD => ?_⟩
  refine lc_val (walk_tup (xs := xs)) [] (fun i => ((p.cls[i]?).map fun z => V.str (S z.2)).getD .non) (by have := hs.1; omega) nD (fun h => nomatch h) (fun H' k => (k.drop1 nD).sqt h1) (fun i y H1 H' Z hi k hy hZ => ?_) (fun H1 k hD => ?_)
  · obtain ⟨rfl, hx⟩ := hy
    obtain ⟨kk, e, dk⟩ := d1.get hx
    rw [List.getElem?_map] at e
    obtain ⟨z, e1, rfl⟩ := Option.map_eq_some_iff.mp e
    obtain ⟨b, rfl, hb⟩ := (dk.kp (k.drop1 nD)).pair
    refine ⟨rfl, _, rfl, b, _, _, _, rfl, rfl, hb, atI_nat (j := 1) rfl, ?_⟩
    have := hZ _ Kp.refl
    rw [e1] at this
    exact this
  · rw [hl, range_at] at hD
    refine ⟨_, D, (p.cls.map (·.2)).map S, rfl, rfl, .inl (SqL.of (by rw [hD, List.map_map, List.map_map]; rfl)), ?_, ?_⟩
    · have := sum_le (n := 6) (p.cls.map (·.2)) (fun y hy => by
        obtain ⟨c, hc, rfl⟩ := List.mem_map.mp hy
        exact (hs.2 c hc).2)
      have h4 := hs.1
      rw [List.map_map]
      rw [List.length_map] at this
      have e0 : ("" : Str).length = 0 := rfl
      rw [e0, Nat.mul_zero]
      exact Nat.le_trans this (by omega)
    · show Q (.str (Txt.join "" ((p.cls.map (·.2)).map S))) H1
      rw [join_flat]
      exact q _ (k.drop1 nD)
/-! ### are_classes -/
theorem areCls_use {cls : List (T × T)} (h : areCls cls = true) : 1 ≤ cls.length ∧ cls.length ≤ 4 ∧ (∀ p ∈ cls, isOver p.1 lower 1 6 = true ∧ isOver p.2 signs 1 6 = true) ∧ (cls.map (·.1)).length = (dd (cls.map (·.1))).length ∧ (cls.map (·.2)).flatten.length = (dd (cls.map (·.2)).flatten).length := by
  unfold areCls inB at h
  simp only [Bool.and_eq_true, decide_eq_true_eq, List.all_eq_true] at h
  obtain ⟨⟨⟨⟨h1, h2⟩, h3⟩, h4⟩, h5⟩ := h
  exact ⟨h1, h2, h3, h4, h5⟩
theorem over_len {x sg : T} {a b : Nat} (h : isOver x sg a b = true) : a ≤ x.length ∧ x.length ≤ b := by
  unfold isOver inB at h
  simp only [Bool.and_eq_true, decide_eq_true_eq] at h
  exact h.1
theorem areCls_small {cls : List (T × T)} (h : areCls cls = true) : Small ⟨cls, []⟩ :=
  ⟨(areCls_use h).2.1, fun c hc => ⟨(over_len ((areCls_use h).2.2.1 c hc).1).2, (over_len ((areCls_use h).2.2.1 c hc).2).2⟩⟩
theorem S_lower : S lower = tLOWER := S_of _
theorem S_signs : S signs = tSIGNS := S_of _
def spAre (K : PySem.W.Frag) : Sp := fun vs H Q _ => ∃ v cls, vs = [v] ∧ Dk K H v (.tup (cls.map clsKey)) ∧ areCls cls = true ∧ ∀ H', Kp [] H H' → Q (.bl true) H'
theorem sc_are_classes : FnScope ["value", "names", "signs", "pair"] ["value"] (defScope s_are_classes) := ⟨rfl, rfl, rfl, by decide +kernel, rfl, by decide +kernel, by decide +kernel⟩
theorem ok_are_classes (T : Top K w mg) : FnOk P w K mg base CX0 2 T.d_are_classes.f T.d_are_classes.fd ["value"] (spAre K) := by
  refine T.d_are_classes.F.ok sc_are_classes (fun vs H Q E h => ?_) (fun cdv A outer s H vs Q E hr h => ?_)
  · obtain ⟨v, p, rfl, _⟩ := h
    rfl
  obtain ⟨v, cls, rfl, d, hc, q⟩ := h
  obtain ⟨c, xs, rfl, h1, d1⟩ := d.tupI
  have hu := hr.units
  have hsm := areCls_small hc
  obtain ⟨c1, c2, c3, c4, c5⟩ := areCls_use hc
  have hl := d1.length
  rw [List.length_map] at hl
  obtain ⟨tk_CLASSES, m_CLASSES⟩ := T.k_CLASSES
  obtain ⟨tk_LOWER, m_LOWER⟩ := T.k_LOWER
  obtain ⟨tk_SIGNS, m_SIGNS⟩ := T.k_SIGNS
  refine ⟨_, pss_cons (ps_if (PW.pt (pw_or (pt_not (pt_val (isiK (K := K) (pv 0) T.b_isinstance T.b_tuple boot_tuple))) (pw_or1 (pt_not (pt_chain op_le op_le (pe_int) (pe_callB (lenK (K := K)) (by rfl) T.b_len PySem.boot_len (pa_cons (pv 0) (pa_nil))) (pe_glob (v := .int 4) (by rfl) m_CLASSES ⟨_, rfl⟩)))))) (pss_one (ps_ret (pe_bl))) (pss_nil))
    (pss_cons (ps_if (pt_not (pt_val (pe_callB (allK (K := K) rfl) (by rfl) T.b_all PyProof.Rows.boot_all (pa_cons (pe_lc (own := [("pair", 3)]) (g := gName 3) (tt := tYes) rfl sc_are_classes.nd (pi_tup (pv 0)) (blkOk_by (own := [("pair", 3)]) (N := ["value", "names", "signs", "pair"]) (sc := defScope s_are_classes) (by decide +kernel)) (fun _ _ _ _ _ => pg_name (i := 3) sc_are_classes.nd rfl (Or.inl rfl)) (fun _ _ _ _ _ => pts_nil) (fun _ _ _ _ _ => pe_and (isiK (K := K) (pv 3) T.b_isinstance T.b_tuple boot_tuple) (pe_one (pe_cmpR op_eq (pe_callB (lenK (K := K)) (by rfl) T.b_len PySem.boot_len (pa_cons (pv 3) (pa_nil))) (pe_int) (nomark _))))) (pa_nil))))) (pss_one (ps_ret (pe_bl))) (pss_nil))
    (pss_cons (ps_if (pt_not (pt_val (pe_callB (allK (K := K) rfl) (by rfl) T.b_all PyProof.Rows.boot_all (pa_cons (pe_lc (own := [("pair", 3)]) (g := gName 3) (tt := tYes) rfl sc_are_classes.nd (pi_tup (pv 0)) (blkOk_by (own := [("pair", 3)]) (N := ["value", "names", "signs", "pair"]) (sc := defScope s_are_classes) (by decide +kernel)) (fun _ _ _ _ _ => pg_name (i := 3) sc_are_classes.nd rfl (Or.inl rfl)) (fun _ _ _ _ _ => pts_nil) (fun _ _ _ _ _ => pe_and (pe_call (ok_is_over (P := P) (base := base) T) hr (by rfl) T.d_is_over.m T.d_is_over.F.kp T.d_is_over.b .nil pass0 (pa_cons (pe_ix (ixT (K := K)) (pv 3) (pe_int) (fun _ _ => rfl)) (pa_cons (pe_glob (v := .str tLOWER) (by rfl) m_LOWER ⟨_, rfl⟩) (pa_cons (pe_int) (pa_cons (pe_int) (pa_nil)))))) (pe_one (pe_call (ok_is_over (P := P) (base := base) T) hr (by rfl) T.d_is_over.m T.d_is_over.F.kp T.d_is_over.b .nil pass0 (pa_cons (pe_ix (ixT (K := K)) (pv 3) (pe_int) (fun _ _ => rfl)) (pa_cons (pe_glob (v := .str tSIGNS) (by rfl) m_SIGNS ⟨_, rfl⟩) (pa_cons (pe_int) (pa_cons (pe_int) (pa_nil))))))))) (pa_nil))))) (pss_one (ps_ret (pe_bl))) (pss_nil))
    (pss_cons (ps_par (i := 1) (j := 2) rfl sc_are_classes.nd rfl rfl (by decide) rfl rfl (pa_cons (pe_lc (own := [("pair", 3)]) (g := gName 3) (tt := tYes) rfl sc_are_classes.nd (pi_tup (pv 0)) (blkOk_by (own := [("pair", 3)]) (N := ["value", "names", "signs", "pair"]) (sc := defScope s_are_classes) (by decide +kernel)) (fun _ _ _ _ _ => pg_name (i := 3) sc_are_classes.nd rfl (Or.inl rfl)) (fun _ _ _ _ _ => pts_nil) (fun _ _ _ _ _ => pe_ix (ixT (K := K)) (pv 3) (pe_int) (fun _ _ => rfl))) (pa_cons (pe_join (pe_str) (pe_lc (own := [("pair", 3)]) (g := gName 3) (tt := tYes) rfl sc_are_classes.nd (pi_tup (pv 0)) (blkOk_by (own := [("pair", 3)]) (N := ["value", "names", "signs", "pair"]) (sc := defScope s_are_classes) (by decide +kernel)) (fun _ _ _ _ _ => pg_name (i := 3) sc_are_classes.nd rfl (Or.inl rfl)) (fun _ _ _ _ _ => pts_nil) (fun _ _ _ _ _ => pe_ix (ixT (K := K)) (pv 3) (pe_int) (fun _ _ => rfl)))) (pa_nil))) (by rfl))
    (pss_one (ps_ret (pe_and (pe_cmpR op_eq (pe_callB (lenK (K := K)) (by rfl) T.b_len PySem.boot_len (pa_cons (pv 1) (pa_nil))) (pe_lenSet hu rfl (by rfl) T.b_len (by rfl) T.b_set (pv 1)) (nomark _)) (pe_one (pe_cmpR op_eq (pe_callB call_len_str (by rfl) T.b_len PySem.boot_len (pa_cons (pv 2) (pa_nil))) (pe_lenSet hu rfl (by rfl) T.b_len (by rfl) T.b_set (pv 2)) (nomark _))))))))), ?_⟩
  have at_ : ∀ {i : Nat} {x : V} {L : List Addr} {H1 : Hp}, Kp L H H1 → xs[i]? = some x → ∃ z ∈ cls, cls[i]? = some z ∧ ∃ b, x = .ref b ∧ SqT K H1 b [.str (S z.1), .str (S z.2)] := fun k hx => by
    obtain ⟨kk, e, dk⟩ := d1.get hx
    rw [List.getElem?_map] at e
    obtain ⟨z, e1, rfl⟩ := Option.map_eq_some_iff.mp e
    exact ⟨z, List.mem_of_getElem? e1, e1, (dk.kp k).pair⟩
  refine ⟨_, rfl, isiQ (b := true) (sqt_ty h1) (by decide +kernel) ⟨_, rfl, iteF ?_⟩⟩
  refine ⟨_, rfl, c, _, rfl, .inr h1, _, _, rfl, rfl, _, rfl, ?_⟩
  rw [hl, decide_eq_true (by omega : (1 : Int) ≤ (cls.length : Int))]
  refine iteT ⟨_, _, rfl, rfl, _, rfl, ?_⟩
  rw [decide_eq_true (by omega : (cls.length : Int) ≤ 4)]
  refine iteF ?_
  -- every one a pair
  refine ⟨_, rfl, c, rfl, ⟨xs, h1⟩, fun D nD => ?_⟩
  refine lc_val (walk_tup (xs := xs)) [] (fun _ => .bl true) (by omega) nD (fun h => nomatch h) (fun H' k => (k.drop1 nD).sqt h1) (fun i y H1 H' Z hi k hy hZ => ?_) (fun H1 k hD => ?_)
  · obtain ⟨rfl, hx⟩ := hy
    obtain ⟨z, _, _, b, rfl, hb⟩ := at_ (k.drop1 nD) hx
    refine ⟨rfl, _, rfl, isiQ (b := true) (sqt_ty hb) (by decide +kernel) ⟨_, rfl, iteT ?_⟩⟩
    refine ⟨_, rfl, b, _, rfl, .inr hb, rfl, ?_⟩
    exact hZ _ Kp.refl
  have k1 := k.drop1 nD
  refine ⟨D, (List.range xs.length).map fun _ => true, rfl, SqL.of (by rw [hD]; exact congrArg (fun l => some (HO.lst l)) bl_true), _, rfl, ?_⟩
  rw [all_true]
  refine iteF ?_
  -- names and signs
  refine ⟨_, rfl, c, rfl, ⟨xs, k1.sqt h1⟩, fun D2 nD2 => ?_⟩
  refine lc_val (walk_tup (xs := xs)) [] (fun _ => .bl true) (by omega) nD2 (fun h => nomatch h) (fun H' k => (k1.trans (k.drop1 nD2)).sqt h1) (fun i y H2 H' Z hi k hy hZ => ?_) (fun H2 k2 hD2 => ?_)
  · obtain ⟨rfl, hx⟩ := hy
    obtain ⟨z, hz, _, b, rfl, hb⟩ := at_ (k1.trans (k.drop1 nD2)) hx
    refine ⟨rfl, _, rfl, b, _, _, _, rfl, rfl, hb, atI_nat (j := 0) rfl, ?_⟩
    refine ⟨z.1, lower, 1, 6, by rw [S_lower]; rfl, by have := (hsm.2 z hz).1; omega, (c3 z hz).1, fun H3 k3 => ⟨_, rfl, iteT ?_⟩⟩
    refine ⟨_, rfl, b, _, _, _, rfl, rfl, k3.sqt hb, atI_nat (j := 1) rfl, ?_⟩
    refine ⟨z.2, signs, 1, 6, by rw [S_signs]; rfl, by have := (hsm.2 z hz).2; omega, (c3 z hz).2, fun H4 k4 => ?_⟩
    exact hZ _ (k3.trans k4)
  have k3 := k1.trans (k2.drop1 nD2)
  refine ⟨D2, (List.range xs.length).map fun _ => true, rfl, SqL.of (by rw [hD2]; exact congrArg (fun l => some (HO.lst l)) bl_true), _, rfl, ?_⟩
  rw [all_true]
  refine iteF ?_
  -- names, signs = ..
  refine ⟨_, rfl, c, rfl, ⟨xs, k3.sqt h1⟩, fun D3 nD3 => ?_⟩
  refine lc_val (walk_tup (xs := xs)) [] (fun i => ((cls[i]?).map fun z => V.str (S z.1)).getD .non) (by omega) nD3 (fun h => nomatch h) (fun H' k => (k3.trans (k.drop1 nD3)).sqt h1) (fun i y H3 H' Z hi k hy hZ => ?_) (fun H3 k4 hD3 => ?_)
  · obtain ⟨rfl, hx⟩ := hy
    obtain ⟨z, hz, e1, b, rfl, hb⟩ := at_ (k3.trans (k.drop1 nD3)) hx
    refine ⟨rfl, _, rfl, b, _, _, _, rfl, rfl, hb, atI_nat (j := 0) rfl, ?_⟩
    have := hZ _ Kp.refl
    rw [e1] at this
    exact this
  rw [hl, range_at] at hD3
  have k5 := k3.trans (k4.drop1 nD3)
  refine ⟨⟨_, rfl⟩, _, rfl, c, rfl, ⟨xs, k5.sqt h1⟩, fun D4 nD4 => ?_⟩
  refine lc_val (walk_tup (xs := xs)) [] (fun i => ((cls[i]?).map fun z => V.str (S z.2)).getD .non) (by omega) nD4 (fun h => nomatch h) (fun H' k => (k5.trans (k.drop1 nD4)).sqt h1) (fun i y H4 H' Z hi k hy hZ => ?_) (fun H4 k6 hD4 => ?_)
  · obtain ⟨rfl, hx⟩ := hy
    obtain ⟨z, hz, e1, b, rfl, hb⟩ := at_ (k5.trans (k.drop1 nD4)) hx
    refine ⟨rfl, _, rfl, b, _, _, _, rfl, rfl, hb, atI_nat (j := 1) rfl, ?_⟩
    have := hZ _ Kp.refl
    rw [e1] at this
    exact this
  rw [hl, range_at] at hD4
  have k7 := k5.trans (k6.drop1 nD4)
  refine ⟨_, D4, (cls.map (·.2)).map S, rfl, rfl, .inl (SqL.of (by rw [hD4, List.map_map, List.map_map]; rfl)), ?_, ?_⟩
  · have := sum_le (n := 6) (cls.map (·.2)) (fun y hy => by
      obtain ⟨c, hc, rfl⟩ := List.mem_map.mp hy
      exact (hsm.2 c hc).2)
    rw [List.map_map]
    rw [List.length_map] at this
    have e0 : ("" : Str).length = 0 := rfl
    rw [e0, Nat.mul_zero]
    exact Nat.le_trans this (by omega)
  rw [show Txt.join (_ : Str) ((cls.map (·.2)).map S) = S (cls.map (·.2)).flatten from join_flat _]
  have hs24 : (cls.map (·.2)).flatten.length ≤ 24 := hsm.signs
  refine ⟨_, _, rfl, ?_⟩
  have gD3 : H4 D3 = some (.lst ((cls.map (fun z => S z.1)).map V.str)) := by
    rw [(k6.drop1 nD4).at0 hD3, List.map_map]
    rfl
  refine ⟨_, rfl, D3, _, rfl, .inl (SqL.of gD3), _, rfl, .inl ⟨D3, _, rfl, SqL.of gD3, by rw [List.length_map]; omega, rfl, _, rfl, ?_⟩⟩
  have e1 : V.int (((cls.map (fun z => S z.1)).map V.str).length : Nat) = V.int ((dd (cls.map (fun z => S z.1))).length : Nat) := by
    have := dd_S (cls.map (·.1))
    rw [List.map_map] at this
    rw [show cls.map (fun z => S z.1) = cls.map (S ∘ (·.1)) from rfl, this, ← c4, List.length_map, List.length_map, List.length_map]
  rw [decide_eq_true e1]
  refine iteT ?_
  refine ⟨_, rfl, _, rfl, by rw [S_len]; exact Nat.le_of_lt (small1000 (by omega)), _, rfl, .inr (.inl ⟨_, rfl, by show (S _).length ≤ _; rw [S_len]; omega, rfl, ?_⟩)⟩
  have e2 : V.int ((S (cls.map (·.2)).flatten).length : Nat) = V.int ((dd (S (cls.map (·.2)).flatten).cps.toList).length : Nat) := by
    rw [S_cps, S_len, ← c5]
  rw [decide_eq_true e2]
  exact q _ k7
/-! ### is_name, is_rule -/
def spName (K : PySem.W.Frag) : Sp := fun vs H Q _ => ∃ (x : T) (a : Addr) (ns : List T), vs = [.str (S x), .ref a] ∧ SqL K H a (ns.map fun t => .str (S t)) ∧ Q (.bl (decide (x ∈ ns))) H
theorem sc_is_name : FnScope ["value", "names"] ["value", "names"] (defScope s_is_name) := ⟨rfl, rfl, rfl, by decide +kernel, rfl, by decide +kernel, by decide +kernel⟩
theorem texts_dk {K : PySem.W.Frag} {H : Hp} : ∀ ns : List T, DkA K H (ns.map fun t => V.str (S t)) (ns.map fun t => NestedKey.text (S t))
  | [] => .nil
  | t :: ns => .cons (.txt _) (texts_dk ns)
theorem text_mem {x : T} {ns : List T} : (NestedKey.text (S x) ∈ ns.map fun t => NestedKey.text (S t)) ↔ x ∈ ns := by
  rw [List.mem_map]
  constructor
  · rintro ⟨y, hy, e⟩
    injection e with e
    rw [← S_inj e]
    exact hy
  · intro h
    exact ⟨x, h, rfl⟩
theorem ok_is_name (T : Top K w mg) : FnOk P w K mg base CX0 1 T.d_is_name.f T.d_is_name.fd ["value", "names"] (spName K) := by
  refine T.d_is_name.F.ok sc_is_name (fun vs H Q E h => ?_) (fun cdv A outer s H vs Q E hr h => ?_)
  · obtain ⟨x, a, ns, rfl, _⟩ := h
    rfl
  obtain ⟨x, a, ns, rfl, hn, q⟩ := h
  have hu := hr.units
  refine ⟨_, pss_one (ps_ret (pe_and (isiK (K := K) (pv 0) T.b_isinstance T.b_str boot_str) (pe_one (pe_cmpR (inK (K := K) hu) (pv 0) (pv 1) rfl)))), ?_⟩
  refine ⟨_, rfl, isiQ (b := true) (.base (.str _)) (by decide +kernel) ⟨_, rfl, iteT ?_⟩⟩
  refine ⟨_, rfl, _, rfl, a, _, _, _, rfl, .inl hn, texts_dk ns, .txt _, Nat.zero_le _, ?_⟩
  show Q (.bl (decide _)) H
  rw [show decide (NestedKey.text (S x) ∈ ns.map fun t => NestedKey.text (S t)) = decide (x ∈ ns) from by rw [decide_eq_decide]; exact text_mem]
  exact q
def Rule.word : Rule → Str
  | .size .. => "size"
  | .least .. => "least"
  | .most .. => "most"
  | .kinds _ => "kinds"
  | .run _ => "run"
  | .row _ => "row"
  | .nt _ => "not"
  | .first _ => "first"
  | .last _ => "last"
def Rule.tail (r : Rule) : List Leaf := r.leaves.drop 1
theorem Rule.split (r : Rule) : r.leaves = .text r.word :: r.tail := by cases r <;> rfl
theorem Rule.tail_len (r : Rule) : r.tail.length ≤ 2 := by cases r <;> simp [Rule.tail, Rule.leaves]
theorem Dk.rule {K : PySem.W.Frag} {H : Hp} {v : V} {r : Rule} (d : Dk K H v r.key) : ∃ a xs, v = .ref a ∧ SqT K H a (.str r.word :: xs) ∧ DkA K H xs (r.tail.map Leaf.key) := by
  obtain ⟨a, zs, rfl, h, e⟩ := Dk.tupI d
  rw [Rule.split] at e
  obtain ⟨x, xs, rfl, e1, e2⟩ := e.consI
  cases e1.txtI
  exact ⟨a, xs, rfl, h, e2⟩
def Rule.tag : Rule → Nat
  | .size .. => 0
  | .least .. => 1
  | .most .. => 2
  | .kinds _ => 3
  | .run _ => 4
  | .row _ => 5
  | .nt _ => 6
  | .first _ => 7
  | .last _ => 8
def wd (k : Fin 9) : Str := (["size", "least", "most", "kinds", "run", "row", "not", "first", "last"] : List Str).getD k.1 ""
theorem word_tag (r : Rule) (k : Fin 9) : r.word = wd k ↔ r.tag = k.1 := by
  cases r <;> (simp only [Rule.word, Rule.tag]; revert k; decide +kernel)
theorem word_is {r : Rule} (k : Fin 9) (h : decide (V.str r.word = V.str (wd k)) = true) : r.tag = k.1 := (word_tag r k).mp (V.str.inj (of_decide_eq_true h))
theorem word_not {r : Rule} (k : Fin 9) (h : ¬ decide (V.str r.word = V.str (wd k)) = true) : r.tag ≠ k.1 := fun e => h (decide_eq_true (by rw [(word_tag r k).mpr e]))
theorem word_in {r : Rule} (ks : List (Fin 9)) (h : decide (NestedKey.text r.word ∈ ks.map fun k => NestedKey.text (wd k)) = true) : ∃ k ∈ ks, r.tag = k.1 := by
  obtain ⟨k, hk, e⟩ := List.mem_map.mp (of_decide_eq_true h)
  injection e with e
  exact ⟨k, hk, (word_tag r k).mp e.symm⟩
theorem word_notin {r : Rule} (ks : List (Fin 9)) (h : ¬ decide (NestedKey.text r.word ∈ ks.map fun k => NestedKey.text (wd k)) = true) : ∀ k ∈ ks, r.tag ≠ k.1 := fun k hk e =>
  h (decide_eq_true (List.mem_map.mpr ⟨k, hk, by rw [(word_tag r k).mpr e]⟩))
def spRule (K : PySem.W.Frag) : Sp := fun vs H Q _ => ∃ (v : V) (r : Rule) (a : Addr) (ns : List T) (sg : T), vs = [v, .ref a, .str (S sg)] ∧ Dk K H v r.key ∧ SqL K H a (ns.map fun t => .str (S t)) ∧ isRule ns sg r = true ∧ ∀ H', Kp [] H H' → Q (.bl true) H'
theorem sc_is_rule : FnScope ["value", "names", "signs", "word", "rest"] ["value", "names", "signs"] (defScope s_is_rule) := ⟨rfl, rfl, rfl, by decide +kernel, rfl, by decide +kernel, by decide +kernel⟩
theorem ok_is_rule (T : Top K w mg) : FnOk P w K mg base CX0 2 T.d_is_rule.f T.d_is_rule.fd ["value", "names", "signs"] (spRule K) := by
  refine T.d_is_rule.F.ok sc_is_rule (fun vs H Q E h => ?_) (fun cdv A outer s H vs Q E hr h => ?_)
  · obtain ⟨v, r, a, ns, sg, rfl, _⟩ := h
    rfl
  obtain ⟨v, r, a, ns, sg, rfl, d, hn, hr1, q⟩ := h
  obtain ⟨c, xs, rfl, h1, d1⟩ := d.rule
  have hu := hr.units
  have hl := d1.length
  rw [List.length_map] at hl
  have htl := r.tail_len
  obtain ⟨tk_SIZE, m_SIZE⟩ := T.k_SIZE
  refine ⟨_, pss_cons (ps_if (PW.pt (pw_or (pt_not (pt_val (isiK (K := K) (pv 0) T.b_isinstance T.b_tuple boot_tuple))) (pw_or (pt_not (pt_truth (pv 0) (by intro _; rfl))) (pw_or1 (pt_not (pt_val (isiK (K := K) (pe_ix (ixT (K := K)) (pv 0) (pe_int) (fun _ _ => rfl)) T.b_isinstance T.b_str boot_str))))))) (pss_one (ps_ret (pe_bl))) (pss_nil))
    (pss_cons (ps_par (i := 3) (j := 4) rfl sc_is_rule.nd rfl rfl (by decide) rfl rfl (pa_cons (pe_ix (ixT (K := K)) (pv 0) (pe_int) (fun _ _ => rfl)) (pa_cons (pe_slice (slT (K := K)) (pv 0) (po_some (pe_int)) po_none) (pa_nil))) (by rfl))
    (pss_cons (ps_if (pt_cmpR op_eq (pv 3) (pe_str) (nomark _)) (pss_cons (ps_if (PW.pt (pw_or (pt_cmpR op_ne (pe_callB (lenK (K := K)) (by rfl) T.b_len PySem.boot_len (pa_cons (pv 4) (pa_nil))) (pe_int) (nomark _)) (pw_or1 (pt_not (pt_val (pe_call (ok_is_count (P := P) (base := base) T) hr (by rfl) T.d_is_count.m T.d_is_count.F.kp T.d_is_count.b .nil pass0 (pa_cons (pe_ix (ixT (K := K)) (pv 4) (pe_int) (fun _ _ => rfl)) (pa_cons (pe_int) (pa_cons (pe_glob (v := .int 12) (by rfl) m_SIZE ⟨_, rfl⟩) (pa_nil)))))))))) (pss_one (ps_ret (pe_bl))) (pss_nil))
    (pss_one (ps_ret (pe_or (pe_cmpR op_isN (pe_ix (ixT (K := K)) (pv 4) (pe_int) (fun _ _ => rfl)) pe_non (nomark _)) (pe_one (pe_call (ok_is_count (P := P) (base := base) T) hr (by rfl) T.d_is_count.m T.d_is_count.F.kp T.d_is_count.b .nil pass0 (pa_cons (pe_ix (ixT (K := K)) (pv 4) (pe_int) (fun _ _ => rfl)) (pa_cons (pe_ix (ixT (K := K)) (pv 4) (pe_int) (fun _ _ => rfl)) (pa_cons (pe_glob (v := .int 12) (by rfl) m_SIZE ⟨_, rfl⟩) (pa_nil)))))))))) (pss_nil))
    (pss_cons (ps_if (pt_cmpR (inK (K := K) hu) (pv 3) (pe_tup (pa_cons (pe_str) (pa_cons (pe_str) (pa_nil)))) rfl) (pss_one (ps_ret (pe_and (pe_cmpR op_eq (pe_callB (lenK (K := K)) (by rfl) T.b_len PySem.boot_len (pa_cons (pv 4) (pa_nil))) (pe_int) (nomark _)) (pe_and (pe_call (ok_is_name (P := P) (base := base) T) hr (by rfl) T.d_is_name.m T.d_is_name.F.kp T.d_is_name.b .nil pass0 (pa_cons (pe_ix (ixT (K := K)) (pv 4) (pe_int) (fun _ _ => rfl)) (pa_cons (pv 1) (pa_nil)))) (pe_one (pe_call (ok_is_count (P := P) (base := base) T) hr (by rfl) T.d_is_count.m T.d_is_count.F.kp T.d_is_count.b .nil pass0 (pa_cons (pe_ix (ixT (K := K)) (pv 4) (pe_int) (fun _ _ => rfl)) (pa_cons (pe_ifExp (pt_cmpR op_eq (pv 3) (pe_str) (nomark _)) (pe_int) (pe_int)) (pa_cons (pe_int) (pa_nil)))))))))) (pss_nil))
    (pss_cons (ps_if (pt_cmpR (inK (K := K) hu) (pv 3) (pe_tup (pa_cons (pe_str) (pa_cons (pe_str) (pa_cons (pe_str) (pa_nil))))) rfl) (pss_one (ps_ret (pe_and (pe_cmpR op_eq (pe_callB (lenK (K := K)) (by rfl) T.b_len PySem.boot_len (pa_cons (pv 4) (pa_nil))) (pe_int) (nomark _)) (pe_one (pe_call (ok_is_count (P := P) (base := base) T) hr (by rfl) T.d_is_count.m T.d_is_count.F.kp T.d_is_count.b .nil pass0 (pa_cons (pe_ix (ixT (K := K)) (pv 4) (pe_int) (fun _ _ => rfl)) (pa_cons (pe_int) (pa_cons (pe_int) (pa_nil))))))))) (pss_nil))
    (pss_cons (ps_if (pt_cmpR op_eq (pv 3) (pe_str) (nomark _)) (pss_one (ps_ret (pe_and (pe_cmpR op_eq (pe_callB (lenK (K := K)) (by rfl) T.b_len PySem.boot_len (pa_cons (pv 4) (pa_nil))) (pe_int) (nomark _)) (pe_one (pe_call (ok_is_over (P := P) (base := base) T) hr (by rfl) T.d_is_over.m T.d_is_over.F.kp T.d_is_over.b .nil pass0 (pa_cons (pe_ix (ixT (K := K)) (pv 4) (pe_int) (fun _ _ => rfl)) (pa_cons (pv 2) (pa_cons (pe_int) (pa_cons (pe_int) (pa_nil)))))))))) (pss_nil))
    (pss_one (ps_ret (pe_and (pe_cmpR (inK (K := K) hu) (pv 3) (pe_tup (pa_cons (pe_str) (pa_cons (pe_str) (pa_nil)))) rfl) (pe_and (pe_cmpR op_eq (pe_callB (lenK (K := K)) (by rfl) T.b_len PySem.boot_len (pa_cons (pv 4) (pa_nil))) (pe_int) (nomark _)) (pe_one (pe_call (ok_is_name (P := P) (base := base) T) hr (by rfl) T.d_is_name.m T.d_is_name.F.kp T.d_is_name.b .nil pass0 (pa_cons (pe_ix (ixT (K := K)) (pv 4) (pe_int) (fun _ _ => rfl)) (pa_cons (pv 1) (pa_nil)))))))))))))), ?_⟩
  refine ⟨_, rfl, isiQ (b := true) (sqt_ty h1) (by decide +kernel) ⟨_, rfl, iteF ?_⟩⟩
  refine ⟨_, rfl, true, .inr (.inl ⟨_, h1, rfl⟩), iteF ?_⟩
  refine ⟨_, rfl, c, _, _, _, rfl, rfl, h1, atI_nat (j := 0) rfl, isiQ (b := true) (.base (.str _)) (by decide +kernel) ⟨_, rfl, iteF ?_⟩⟩
  refine ⟨_, rfl, c, _, _, _, rfl, rfl, h1, atI_nat (j := 0) rfl, _, rfl, 1, rfl, c, _, rfl, h1, fun z => ?_, fun _ p hp => ?_⟩
  · exfalso
    have := z.1
    rw [show (1 : Int) = ((1 : Nat) : Int) from rfl, HT.sIx_nat, List.length_cons] at this
    omega
  refine ⟨_, _, rfl, ?_⟩
  have ecut : cutV (V.str r.word :: xs) (some 1) none = xs := by
    unfold cutV
    rw [show (1 : Int) = ((1 : Nat) : Int) from rfl, HT.sIx_nat, HT.sIx_none, List.length_cons, Nat.min_eq_left (by omega), List.drop_succ_cons, List.drop_zero, List.take_of_length_le (by omega)]
  rw [ecut]
  have k1 : Kp [] H (upd H p (.tup xs)) := Kp.new hp
  have g1 : SqT K (upd H p (.tup xs)) p xs := SqT.of upd_same
  generalize upd H p (.tup xs) = H1 at k1 g1 ⊢
  replace d1 := d1.kp k1
  -- if word == 'size'
  refine ⟨_, rfl, rfl, _, rfl, ?_⟩
  refine ite2 (fun hw => ?_) (fun hw => ?_)
  · replace hw := word_is 0 hw
    cases r with
    | size a' b =>
      obtain ⟨x, r1, rfl, e1, d2⟩ := d1.consI
      cases e1.numI
      obtain ⟨y, r2, rfl, e2, d3⟩ := d2.consI
      cases d3.nilI
      unfold isRule inB at hr1
      simp only [Bool.and_eq_true, decide_eq_true_eq] at hr1
      refine ⟨_, rfl, p, _, rfl, .inr g1, rfl, _, rfl, iteDn rfl ?_⟩
      refine ⟨_, rfl, p, _, _, _, rfl, rfl, g1, atI_nat (j := 0) rfl, (a' : Int), 0, 12, rfl, _, rfl, ?_⟩
      rw [decide_eq_true (by omega : (0 : Int) ≤ (a' : Int)), decide_eq_true (by omega : (a' : Int) ≤ 12)]
      refine iteF ?_
      refine ⟨_, rfl, p, _, _, _, rfl, rfl, g1, atI_nat (j := 1) rfl, rfl, _, rfl, ?_⟩
      cases b with
      | none =>
        cases e2.nonI
        exact iteD rfl (q _ k1)
      | some m =>
        cases e2.numI
        have h3 := hr1.2
        simp only [Bool.and_eq_true, decide_eq_true_eq] at h3
        refine iteN (fun z => nomatch z) ?_
        refine ⟨_, rfl, p, _, _, _, rfl, rfl, g1, atI_nat (j := 1) rfl, _, rfl, p, _, _, _, rfl, rfl, g1, atI_nat (j := 0) rfl, (m : Int), (a' : Int), 12, rfl, ?_⟩
        rw [decide_eq_true (by omega : (a' : Int) ≤ (m : Int)), decide_eq_true (by omega : (m : Int) ≤ 12)]
        exact q _ k1
    | _ => exact absurd hw (by simp only [Rule.tag]; decide)
  have nm : ∀ {x : List Nat} {H2 : Hp}, Kp [] H H2 → x ∈ ns → spName K [.str (S x), .ref a] H2 Q E := fun kk hx => ⟨_, a, ns, rfl, kk.sql hn, by rw [decide_eq_true hx]; exact q _ kk⟩
  -- if word in ('least', 'most')
  refine ⟨_, rfl, by show 2 ≤ sizeLine; decide, fun t ht => ⟨t, _, [.text "least", .text "most"], .text r.word, rfl, .inr (SqT.of upd_same), .cons (.txt _) (.cons (.txt _) .nil), .txt _, Nat.zero_le _, _, rfl, ?_⟩⟩
  have k2 : Kp [] H (upd H1 t (.tup [.str "least", .str "most"])) := k1.trans (Kp.new ht)
  replace d1 := d1.kp (Kp.new (L := []) (o := .tup [.str "least", .str "most"]) ht)
  have g2 := (Kp.new (L := []) (o := .tup [.str "least", .str "most"]) ht).sqt g1
  generalize upd H1 t (.tup [.str "least", .str "most"]) = H2 at k2 d1 g2 ⊢
  replace hw := word_not 0 hw
  refine ite2 (fun hw2 => ?_) (fun hw2 => ?_)
  · obtain ⟨kk, hk, hw2⟩ := word_in [1, 2] hw2
    simp only [List.mem_cons, List.not_mem_nil, or_false] at hk
    replace hw2 : r.tag = 1 ∨ r.tag = 2 := by rcases hk with rfl | rfl; exact .inl hw2; exact .inr hw2
    cases r with
    | least c' n =>
      obtain ⟨x, r1, rfl, e1, d2⟩ := d1.consI
      cases e1.txtI
      obtain ⟨y, r2, rfl, e2, d3⟩ := d2.consI
      cases d3.nilI
      cases e2.numI
      unfold isRule inB at hr1
      simp only [Bool.and_eq_true, decide_eq_true_eq] at hr1
      refine ⟨_, rfl, p, _, rfl, .inr g2, rfl, _, rfl, iteD rfl ?_⟩
      refine ⟨_, rfl, p, _, _, _, rfl, rfl, g2, atI_nat (j := 0) rfl, _, rfl, _, a, ns, rfl, k2.sql hn, _, rfl, iteD hr1.1 ?_⟩
      refine ⟨_, rfl, p, _, _, _, rfl, rfl, g2, atI_nat (j := 1) rfl, _, rfl, rfl, _, rfl, iteD rfl ?_⟩
      refine ⟨(n : Int), 1, 4, rfl, ?_⟩
      rw [decide_eq_true (by omega : (1 : Int) ≤ (n : Int)), decide_eq_true (by omega : (n : Int) ≤ 4)]
      exact q _ k2
    | most c' n =>
      obtain ⟨x, r1, rfl, e1, d2⟩ := d1.consI
      cases e1.txtI
      obtain ⟨y, r2, rfl, e2, d3⟩ := d2.consI
      cases d3.nilI
      cases e2.numI
      unfold isRule inB at hr1
      simp only [Bool.and_eq_true, decide_eq_true_eq] at hr1
      refine ⟨_, rfl, p, _, rfl, .inr g2, rfl, _, rfl, iteD rfl ?_⟩
      refine ⟨_, rfl, p, _, _, _, rfl, rfl, g2, atI_nat (j := 0) rfl, _, rfl, _, a, ns, rfl, k2.sql hn, _, rfl, iteD hr1.1 ?_⟩
      refine ⟨_, rfl, p, _, _, _, rfl, rfl, g2, atI_nat (j := 1) rfl, _, rfl, rfl, _, rfl, iteN (fun z => absurd ((word_tag (.most c' n) 1).mp (V.str.inj z)) (by simp [Rule.tag])) ?_⟩
      refine ⟨(n : Int), 0, 4, rfl, ?_⟩
      rw [decide_eq_true (by omega : (0 : Int) ≤ (n : Int)), decide_eq_true (by omega : (n : Int) ≤ 4)]
      exact q _ k2
    | _ => exact absurd hw2 (by simp only [Rule.tag]; decide)
  -- if word in ('kinds', 'run', 'row')
  refine ⟨_, rfl, by show 3 ≤ sizeLine; decide, fun t ht => ⟨t, _, [.text "kinds", .text "run", .text "row"], .text r.word, rfl, .inr (SqT.of upd_same), .cons (.txt _) (.cons (.txt _) (.cons (.txt _) .nil)), .txt _, Nat.zero_le _, _, rfl, ?_⟩⟩
  have k3 : Kp [] H (upd H2 t (.tup [.str "kinds", .str "run", .str "row"])) := k2.trans (Kp.new ht)
  replace d1 := d1.kp (Kp.new (L := []) (o := .tup [.str "kinds", .str "run", .str "row"]) ht)
  have g3 := (Kp.new (L := []) (o := .tup [.str "kinds", .str "run", .str "row"]) ht).sqt g2
  generalize upd H2 t (.tup [.str "kinds", .str "run", .str "row"]) = H3 at k3 d1 g3 ⊢
  have one : ∀ {n : Nat}, DkA K H3 xs [Leaf.key (.num n)] → inB n 1 4 = true → xs = [.int n] ∧ (decide ((1 : Int) ≤ (n : Int)) && decide ((n : Int) ≤ 4)) = true := fun dn hb => by
    obtain ⟨x, r1, rfl, e1, d2⟩ := dn.consI
    cases e1.numI
    cases d2.nilI
    unfold inB at hb
    simp only [Bool.and_eq_true, decide_eq_true_eq] at hb
    refine ⟨rfl, ?_⟩
    simp only [Bool.and_eq_true, decide_eq_true_eq]
    omega
  replace hw2 := word_notin [1, 2] hw2
  refine ite2 (fun hw3 => ?_) (fun hw3 => ?_)
  · obtain ⟨kk, hk, hw3⟩ := word_in [3, 4, 5] hw3
    simp only [List.mem_cons, List.not_mem_nil, or_false] at hk
    replace hw3 : r.tag = 3 ∨ r.tag = 4 ∨ r.tag = 5 := by rcases hk with rfl | rfl | rfl; exact .inl hw3; exact .inr (.inl hw3); exact .inr (.inr hw3)
    cases r with
    | kinds n =>
      obtain ⟨rfl, hb⟩ := one d1 hr1
      refine ⟨_, rfl, p, _, rfl, .inr g3, rfl, _, rfl, iteD rfl ?_⟩
      refine ⟨_, rfl, p, _, _, _, rfl, rfl, g3, atI_nat (j := 0) rfl, (n : Int), 1, 4, rfl, ?_⟩
      rw [hb]
      exact q _ k3
    | run n =>
      obtain ⟨rfl, hb⟩ := one d1 hr1
      refine ⟨_, rfl, p, _, rfl, .inr g3, rfl, _, rfl, iteD rfl ?_⟩
      refine ⟨_, rfl, p, _, _, _, rfl, rfl, g3, atI_nat (j := 0) rfl, (n : Int), 1, 4, rfl, ?_⟩
      rw [hb]
      exact q _ k3
    | row n =>
      obtain ⟨rfl, hb⟩ := one d1 hr1
      refine ⟨_, rfl, p, _, rfl, .inr g3, rfl, _, rfl, iteD rfl ?_⟩
      refine ⟨_, rfl, p, _, _, _, rfl, rfl, g3, atI_nat (j := 0) rfl, (n : Int), 1, 4, rfl, ?_⟩
      rw [hb]
      exact q _ k3
    | _ => exact absurd hw3 (by simp only [Rule.tag]; decide)
  -- if word == 'not'
  refine ⟨_, rfl, rfl, _, rfl, ?_⟩
  replace hw3 := word_notin [3, 4, 5] hw3
  refine ite2 (fun hw4 => ?_) (fun hw4 => ?_)
  · replace hw4 := word_is 6 hw4
    cases r with
    | nt z =>
      obtain ⟨x, r1, rfl, e1, d2⟩ := d1.consI
      cases e1.txtI
      cases d2.nilI
      refine ⟨_, rfl, p, _, rfl, .inr g3, rfl, _, rfl, iteD rfl ?_⟩
      refine ⟨_, rfl, p, _, _, _, rfl, rfl, g3, atI_nat (j := 0) rfl, _, rfl, z, sg, 1, 5, rfl, by have := (over_len hr1).2; omega, hr1, fun H4 k4 => ?_⟩
      exact q _ (k3.trans k4)
    | _ => exact absurd hw4 (by simp only [Rule.tag]; decide)
  -- the last two
  replace hw4 := word_not 6 hw4
  refine ⟨_, rfl, by show 2 ≤ sizeLine; decide, fun t ht => ⟨t, _, [.text "first", .text "last"], .text r.word, rfl, .inr (SqT.of upd_same), .cons (.txt _) (.cons (.txt _) .nil), .txt _, Nat.zero_le _, _, rfl, ?_⟩⟩
  have k5 : Kp [] H (upd H3 t (.tup [.str "first", .str "last"])) := k3.trans (Kp.new ht)
  replace d1 := d1.kp (Kp.new (L := []) (o := .tup [.str "first", .str "last"]) ht)
  have g5 := (Kp.new (L := []) (o := .tup [.str "first", .str "last"]) ht).sqt g3
  generalize upd H3 t (.tup [.str "first", .str "last"]) = H5 at k5 d1 g5 ⊢
  cases r with
  | first z =>
    obtain ⟨x, r1, rfl, e1, d2⟩ := d1.consI
    cases e1.txtI
    cases d2.nilI
    refine iteB (decide_eq_true (p := NestedKey.text (Rule.first z).word ∈ [NestedKey.text "first", NestedKey.text "last"]) (List.mem_cons_self ..)) ?_
    refine ⟨_, rfl, p, _, rfl, .inr g5, rfl, _, rfl, iteD rfl ?_⟩
    refine ⟨_, rfl, p, _, _, _, rfl, rfl, g5, atI_nat (j := 0) rfl, _, rfl, ?_⟩
    exact nm k5 (of_decide_eq_true hr1)
  | last z =>
    obtain ⟨x, r1, rfl, e1, d2⟩ := d1.consI
    cases e1.txtI
    cases d2.nilI
    refine iteB (decide_eq_true (p := NestedKey.text (Rule.last z).word ∈ [NestedKey.text "first", NestedKey.text "last"]) (List.mem_cons_of_mem _ (List.mem_cons_self ..))) ?_
    refine ⟨_, rfl, p, _, rfl, .inr g5, rfl, _, rfl, iteD rfl ?_⟩
    refine ⟨_, rfl, p, _, _, _, rfl, rfl, g5, atI_nat (j := 0) rfl, _, rfl, ?_⟩
    exact nm k5 (of_decide_eq_true hr1)
  | size _ _ => exact absurd rfl hw
  | least _ _ => exact absurd rfl (hw2 1 (by decide))
  | most _ _ => exact absurd rfl (hw2 2 (by decide))
  | kinds _ => exact absurd rfl (hw3 3 (by decide))
  | run _ => exact absurd rfl (hw3 4 (by decide))
  | row _ => exact absurd rfl (hw3 5 (by decide))
  | nt _ => exact absurd rfl hw4
end
end Px

set_option maxRecDepth 100000
set_option maxHeartbeats 4000000
/-! PxW2: is_policy, need_policy, need_size. -/
namespace Px
open PySem PySem.Spec PyProof.Rows L2
section
variable {P : Program} {w : World} {K : PySem.W.Frag} {mg : Str → Option Value} {base : Heap}
/-! ### is_policy, need_policy, need_size -/
theorem isPol_use {p : Pol} (h : isPol p = true) : areCls p.cls = true ∧ p.rules.length ≤ 6 ∧ (∀ r ∈ p.rules, isRule p.names p.signs r = true) := by
  unfold isPol at h
  simp only [Bool.and_eq_true, decide_eq_true_eq, List.all_eq_true] at h
  exact ⟨h.1.1, h.1.2, h.2⟩
def spPol (K : PySem.W.Frag) : Sp := fun vs H Q _ => ∃ v p, vs = [v] ∧ Dk K H v (Pol.key p) ∧ isPol p = true ∧ p.rules.Nodup ∧ ∀ H', Kp [] H H' → Q (.bl true) H'
theorem sc_is_policy : FnScope ["value", "names", "rules", "pair", "rule"] ["value"] (defScope s_is_policy) := ⟨rfl, rfl, rfl, by decide +kernel, rfl, by decide +kernel, by decide +kernel⟩
theorem ok_is_policy (T : Top K w mg) : FnOk P w K mg base CX0 3 T.d_is_policy.f T.d_is_policy.fd ["value"] (spPol K) := by
  refine T.d_is_policy.F.ok sc_is_policy (fun vs H Q E h => ?_) (fun cdv A outer s H vs Q E hr h => ?_)
  · obtain ⟨v, p, rfl, _⟩ := h
    rfl
  obtain ⟨v, p, rfl, d, hp, nd, q⟩ := h
  have hu := hr.units
  have dP := d
  obtain ⟨a, c, r, xs, ys, rfl, h0, h1, d1, h2, d2⟩ := d.pol
  obtain ⟨p1, p2, p3⟩ := isPol_use hp
  have hsm : Small p := areCls_small p1
  have hl := d1.length
  have hl2 := d2.length
  rw [List.length_map] at hl hl2
  obtain ⟨tk_RULES, m_RULES⟩ := T.k_RULES
  refine ⟨_, pss_cons (ps_if (PW.pt (pw_or (pt_not (pt_val (isiK (K := K) (pv 0) T.b_isinstance T.b_tuple boot_tuple))) (pw_or (pt_cmpR op_ne (pe_callB (lenK (K := K)) (by rfl) T.b_len PySem.boot_len (pa_cons (pv 0) (pa_nil))) (pe_int) (nomark _)) (pw_or1 (pt_not (pt_val (pe_call (ok_are_classes (P := P) (base := base) T) hr (by rfl) T.d_are_classes.m T.d_are_classes.F.kp T.d_are_classes.b .nil pass0 (pa_cons (pe_ix (ixT (K := K)) (pv 0) (pe_int) (fun _ _ => rfl)) (pa_nil))))))))) (pss_one (ps_ret (pe_bl))) (pss_nil))
    (pss_cons (ps_asg (pe_tup (pa_cons (pe_lc (own := [("pair", 3)]) (g := gName 3) (tt := tYes) rfl sc_is_policy.nd (pi_tup (pe_ix (ixT (K := K)) (pv 0) (pe_int) (fun _ _ => rfl))) (blkOk_by (own := [("pair", 3)]) (N := ["value", "names", "rules", "pair", "rule"]) (sc := defScope s_is_policy) (by decide +kernel)) (fun _ _ _ _ _ => pg_name (i := 3) sc_is_policy.nd rfl (Or.inl rfl)) (fun _ _ _ _ _ => pts_nil) (fun _ _ _ _ _ => pe_ix (ixT (K := K)) (pv 3) (pe_int) (fun _ _ => rfl))) (pa_cons (pe_ix (ixT (K := K)) (pv 0) (pe_int) (fun _ _ => rfl)) (pa_nil)))) (pg_tup rfl (pgs_cons (pg_name (i := 1) sc_is_policy.nd rfl (Or.inr rfl)) (pgs_cons (pg_name (i := 2) sc_is_policy.nd rfl (Or.inl rfl)) (pgs_nil)))))
    (pss_cons (ps_if (PW.pt (pw_or (pt_not (pt_val (isiK (K := K) (pv 2) T.b_isinstance T.b_tuple boot_tuple))) (pw_or1 (pt_cmpR op_gt (pe_callB (lenK (K := K)) (by rfl) T.b_len PySem.boot_len (pa_cons (pv 2) (pa_nil))) (pe_glob (v := .int 6) (by rfl) m_RULES ⟨_, rfl⟩) (nomark _))))) (pss_one (ps_ret (pe_bl))) (pss_nil))
    (pss_cons (ps_if (pt_not (pt_val (pe_callB (allK (K := K) rfl) (by rfl) T.b_all PyProof.Rows.boot_all (pa_cons (pe_lc (own := [("rule", 4)]) (g := gName 4) (tt := tYes) rfl sc_is_policy.nd (pi_tup (pv 2)) (blkOk_by (own := [("rule", 4)]) (N := ["value", "names", "rules", "pair", "rule"]) (sc := defScope s_is_policy) (by decide +kernel)) (fun _ _ _ _ _ => pg_name (i := 4) sc_is_policy.nd rfl (Or.inl rfl)) (fun _ _ _ _ _ => pts_nil) (fun _ _ _ _ _ => pe_call (ok_is_rule (P := P) (base := base) T) hr (by rfl) T.d_is_rule.m T.d_is_rule.F.kp T.d_is_rule.b .nil pass0 (pa_cons (pv 4) (pa_cons (pv 1) (pa_cons (pe_call (ok_signs_of (P := P) (base := base) T) (hr.mono (by decide)) (by rfl) T.d_signs_of.m T.d_signs_of.F.kp T.d_signs_of.b .nil pass0 (pa_cons (pv 0) (pa_nil))) (pa_nil)))))) (pa_nil))))) (pss_one (ps_ret (pe_bl))) (pss_nil))
    (pss_one (ps_ret (pe_cmpR op_eq (pe_callB (lenK (K := K)) (by rfl) T.b_len PySem.boot_len (pa_cons (pv 2) (pa_nil))) (pe_lenSet hu rfl (by rfl) T.b_len (by rfl) T.b_set (pv 2)) (nomark _))))))), ?_⟩
  refine ⟨_, rfl, isiQ (b := true) (sqt_ty h0) (by decide +kernel) ⟨_, rfl, iteF ?_⟩⟩
  refine ⟨_, rfl, a, _, rfl, .inr h0, rfl, _, rfl, iteDn rfl ?_⟩
  refine ⟨_, rfl, a, _, _, _, rfl, rfl, h0, atI_nat (j := 0) rfl, _, p.cls, rfl, .tup h1 d1, p1, fun H1 k1 => ⟨_, rfl, iteF ?_⟩⟩
  -- names, rules = ..
  refine ⟨_, rfl, a, _, _, _, rfl, rfl, k1.sqt h0, atI_nat (j := 0) rfl, c, rfl, ⟨xs, k1.sqt h1⟩, fun D nD => ?_⟩
  refine lc_val (walk_tup (xs := xs)) [] (fun i => ((p.cls[i]?).map fun z => V.str (S z.1)).getD .non) (by have := hsm.1; omega) nD (fun h => nomatch h) (fun H' k => (k1.trans (k.drop1 nD)).sqt h1) (fun i y H2 H' Z hi k hy hZ => ?_) (fun H2 k2 hD => ?_)
  · obtain ⟨rfl, hx⟩ := hy
    obtain ⟨kk, e, dk⟩ := d1.get hx
    rw [List.getElem?_map] at e
    obtain ⟨z, e1, rfl⟩ := Option.map_eq_some_iff.mp e
    obtain ⟨b, rfl, hb⟩ := (dk.kp (k1.trans (k.drop1 nD))).pair
    refine ⟨rfl, _, rfl, b, _, _, _, rfl, rfl, hb, atI_nat (j := 0) rfl, ?_⟩
    have := hZ _ Kp.refl
    rw [e1] at this
    exact this
  rw [hl, range_at] at hD
  have k3 := k1.trans (k2.drop1 nD)
  refine ⟨_, rfl, a, _, _, _, rfl, rfl, k3.sqt h0, atI_nat (j := 1) rfl, by show 2 ≤ sizeLine; decide, fun t ht => ?_⟩
  refine ⟨t, _, rfl, SqT.of upd_same, rfl, ?_⟩
  have k4 : Kp [] H (upd H2 t (.tup [.ref D, .ref r])) := k3.trans (Kp.new ht)
  have gD : (upd H2 t (.tup [.ref D, .ref r])) D = some (.lst (p.cls.map fun z => V.str (S z.1))) := (Kp.new (L := []) ht).at0 hD
  generalize upd H2 t (.tup [.ref D, .ref r]) = H4 at k4 gD ⊢
  refine ⟨_, _, rfl, _, _, rfl, rfl, ?_⟩
  refine ⟨_, rfl, isiQ (b := true) (sqt_ty (k4.sqt h2)) (by decide +kernel) ⟨_, rfl, iteF ?_⟩⟩
  refine ⟨_, rfl, r, _, rfl, .inr (k4.sqt h2), _, _, rfl, rfl, _, rfl, iteN (by omega) ?_⟩
  -- every rule
  refine ⟨_, rfl, r, rfl, ⟨ys, k4.sqt h2⟩, fun D2 nD2 => ?_⟩
  refine lc_val (walk_tup (xs := ys)) [] (fun _ => .bl true) (by omega) nD2 (fun h => nomatch h) (fun H' k => (k4.trans (k.drop1 nD2)).sqt h2) (fun i y H5 H' Z hi k hy hZ => ?_) (fun H5 k5 hD2 => ?_)
  · obtain ⟨rfl, hx⟩ := hy
    have k6 := k4.trans (k.drop1 nD2)
    obtain ⟨kk, e, dk⟩ := d2.get hx
    rw [List.getElem?_map] at e
    obtain ⟨z, e1, rfl⟩ := Option.map_eq_some_iff.mp e
    refine ⟨rfl, _, rfl, _, rfl, _, rfl, _, p, rfl, dP.kp k6, hsm, fun H7 k7 => ?_⟩
    refine ⟨_, z, D, p.names, p.signs, rfl, (dk.kp k6).kp k7, .inl (.inl (k7.at0 ((k.drop1 nD2).at0 (by rw [gD]; exact congrArg (fun l => some (HO.lst l)) (by rw [Pol.names, List.map_map]; rfl))))), p3 z (List.mem_of_getElem? e1), fun H8 k8 => ?_⟩
    exact hZ _ (k7.trans k8)
  have k6 := k4.trans (k5.drop1 nD2)
  refine ⟨D2, (List.range ys.length).map fun _ => true, rfl, SqL.of (by rw [hD2]; exact congrArg (fun l => some (HO.lst l)) bl_true), _, rfl, ?_⟩
  rw [all_true]
  refine iteF ?_
  refine ⟨_, rfl, r, _, rfl, .inr (k6.sqt h2), _, rfl, .inr (.inr ⟨r, ys, p.rules.map Rule.leaves, rfl, k6.sqt h2, ?_, leaves_nodup nd, by rw [List.length_map]; omega, rfl, ?_⟩)⟩
  · have := d2.kp k6
    rw [List.map_map]
    exact this
  · rw [List.length_map, hl2, decide_eq_true rfl]
    exact q _ k6
def spNeed (K : PySem.W.Frag) : Sp := fun vs H Q _ => ∃ v p, vs = [v] ∧ Dk K H v (Pol.key p) ∧ isPol p = true ∧ p.rules.Nodup ∧ ∀ H', Kp [] H H' → Q .non H'
theorem sc_need_policy : FnScope ["value"] ["value"] (defScope s_need_policy) := ⟨rfl, rfl, rfl, by decide +kernel, rfl, by decide +kernel, by decide +kernel⟩
theorem ok_need_policy (T : Top K w mg) : FnOk P w K mg base CX0 4 T.d_need_policy.f T.d_need_policy.fd ["value"] (spNeed K) := by
  refine T.d_need_policy.F.ok sc_need_policy (fun vs H Q E h => ?_) (fun cdv A outer s H vs Q E hr h => ?_)
  · obtain ⟨v, p, rfl, _⟩ := h
    rfl
  obtain ⟨v, p, rfl, d, hp, nd, q⟩ := h
  refine ⟨_, pss_one (ps_if (pt_not (pt_val (pe_call (ok_is_policy (P := P) (base := base) T) hr (by rfl) T.d_is_policy.m T.d_is_policy.F.kp T.d_is_policy.b .nil pass0 (pa_cons (pv 0) (pa_nil))))) (pss_one (ps_never)) (pss_nil)), ?_⟩
  exact ⟨_, rfl, v, p, rfl, d, hp, nd, fun H1 k1 => ⟨_, rfl, iteF (q _ k1)⟩⟩
def spSize : Sp := fun vs H Q _ => ∃ i : Int, vs = [.int i] ∧ 0 ≤ i ∧ i ≤ 20 ∧ Q .non H
theorem sc_need_size : FnScope ["value"] ["value"] (defScope s_need_size) := ⟨rfl, rfl, rfl, by decide +kernel, rfl, by decide +kernel, by decide +kernel⟩
theorem ok_need_size (T : Top K w mg) : FnOk P w K mg base CX0 2 T.d_need_size.f T.d_need_size.fd ["value"] spSize := by
  refine T.d_need_size.F.ok sc_need_size (fun vs H Q E h => ?_) (fun cdv A outer s H vs Q E hr h => ?_)
  · obtain ⟨i, rfl, _⟩ := h
    rfl
  obtain ⟨i, rfl, h0, h1, q⟩ := h
  obtain ⟨tk_TEXT, m_TEXT⟩ := T.k_TEXT
  refine ⟨_, pss_one (ps_if (pt_not (pt_val (pe_call (ok_is_count (P := P) (base := base) T) hr (by rfl) T.d_is_count.m T.d_is_count.F.kp T.d_is_count.b .nil pass0 (pa_cons (pv 0) (pa_cons (pe_int) (pa_cons (pe_glob (v := .int 20) (by rfl) m_TEXT ⟨_, rfl⟩) (pa_nil))))))) (pss_one (ps_never)) (pss_nil)), ?_⟩
  refine ⟨_, rfl, i, 0, 20, rfl, _, rfl, ?_⟩
  rw [decide_eq_true h0, decide_eq_true h1]
  exact iteF q
end
end Px

set_option maxRecDepth 100000
/-! PxN: what holds of the states that an automaton comes to; how many there can be. -/
namespace Px
open PySem L2

/-- side by side -/
inductive P2 {α β : Type} (R : α → β → Prop) : List α → List β → Prop
  | nil : P2 R [] []
  | cons {a : α} {b : β} {as : List α} {bs : List β} : R a b → P2 R as bs → P2 R (a :: as) (b :: bs)
theorem P2.length {α β : Type} {R : α → β → Prop} {as : List α} {bs : List β} (h : P2 R as bs) : as.length = bs.length := by
  induction h with
  | nil => rfl
  | cons _ _ ih => simp [ih]
theorem P2.imp {α β : Type} {R R' : α → β → Prop} {as : List α} {bs : List β} (f : ∀ a b, a ∈ as → R a b → R' a b) (h : P2 R as bs) : P2 R' as bs := by
  induction h with
  | nil => exact .nil
  | cons x _ ih => exact .cons (f _ _ (List.mem_cons_self ..) x) (ih fun a b m r => f a b (List.mem_cons_of_mem _ m) r)
theorem P2.get {α β : Type} {R : α → β → Prop} : ∀ {as : List α} {bs : List β} {i : Nat} {a : α} {b : β}, P2 R as bs → as[i]? = some a → bs[i]? = some b → R a b
  | _, _, 0, _, _, .cons x _, h1, h2 => by simp at h1 h2; subst h1; subst h2; exact x
  | _, _, i + 1, _, _, .cons _ r, h1, h2 => P2.get (i := i) r (by simpa using h1) (by simpa using h2)

/-- what a rule's part of a state looks like; l: the last character, if any -/
def okRS (names : List T) (l : T) : Rule → RS → Prop
  | .size a b, .num n => n ≤ b.getD a
  | .least _ m, .num n => n ≤ m
  | .most _ m, .num n => n ≤ m
  | .kinds _, .set s => s.Pairwise (· < ·) ∧ ∀ x ∈ s, x ∈ names
  | .run m, .pair d n => d = l ∧ n ≤ m
  | .row m, .pair d n => d = l ∧ n ≤ m
  | .nt s, .txt e => e <+: s ∧ e.length < s.length
  | .first k, .txt d => d = [] ∨ d = k
  | .last _, .txt d => d = [] ∨ d ∈ names
  | _, _ => False
def OkSt (p : Pol) (l : T) (st : List RS) : Prop := P2 (okRS p.names l) p.rules st
def Good (p : Pol) (st : List RS) : Prop := ∃ l : T, (l = [] ∨ ∃ c ∈ p.signs, l = [c]) ∧ OkSt p l st
/-- what is asked of a policy's rules -/
def okRule : Rule → Prop
  | .nt s => 0 < s.length
  | _ => True

theorem nameOf_mem : ∀ {cls : List (T × T)} {c : Nat}, c ∈ (cls.map (·.2)).flatten → nameOf cls c ∈ cls.map (·.1)
  | [], _, h => by simp at h
  | p :: cls, c, h => by
    unfold nameOf
    split
    · simp
    · rename_i n
      have : c ∈ (cls.map (·.2)).flatten := by
        simp only [List.map_cons, List.flatten_cons, List.mem_append] at h
        exact h.resolve_left n
      exact List.mem_cons_of_mem _ (nameOf_mem this)
theorem trim_pre (s : T) : ∀ e : T, trim s e <+: s
  | [] => List.nil_prefix
  | x :: r => by
    unfold trim
    split
    · rename_i h
      exact List.isPrefixOf_iff_prefix.mp h
    · exact trim_pre s r
theorem trim_suf (s : T) : ∀ e : T, trim s e <:+ e
  | [] => List.suffix_refl _
  | x :: r => by
    unfold trim
    split
    · exact List.suffix_refl _
    · exact (trim_suf s r).trans (List.suffix_cons _ _)
theorem insT_mem {x y : T} : ∀ {l : List T}, y ∈ insT x l ↔ y = x ∨ y ∈ l
  | [] => by simp [insT]
  | z :: l => by
    unfold insT
    split
    · simp
    · simp only [List.mem_cons, insT_mem (l := l)]
      constructor
      · rintro (h | h | h)
        · exact .inr (.inl h)
        · exact .inl h
        · exact .inr (.inr h)
      · rintro (h | h | h)
        · exact .inr (.inl h)
        · exact .inl h
        · exact .inr (.inr h)
theorem lt_tri {a b : T} (h : ¬ a < b) (n : a ≠ b) : b < a := by
  rcases Nat.lt_or_ge 0 1 with _ | _
  · exact (List.le_total a b).elim (fun q => by
      rcases List.le_iff_lt_or_eq.mp q with r | r
      · exact absurd r h
      · exact absurd r n) (fun q => by
      rcases List.le_iff_lt_or_eq.mp q with r | r
      · exact r
      · exact absurd r.symm n)
  · omega
theorem insT_sorted {x : T} : ∀ {l : List T}, l.Pairwise (· < ·) → x ∉ l → (insT x l).Pairwise (· < ·)
  | [], _, _ => by simp [insT]
  | y :: l, h, n => by
    unfold insT
    rw [List.pairwise_cons] at h
    split
    · rename_i q
      rw [List.pairwise_cons, List.pairwise_cons]
      refine ⟨fun z hz => ?_, h⟩
      rcases List.mem_cons.mp hz with e | e
      · rw [e]; exact q
      · exact List.lt_trans q (h.1 z e)
    · rename_i q
      have hyx : y < x := lt_tri q (fun e => n (by rw [e]; exact List.mem_cons_self ..))
      rw [List.pairwise_cons]
      refine ⟨fun z hz => ?_, insT_sorted h.2 (fun m => n (List.mem_cons_of_mem _ m))⟩
      rcases insT_mem.mp hz with e | e
      · rw [e]; exact hyx
      · exact h.1 z e
theorem sortT_mem {y : T} : ∀ {l : List T}, y ∈ sortT l ↔ y ∈ l
  | [] => Iff.rfl
  | x :: l => by
    show y ∈ insT x (sortT l) ↔ _
    rw [insT_mem, sortT_mem, List.mem_cons]
theorem sortT_sorted : ∀ {l : List T}, l.Nodup → (sortT l).Pairwise (· < ·)
  | [], _ => List.Pairwise.nil
  | x :: l, h => by
    rw [List.nodup_cons] at h
    exact insT_sorted (sortT_sorted h.2) (fun m => h.1 (sortT_mem.mp m))
theorem sorted_nodup {l : List T} (h : l.Pairwise (· < ·)) : l.Nodup := h.imp fun q e => by
  subst e
  exact List.lt_irrefl _ q
theorem snoc_nodup {l : List T} {x : T} (h : l.Nodup) (n : x ∉ l) : (l ++ [x]).Nodup := by
  rw [List.nodup_append]
  exact ⟨h, by simp, fun a ha b hb e => n (by rw [← List.mem_singleton.mp hb, ← e]; exact ha)⟩

theorem ok_moved {cls : List (T × T)} {l : T} {r : Rule} {rs rs' : RS} {c : Nat} (hr : okRule r) (h : okRS (cls.map (·.1)) l r rs) (hc : c ∈ (cls.map (·.2)).flatten) (e : moved cls r rs c = some rs') : okRS (cls.map (·.1)) [c] r rs' := by
  have cnt : ∀ {m n : Nat} {b : Bool} {rs' : RS}, counted m n b = some rs' → ∃ k, rs' = .num k ∧ k ≤ n := fun {m n b rs'} e => by
    unfold counted at e
    split at e
    · cases e; exact ⟨_, rfl, by assumption⟩
    · split at e
      · cases e
      · cases e; exact ⟨_, rfl, Nat.le_refl _⟩
  cases r <;> cases rs <;> simp only [okRS] at h <;> simp only [moved] at e
  case size.num a b n =>
    obtain ⟨k, rfl, hk⟩ := cnt e
    exact hk
  case least.num k m n =>
    obtain ⟨k, rfl, hk⟩ := cnt e
    exact hk
  case most.num k m n =>
    obtain ⟨k, rfl, hk⟩ := cnt e
    exact hk
  case kinds.set n s =>
    cases e
    by_cases hm : nameOf cls c ∈ s
    · rw [if_pos hm]; exact h
    · rw [if_neg hm]
      refine ⟨sortT_sorted (snoc_nodup (sorted_nodup h.1) hm), fun x hx => ?_⟩
      rcases List.mem_append.mp (sortT_mem.mp hx) with q | q
      · exact h.2 x q
      · rw [List.mem_singleton.mp q]; exact nameOf_mem hc
  case run.pair m d n =>
    by_cases q : (if d = [c] then n + 1 else 1) ≤ m
    · rw [if_pos q] at e; cases e; exact ⟨rfl, q⟩
    · rw [if_neg q] at e; cases e
  case row.pair m d n =>
    have go : ∀ k : Nat, (if k ≤ m then some (RS.pair [c] k) else none) = some rs' → okRS (cls.map (·.1)) [c] (.row m) rs' := by
      intro k e
      by_cases q : k ≤ m
      · rw [if_pos q] at e; cases e; exact ⟨rfl, q⟩
      · rw [if_neg q] at e; cases e
    revert e
    cases d with
    | nil => exact go _
    | cons y ys => cases ys with
      | nil => exact go _
      | cons _ _ => exact go _
  case nt.txt s d =>
    unfold unmatched at e
    split at e
    · cases e
    · cases e
      rename_i hs
      refine ⟨trim_pre _ _, ?_⟩
      rcases Nat.lt_or_ge (trim s (d ++ [c])).length s.length with q | q
      · exact q
      · exfalso
        have h1 := trim_pre s (d ++ [c])
        have h2 : trim s (d ++ [c]) = s := h1.eq_of_length_le q
        refine hs (List.isSuffixOf_iff_suffix.mpr ?_)
        have := trim_suf s (d ++ [c])
        rw [h2] at this
        exact this
  case first.txt k d =>
    by_cases q : d = []
    · rw [if_neg (by simp [q])] at e
      split at e
      · cases e; exact .inr (by assumption)
      · cases e
    · rw [if_pos q] at e; cases e; exact h
  case last.txt k d =>
    cases e
    exact .inr (nameOf_mem hc)
theorem ok_start (p : Pol) (hp : ∀ r ∈ p.rules, okRule r) : OkSt p [] (start p) := by
  have : ∀ rs : List Rule, (∀ r ∈ rs, okRule r) → P2 (okRS p.names []) rs (rs.map start1) := by
    intro rs
    induction rs with
    | nil => intro _; exact .nil
    | cons r rs ih =>
      intro h
      refine .cons ?_ (ih fun z hz => h z (List.mem_cons_of_mem _ hz))
      have hr := h r (List.mem_cons_self ..)
      cases r <;> simp [okRS, start1, okRule] at hr ⊢ <;> exact hr
  exact this p.rules hp
theorem all_some : ∀ {xs : List (Option RS)} {ys : List RS}, all? xs = some ys → xs = ys.map some
  | [], _, h => by cases h; rfl
  | none :: _, _, h => by cases h
  | some x :: xs, ys, h => by
    unfold all? at h
    cases e : all? xs with
    | none => rw [e] at h; cases h
    | some zs => rw [e] at h; cases h; rw [all_some e]; rfl
theorem all_of : ∀ (ys : List RS), all? (ys.map some) = some ys
  | [] => rfl
  | y :: ys => by
    show (all? (ys.map some)).map (y :: ·) = _
    rw [all_of ys]; rfl
theorem all_none : ∀ {xs : List (Option RS)}, none ∈ xs → all? xs = none
  | none :: _, _ => rfl
  | some x :: xs, h => by
    show (all? xs).map (x :: ·) = none
    rw [all_none ((List.mem_cons.mp h).resolve_left (fun z => nomatch z))]; rfl
theorem ok_step {p : Pol} {l : T} {st st' : List RS} {c : Nat} (hp : ∀ r ∈ p.rules, okRule r) (h : OkSt p l st) (hc : c ∈ p.signs) (e : stepS p st c = some st') : OkSt p [c] st' := by
  have go : ∀ {rs : List Rule} {st st' : List RS}, (∀ r ∈ rs, okRule r) → P2 (okRS p.names l) rs st → all? ((rs.zip st).map fun x => moved p.cls x.1 x.2 c) = some st' → P2 (okRS p.names [c]) rs st' := by
    intro rs st st' hr h
    induction h generalizing st' with
    | nil => intro e; cases e; exact .nil
    | @cons r s rs st x _ ih =>
      intro e
      have e' := all_some e
      cases st' with
      | nil => cases e'
      | cons y ys =>
        rw [List.zip_cons_cons, List.map_cons, List.map_cons] at e'
        injection e' with e1 e2
        refine .cons (ok_moved (hr r (List.mem_cons_self ..)) x hc e1) (ih (fun z hz => hr z (List.mem_cons_of_mem _ hz)) ?_)
        rw [e2, all_of]
  exact go hp h e
theorem Good.start {p : Pol} (hp : ∀ r ∈ p.rules, okRule r) : Good p (start p) := ⟨[], .inl rfl, ok_start p hp⟩
theorem Good.step {p : Pol} {st st' : List RS} {c : Nat} (hp : ∀ r ∈ p.rules, okRule r) (h : Good p st) (hc : c ∈ p.signs) (e : stepS p st c = some st') : Good p st' := by
  obtain ⟨l, _, h⟩ := h
  exact ⟨[c], .inr ⟨c, hc, rfl⟩, ok_step hp h hc e⟩
end Px

set_option maxRecDepth 100000
/-! PxO: how many states an automaton can have. -/
namespace Px
open PySem L2
theorem nodup_le {α : Type} [DecidableEq α] : ∀ {xs ys : List α}, xs.Nodup → (∀ x ∈ xs, x ∈ ys) → xs.length ≤ ys.length
  | [], _, _, _ => Nat.zero_le _
  | x :: xs, ys, h, s => by
    rw [List.nodup_cons] at h
    have hx := s x (List.mem_cons_self ..)
    have : xs.length ≤ (ys.erase x).length := nodup_le h.2 fun y hy => by
      have hne : y ≠ x := fun e => h.1 (e ▸ hy)
      exact (List.mem_erase_of_ne hne).mpr (s y (List.mem_cons_of_mem _ hy))
    rw [List.length_erase_of_mem hx] at this
    have : 0 < ys.length := List.length_pos_of_mem hx
    rw [List.length_cons]
    omega
/-- the parts of a list -/
def subs : List T → List (List T)
  | [] => [[]]
  | x :: l => subs l ++ (subs l).map (x :: ·)
theorem subs_len : ∀ l : List T, (subs l).length = 2 ^ l.length
  | [] => rfl
  | x :: l => by
    simp only [subs, List.length_append, List.length_map, subs_len l, List.length_cons, Nat.pow_succ]
    omega
theorem subs_mem : ∀ {l s : List T}, s.Sublist l → s ∈ subs l
  | _, _, .slnil => by simp [subs]
  | _, _, .cons x h => List.mem_append_left _ (subs_mem h)
  | _, _, .cons₂ x h => List.mem_append_right _ (List.mem_map.mpr ⟨_, subs_mem h, rfl⟩)
theorem sorted_sub : ∀ {l s : List T}, l.Pairwise (· < ·) → s.Pairwise (· < ·) → (∀ x ∈ s, x ∈ l) → s.Sublist l
  | _, [], _, _, _ => List.nil_sublist _
  | [], x :: s, _, _, h => absurd (h x (List.mem_cons_self ..)) (by simp)
  | y :: l, x :: s, hl, hs, h => by
    rw [List.pairwise_cons] at hl hs
    by_cases e : x = y
    · subst e
      refine .cons₂ _ (sorted_sub hl.2 hs.2 fun z hz => ?_)
      rcases List.mem_cons.mp (h z (List.mem_cons_of_mem _ hz)) with q | q
      · have := hs.1 z hz
        rw [q] at this
        exact absurd this (List.lt_irrefl _)
      · exact q
    · have hx : x ∈ l := (List.mem_cons.mp (h x (List.mem_cons_self ..))).resolve_left e
      refine .cons _ (sorted_sub hl.2 (List.pairwise_cons.mpr hs) fun z hz => ?_)
      rcases List.mem_cons.mp (h z hz) with q | q
      · rcases List.mem_cons.mp hz with r | r
        · exact absurd (r.symm.trans q) e
        · have a := hl.1 x hx
          have b := hs.1 z r
          rw [q] at b
          exact absurd (List.lt_trans a b) (List.lt_irrefl _)
      · exact q
def opts (names : List T) (l : T) : Rule → List RS
  | .size a b => (List.range (b.getD a + 1)).map RS.num
  | .least _ m => (List.range (m + 1)).map RS.num
  | .most _ m => (List.range (m + 1)).map RS.num
  | .kinds _ => (subs (sortT names)).map RS.set
  | .run m => (List.range (m + 1)).map (RS.pair l)
  | .row m => (List.range (m + 1)).map (RS.pair l)
  | .nt s => (List.range s.length).map fun i => RS.txt (s.take i)
  | .first k => [.txt [], .txt k]
  | .last _ => .txt [] :: names.map RS.txt
def width (n : Nat) : Rule → Nat
  | .size a b => b.getD a + 1
  | .least _ m => m + 1
  | .most _ m => m + 1
  | .kinds _ => 2 ^ n
  | .run m => m + 1
  | .row m => m + 1
  | .nt s => s.length
  | .first _ => 2
  | .last _ => n + 1
theorem insT_len {x : T} : ∀ {l : List T}, (insT x l).length = l.length + 1
  | [] => rfl
  | y :: l => by
    unfold insT
    split
    · rfl
    · simp [insT_len]
theorem sortT_len : ∀ {l : List T}, (sortT l).length = l.length
  | [] => rfl
  | x :: l => by
    show (insT x (sortT l)).length = _
    rw [insT_len, sortT_len, List.length_cons]
theorem opts_len {names : List T} {l : T} (r : Rule) : (opts names l r).length = width names.length r := by
  cases r <;> simp [opts, width, subs_len, sortT_len]
theorem opts_mem {names : List T} {l : T} {r : Rule} {rs : RS} (hn : names.Nodup) (h : okRS names l r rs) : rs ∈ opts names l r := by
  cases r <;> cases rs <;> simp only [okRS] at h <;> simp only [opts]
  case size.num a b n => exact List.mem_map.mpr ⟨n, List.mem_range.mpr (by omega), rfl⟩
  case least.num a b n => exact List.mem_map.mpr ⟨_, List.mem_range.mpr (by omega), rfl⟩
  case most.num a b n => exact List.mem_map.mpr ⟨_, List.mem_range.mpr (by omega), rfl⟩
  case kinds.set n s => exact List.mem_map.mpr ⟨s, subs_mem (sorted_sub (sortT_sorted hn) h.1 fun x hx => sortT_mem.mpr (h.2 x hx)), rfl⟩
  case run.pair m d n =>
    rw [h.1]
    exact List.mem_map.mpr ⟨n, List.mem_range.mpr (by omega), rfl⟩
  case row.pair m d n =>
    rw [h.1]
    exact List.mem_map.mpr ⟨n, List.mem_range.mpr (by omega), rfl⟩
  case nt.txt s e => exact List.mem_map.mpr ⟨e.length, List.mem_range.mpr h.2, by rw [← List.prefix_iff_eq_take.mp h.1]⟩
  case first.txt k d =>
    rcases h with h | h
    · rw [h]; exact List.mem_cons_self ..
    · rw [h]; exact List.mem_cons_of_mem _ (List.mem_cons_self ..)
  case last.txt k d =>
    rcases h with h | h
    · rw [h]; exact List.mem_cons_self ..
    · exact List.mem_cons_of_mem _ (List.mem_map_of_mem h)
/-- one of each -/
def cross : List (List RS) → List (List RS)
  | [] => [[]]
  | xs :: r => xs.flatMap fun x => (cross r).map (x :: ·)
def times : List Nat → Nat
  | [] => 1
  | n :: r => n * times r
theorem flat_len {α β : Type} (f : α → List β) (k : Nat) : ∀ (xs : List α), (∀ x ∈ xs, (f x).length = k) → (xs.flatMap f).length = xs.length * k
  | [], _ => by simp
  | x :: xs, h => by
    rw [List.flatMap_cons, List.length_append, flat_len f k xs (fun y hy => h y (List.mem_cons_of_mem _ hy)), h x (List.mem_cons_self ..), List.length_cons, Nat.succ_mul, Nat.add_comm]
theorem cross_len : ∀ xss : List (List RS), (cross xss).length = times (xss.map List.length)
  | [] => rfl
  | xs :: r => by
    rw [cross, flat_len _ (cross r).length xs (fun x _ => List.length_map _), cross_len r]
    rfl
theorem cross_mem {names : List T} {l : T} (hn : names.Nodup) : ∀ {rs : List Rule} {st : List RS}, P2 (okRS names l) rs st → st ∈ cross (rs.map (opts names l))
  | _, _, .nil => by simp [cross]
  | _, _, .cons h r => List.mem_flatMap.mpr ⟨_, opts_mem hn h, List.mem_map.mpr ⟨_, cross_mem hn r, rfl⟩⟩
def states (p : Pol) : List (List RS) := ([] :: p.signs.map fun c => [c]).flatMap fun l => cross (p.rules.map (opts p.names l))
def room (p : Pol) : Nat := (p.signs.length + 1) * times (p.rules.map (width p.names.length))
theorem states_len (p : Pol) : (states p).length = room p := by
  unfold states room
  rw [flat_len _ (times (p.rules.map (width p.names.length)))]
  · simp
  · intro l _
    rw [cross_len, List.map_map]
    refine congrArg times (List.map_congr_left fun r _ => ?_)
    exact opts_len r
theorem Good.mem {p : Pol} {st : List RS} (hn : p.names.Nodup) (h : Good p st) : st ∈ states p := by
  obtain ⟨l, hl, h⟩ := h
  refine List.mem_flatMap.mpr ⟨l, ?_, cross_mem hn h⟩
  rcases hl with e | ⟨c, hc, e⟩
  · rw [e]; exact List.mem_cons_self ..
  · rw [e]; exact List.mem_cons_of_mem _ (List.mem_map.mpr ⟨c, hc, rfl⟩)
/-- distinct things told by good states and one of k other things each -/
theorem keys_le {α κ : Type} [DecidableEq κ] {p : Pol} (hn : p.names.Nodup) (f : List RS → α → κ) (as : List α) {ks : List κ} (nd : ks.Nodup) (h : ∀ k ∈ ks, ∃ st, Good p st ∧ ∃ a ∈ as, k = f st a) : ks.length ≤ room p * as.length := by
  have : ks.length ≤ ((states p).flatMap fun st => as.map (f st)).length := nodup_le nd fun k hk => by
    obtain ⟨st, g, a, ha, e⟩ := h k hk
    exact List.mem_flatMap.mpr ⟨st, g.mem hn, List.mem_map.mpr ⟨a, ha, e.symm⟩⟩
  rwa [flat_len _ as.length _ (fun x _ => List.length_map _), states_len] at this
end Px

set_option maxRecDepth 100000
set_option maxHeartbeats 4000000
/-! PxW3: Machine's small methods: counted, unmatched, keeps. -/
namespace Px
open PySem PySem.Spec PyProof.Rows L2
section
variable {P : Program} {w : World} {K : PySem.W.Frag} {mg : Str → Option Value} {base : Heap}
/-- a part of a state, or nothing -/
def RepR (K : PySem.W.Frag) (H : Hp) (v : V) : Option RS → Prop
  | none => v = .non
  | some x => Dk K H v x.key
def spCounted (K : PySem.W.Frag) : Sp := fun vs H Q _ => ∃ (m : V) (a b : Nat) (c : Bool), vs = [m, .int a, .int b, .bl c] ∧ ∀ v, RepR K H v (counted a b c) → Q v H
theorem sc_M_counted : FnScope ["self", "many", "most", "is_bound"] ["self", "many", "most", "is_bound"] (defScope s_Machine_counted) := ⟨rfl, rfl, rfl, by decide +kernel, rfl, by decide +kernel, by decide +kernel⟩
theorem ok_M_counted (T : Top K w mg) : FnOk P w K mg base CX0 1 T.m_Machine_counted.f T.m_Machine_counted.fd ["self", "many", "most", "is_bound"] (spCounted K) := by
  refine T.m_Machine_counted.F.ok sc_M_counted (fun vs H Q E h => ?_) (fun cdv A outer s H vs Q E hr h => ?_)
  · obtain ⟨m, a, b, c, rfl, _⟩ := h
    rfl
  obtain ⟨m, a, b, c, rfl, q⟩ := h
  refine ⟨_, pss_cons (ps_if (pt_cmpR op_le (pv 1) (pv 2) (nomark _)) (pss_one (ps_ret (pv 1))) (pss_nil))
    (pss_one (ps_ret (pe_ifExp (pt_val (pv 3)) (pe_non) (pv 2)))), ?_⟩
  refine ⟨_, rfl, _, rfl, _, _, rfl, rfl, _, rfl, ite2 (fun h => ?_) (fun h => ?_)⟩
  · have h : (a : Int) ≤ b := of_decide_eq_true h
    refine ⟨_, rfl, q _ ?_⟩
    unfold counted
    rw [if_pos (by omega)]
    exact .num _
  · have h : ¬ (a : Int) ≤ b := of_decide_eq_false (Bool.eq_false_iff.mpr h)
    refine ⟨_, rfl, _, rfl, ite2 (fun hc => q _ ?_) (fun hc => ⟨_, rfl, q _ ?_⟩)⟩
    · unfold counted
      rw [if_neg (by omega), if_pos hc]
      rfl
    · unfold counted
      rw [if_neg (by omega), if_neg hc]
      exact .num _
def spUnmatched (K : PySem.W.Frag) : Sp := fun vs H Q _ => ∃ (m : V) (s e : T), vs = [m, .str (S s), .str (S e)] ∧ s.length ≤ 1000 ∧ e.length ≤ 1000 ∧ ∀ v, RepR K H v (unmatched s e) → Q v H
theorem sc_M_unmatched : FnScope ["self", "text", "end"] ["self", "text", "end"] (defScope s_Machine_unmatched) := ⟨rfl, rfl, rfl, by decide +kernel, rfl, by decide +kernel, by decide +kernel⟩
def textLen (σ : L2.St) (i : Nat) : Nat := match σ[i]? with
  | some (some (.str x)) => x.cps.size
  | _ => 0
theorem ok_M_unmatched (T : Top K w mg) : FnOk P w K mg base CX0 1 T.m_Machine_unmatched.f T.m_Machine_unmatched.fd ["self", "text", "end"] (spUnmatched K) := by
  refine T.m_Machine_unmatched.F.ok sc_M_unmatched (fun vs H Q E h => ?_) (fun cdv A outer s H vs Q E hr h => ?_)
  · obtain ⟨m, a, b, rfl, _⟩ := h
    rfl
  obtain ⟨m, s, e, rfl, hs, he, q⟩ := h
  refine ⟨_, pss_cons (ps_if (pt_val (pe_m1 PySem.F.slot_str_endswith PySem.F.type_str_endswith mt_endswith (pv 2) (pv 1))) (pss_one (ps_ret (pe_non))) (pss_nil))
    (pss_cons (ps_while PassesOwn.never (pt_not (pt_val (pe_m1 PySem.F.slot_str_startswith PySem.F.type_str_startswith mt_startswith (pv 1) (pv 2))))
    (pss_one (ps_set (i := 2) sc_M_unmatched.nd rfl (Or.inl rfl) (pe_slice sl_str (pv 2) (po_some (pe_int)) po_none))))
    (pss_one (ps_ret (pv 2)))), ?_⟩
  refine ⟨_, rfl, ⟨_, rfl⟩, _, rfl, _, _, rfl, rfl, _, rfl, ?_⟩
  rw [ends_S]
  refine ite2 (fun h => q _ ?_) (fun h => ?_)
  · unfold unmatched
    rw [if_pos h]
    rfl
  have q2 : ∀ v, Dk K H v (.text (S (trim s e))) → Q v H := fun v d => q v (by
    unfold unmatched
    rw [if_neg h]
    exact d)
  refine while_by (fun σ H1 => H1 = H ∧ ∃ e' : List Nat, σ = [some m, some (.str (S s)), some (.str (S e'))] ∧ trim s e' = trim s e ∧ e'.length ≤ 1000) (fun σ _ => textLen σ 2) ⟨rfl, e, rfl, rfl, he⟩ ?_ ?_
  · rintro σ H1 ⟨rfl, e', rfl, ht, hl⟩
    refine ⟨_, rfl, ⟨_, rfl⟩, _, rfl, _, _, rfl, rfl, _, rfl, ?_⟩
    rw [starts_S]
    cases e' with
    | nil =>
      refine iteF ?_
      exact ⟨_, rfl, q2 _ (by rw [← ht]; exact .txt _)⟩
    | cons x r =>
      cases hp : (x :: r).isPrefixOf s with
      | true =>
        refine iteF ?_
        refine ⟨_, rfl, q2 _ ?_⟩
        rw [← ht, trim, if_pos hp]
        exact .txt _
      | false =>
        refine iteT ?_
        refine ⟨_, rfl, 1, rfl, _, rfl, by rw [S_len]; exact Nat.le_of_lt (small1000 hl), ?_⟩
        rw [show (1 : Int) = ((1 : Nat) : Int) from rfl, cut_from]
        refine ⟨⟨rfl, r, rfl, ?_, ?_⟩, ?_⟩
        · rw [← ht, trim, if_neg (by rw [hp]; exact fun z => nomatch z)]
        · rw [List.length_cons] at hl; omega
        · show (S ((x :: r).drop 1)).cps.size < (S (x :: r)).cps.size
          simp [S]
  · intro σ H Q Q' f h
    obtain ⟨x, e1, ⟨a, e⟩, y, e2, i, j, e3, e4, k, e5, h⟩ := h
    exact ⟨x, e1, ⟨a, e⟩, y, e2, i, j, e3, e4, k, e5, f _ _ h⟩
/-! ### keeps -/
theorem dec_le {a n : Nat} : decide ((a : Int) ≤ (n : Int)) = decide (a ≤ n) := by
  rw [decide_eq_decide]
  omega
theorem dec_str {a n : T} : decide (V.str (S n) = V.str (S a)) = decide (n = a) := by
  rw [decide_eq_decide]
  exact ⟨fun e => S_inj (V.str.inj e), fun e => by rw [e]⟩
def spKeeps (K : PySem.W.Frag) : Sp := fun vs H Q _ => ∃ (m rv ov : V) (r : Rule) (rs : RS) (ns : List T) (l : T), vs = [m, rv, ov] ∧ Dk K H rv r.key ∧ Dk K H ov rs.key ∧ okRS ns l r rs ∧ ∀ H', Kp [] H H' → Q (.bl (keeps1 r rs)) H'
theorem sc_M_keeps : FnScope ["self", "rule", "one", "word"] ["self", "rule", "one"] (defScope s_Machine_keeps) := ⟨rfl, rfl, rfl, by decide +kernel, rfl, by decide +kernel, by decide +kernel⟩
theorem ok_M_keeps (T : Top K w mg) : FnOk P w K mg base CX0 1 T.m_Machine_keeps.f T.m_Machine_keeps.fd ["self", "rule", "one"] (spKeeps K) := by
  refine T.m_Machine_keeps.F.ok sc_M_keeps (fun vs H Q E h => ?_) (fun cdv A outer s H vs Q E hr h => ?_)
  · obtain ⟨m, rv, ov, r, rs, ns, l, rfl, _⟩ := h
    rfl
  obtain ⟨m, rv, ov, r, rs, ns, l, rfl, dr, ds, ok, q⟩ := h
  have hu := hr.units
  obtain ⟨p, xs, rfl, h1, d1⟩ := dr.rule
  refine ⟨_, pss_cons (ps_set (i := 3) sc_M_keeps.nd rfl (Or.inl rfl) (pe_ix (ixT (K := K)) (pv 1) (pe_int) (fun _ _ => rfl)))
    (pss_cons (ps_if (pt_cmpR op_eq (pv 3) (pe_str) (nomark _)) (pss_one (ps_ret (pe_cmpR op_ge (pv 2) (pe_ix (ixT (K := K)) (pv 1) (pe_int) (fun _ _ => rfl)) (nomark _)))) (pss_nil))
    (pss_cons (ps_if (pt_cmpR op_eq (pv 3) (pe_str) (nomark _)) (pss_one (ps_ret (pe_cmpR op_ge (pv 2) (pe_ix (ixT (K := K)) (pv 1) (pe_int) (fun _ _ => rfl)) (nomark _)))) (pss_nil))
    (pss_cons (ps_if (pt_cmpR op_eq (pv 3) (pe_str) (nomark _)) (pss_one (ps_ret (pe_cmpR op_ge (pe_callB (lenK (K := K)) (by rfl) T.b_len PySem.boot_len (pa_cons (pv 2) (pa_nil))) (pe_ix (ixT (K := K)) (pv 1) (pe_int) (fun _ _ => rfl)) (nomark _)))) (pss_nil))
    (pss_cons (ps_if (pt_cmpR (inK (K := K) hu) (pv 3) (pe_tup (pa_cons (pe_str) (pa_cons (pe_str) (pa_nil)))) rfl) (pss_one (ps_ret (pe_cmpR op_eq (pv 2) (pe_ix (ixT (K := K)) (pv 1) (pe_int) (fun _ _ => rfl)) (nomark _)))) (pss_nil))
    (pss_one (ps_ret (pe_bl))))))), ?_⟩
  refine ⟨_, rfl, p, _, _, _, rfl, rfl, h1, atI_nat (j := 0) rfl, ?_⟩
  -- size
  refine ⟨_, rfl, rfl, _, rfl, ite2 (fun hw => ?_) (fun hw => ?_)⟩
  · replace hw := word_is 0 hw
    cases r with
    | size a b =>
      cases rs with
      | num n =>
        obtain ⟨x, r1, rfl, e1, d2⟩ := d1.consI
        cases e1.numI
        cases ds.numI
        refine ⟨_, rfl, _, rfl, p, _, _, _, rfl, rfl, h1, atI_nat (j := 1) rfl, _, _, rfl, rfl, ?_⟩
        have := q _ Kp.refl
        simp only [keeps1] at this
        show Q (.bl (decide ((a : Int) ≤ (n : Int)))) H
        rw [dec_le]
        exact this
      | _ => exact False.elim ok
    | _ => exact absurd hw (by simp only [Rule.tag]; decide)
  replace hw := word_not 0 hw
  refine ⟨_, rfl, rfl, _, rfl, ite2 (fun hw1 => ?_) (fun hw1 => ?_)⟩
  · replace hw1 := word_is 1 hw1
    cases r with
    | least c a =>
      cases rs with
      | num n =>
        obtain ⟨x, r1, rfl, e1, d2⟩ := d1.consI
        obtain ⟨y, r2, rfl, e2, d3⟩ := d2.consI
        cases e2.numI
        cases ds.numI
        refine ⟨_, rfl, _, rfl, p, _, _, _, rfl, rfl, h1, atI_nat (j := 2) rfl, _, _, rfl, rfl, ?_⟩
        have := q _ Kp.refl
        simp only [keeps1] at this
        show Q (.bl (decide ((a : Int) ≤ (n : Int)))) H
        rw [dec_le]
        exact this
      | _ => exact False.elim ok
    | _ => exact absurd hw1 (by simp only [Rule.tag]; decide)
  replace hw1 := word_not 1 hw1
  refine ⟨_, rfl, rfl, _, rfl, ite2 (fun hw3 => ?_) (fun hw3 => ?_)⟩
  · replace hw3 := word_is 3 hw3
    cases r with
    | kinds a =>
      cases rs with
      | set l' =>
        obtain ⟨x, r1, rfl, e1, d2⟩ := d1.consI
        cases e1.numI
        obtain ⟨b, zs, rfl, hz, dz⟩ := Dk.tupI ds
        have hl := dz.length
        rw [List.length_map] at hl
        refine ⟨_, rfl, b, _, rfl, .inr hz, _, rfl, p, _, _, _, rfl, rfl, h1, atI_nat (j := 1) rfl, _, _, rfl, rfl, ?_⟩
        have := q _ Kp.refl
        simp only [keeps1] at this
        show Q (.bl (decide ((a : Int) ≤ (zs.length : Int)))) H
        rw [dec_le, hl]
        exact this
      | _ => exact False.elim ok
    | _ => exact absurd hw3 (by simp only [Rule.tag]; decide)
  replace hw3 := word_not 3 hw3
  refine ⟨_, rfl, by show 2 ≤ sizeLine; decide, fun t ht => ⟨t, _, [.text "first", .text "last"], .text r.word, rfl, .inr (SqT.of upd_same), .cons (.txt _) (.cons (.txt _) .nil), .txt _, Nat.zero_le _, _, rfl, ?_⟩⟩
  have k1 : Kp [] H (upd H t (.tup [.str "first", .str "last"])) := Kp.new ht
  generalize upd H t (.tup [.str "first", .str "last"]) = H1 at k1 ⊢
  refine ite2 (fun hw7 => ?_) (fun hw7 => ?_)
  · obtain ⟨kk, hk, hw7⟩ := word_in [7, 8] hw7
    simp only [List.mem_cons, List.not_mem_nil, or_false] at hk
    replace hw7 : r.tag = 7 ∨ r.tag = 8 := by rcases hk with rfl | rfl; exact .inl hw7; exact .inr hw7
    cases r with
    | first a =>
      cases rs with
      | txt n =>
        obtain ⟨x, r1, rfl, e1, d2⟩ := d1.consI
        cases e1.txtI
        cases ds.txtI
        refine ⟨_, rfl, _, rfl, p, _, _, _, rfl, rfl, k1.sqt h1, atI_nat (j := 1) rfl, rfl, ?_⟩
        have := q _ k1
        simp only [keeps1] at this
        show Q (.bl (decide (V.str (S n) = V.str (S a)))) H1
        rw [dec_str]
        exact this
      | _ => exact False.elim ok
    | last a =>
      cases rs with
      | txt n =>
        obtain ⟨x, r1, rfl, e1, d2⟩ := d1.consI
        cases e1.txtI
        cases ds.txtI
        refine ⟨_, rfl, _, rfl, p, _, _, _, rfl, rfl, k1.sqt h1, atI_nat (j := 1) rfl, rfl, ?_⟩
        have := q _ k1
        simp only [keeps1] at this
        show Q (.bl (decide (V.str (S n) = V.str (S a)))) H1
        rw [dec_str]
        exact this
      | _ => exact False.elim ok
    | _ => exact absurd hw7 (by simp only [Rule.tag]; decide)
  replace hw7 := word_notin [7, 8] hw7
  have := q _ k1
  cases r with
  | size _ _ => exact absurd rfl hw
  | least _ _ => exact absurd rfl hw1
  | kinds _ => exact absurd rfl hw3
  | first _ => exact absurd rfl (hw7 7 (by decide))
  | last _ => exact absurd rfl (hw7 8 (by decide))
  | most _ _ => cases rs <;> exact this
  | run _ => cases rs <;> exact this
  | row _ => cases rs <;> exact this
  | nt _ => cases rs <;> exact this
end
end Px

set_option maxRecDepth 100000
set_option maxHeartbeats 4000000
/-! PxW4: a Machine as it stands; moved. -/
namespace Px
open PySem PySem.Spec PyProof.Rows L2
/-! ### sorted texts -/
theorem rising_all : ∀ {l : List T} {x : T}, risingS (S x) (l.map S) = true → ∀ y ∈ l, ¬ y < x
  | [], _, _, _, h => nomatch h
  | z :: l, x, h, y, hy => by
    rw [List.map_cons] at h
    unfold risingS at h
    rw [Bool.and_eq_true, S_cps, S_cps, ltCps_eq, Bool.not_eq_true', decide_eq_false_iff_not] at h
    rcases List.mem_cons.mp hy with e | e
    · rw [e]; exact h.1
    · intro q
      have h2 := rising_all h.2 y e
      by_cases q2 : x = z
      · rw [← q2] at h2; exact h2 q
      · exact h2 (List.lt_trans q (lt_tri h.1 (fun e => q2 e.symm)))
theorem sorted_strict : ∀ {l : List T}, sortedS (l.map S) = true → l.Nodup → l.Pairwise (· < ·)
  | [], _, _ => .nil
  | x :: l, h, nd => by
    rw [List.nodup_cons] at nd
    rw [List.pairwise_cons]
    refine ⟨fun y hy => ?_, sorted_strict ?_ nd.2⟩
    · have h1 := rising_all (l := l) (x := x) h y hy
      exact lt_tri h1 (fun e => nd.1 (e ▸ hy))
    · cases l with
      | nil => rfl
      | cons y r =>
        have h : risingS (S x) ((y :: r).map S) = true := h
        rw [List.map_cons] at h
        unfold risingS at h
        rw [Bool.and_eq_true] at h
        exact h.2
theorem sorted_unique {a b : List T} (ha : a.Pairwise (· < ·)) (hb : b.Pairwise (· < ·)) (h : ∀ x, x ∈ a ↔ x ∈ b) : a = b :=
  (sorted_sub hb ha fun x hx => (h x).mp hx).eq_of_length_le (sorted_sub ha hb fun x hx => (h x).mpr hx).length_le
theorem texts_perm : ∀ (l : List T) {ys : List Str}, ys.Perm (l.map S) → ∃ zs : List T, ys = zs.map S ∧ zs.Perm l := fun l ys h => by
  refine ⟨ys.map fun y => y.cps.toList, ?_, ?_⟩
  · rw [List.map_map]
    exact (List.map_id _).symm.trans (List.map_congr_left fun y _ => (S_of y).symm)
  · have := h.map fun y => y.cps.toList
    rw [List.map_map] at this
    exact this.trans (.of_eq ((List.map_congr_left fun y _ => S_cps y).trans (List.map_id _)))
theorem sorted_is {l : List T} {ys : List Str} (nd : l.Nodup) (h : ys.Perm (l.map S)) (hs : sortedS ys = true) : ys = (sortT l).map S := by
  obtain ⟨zs, rfl, hz⟩ := texts_perm l h
  rw [sorted_unique (sorted_strict hs (hz.nodup_iff.mpr nd)) (sortT_sorted nd) fun x => by rw [hz.mem_iff, sortT_mem]]
section
variable {P : Program} {w : World} {K : PySem.W.Frag} {mg : Str → Option Value} {base : Heap}
/-! ### a Machine -/
def RepO (K : PySem.W.Frag) (H : Hp) (v : V) : Option (List RS) → Prop
  | none => v = .non
  | some x => Dk K H v (stKey x)
theorem RepO.kp {K : PySem.W.Frag} {H H1 : Hp} {L : List Addr} {v : V} {o : Option (List RS)} (r : RepO K H v o) (k : Kp L H H1) : RepO K H1 v o := by
  cases o with
  | none => exact r
  | some x => exact Dk.kp r k
structure Fit (p : Pol) : Prop where
  pol : isPol p = true
  nd : p.rules.Nodup
  room : room p * p.signs.length < 16000000
theorem Fit.small {p : Pol} (f : Fit p) : Small p := areCls_small (isPol_use f.pol).1
theorem Fit.ok {p : Pol} (f : Fit p) : ∀ r ∈ p.rules, okRule r := fun r hr => by
  have := (isPol_use f.pol).2.2 r hr
  cases r <;> first | exact trivial | skip
  exact (over_len this).1
theorem nodup_of_dd {α : Type} [DecidableEq α] {xs : List α} (h : xs.length = (dd xs).length) : xs.Nodup := by
  by_cases n : xs.Nodup
  · exact n
  · exfalso
    have : ∀ (xs : List α), ¬ xs.Nodup → (dd xs).length < xs.length := by
      intro xs n
      have h1 : ∀ (xs acc : List α), ¬ (acc ++ xs).Nodup → acc.Nodup → (xs.foldl dstep acc).length < acc.length + xs.length := by
        intro xs
        induction xs with
        | nil => intro acc n nd; rw [List.append_nil] at n; exact absurd nd n
        | cons x xs ih =>
          intro acc n nd
          rw [List.foldl_cons]
          by_cases hx : x ∈ acc
          · have e : dstep acc x = acc := by unfold dstep; rw [if_pos hx]
            rw [e]
            have := fold_le xs acc
            rw [List.length_cons]
            omega
          · have e : dstep acc x = acc ++ [x] := by unfold dstep; rw [if_neg hx]
            rw [e]
            have := ih (acc ++ [x]) (by rw [List.append_assoc]; exact n) (by
              rw [List.nodup_append]
              exact ⟨nd, by simp, fun a ha b hb e => hx (by rw [← List.mem_singleton.mp hb, ← e]; exact ha)⟩)
            rw [List.length_append] at this
            simp only [List.length_cons, List.length_nil] at this ⊢
            omega
      have := h1 xs [] (by simpa using n) List.nodup_nil
      rw [List.length_nil, Nat.zero_add] at this
      exact this
    have := this xs n
    omega
theorem Fit.names {p : Pol} (f : Fit p) : p.names.Nodup := nodup_of_dd (areCls_use (isPol_use f.pol).1).2.2.2.1
theorem Fit.signs {p : Pol} (f : Fit p) : p.signs.Nodup := nodup_of_dd (areCls_use (isPol_use f.pol).1).2.2.2.2
abbrev fl (fs : List (Str × V)) (x : Str) : Option V := fs.lookup x
/-- what the fields of a Machine hold -/
structure MF (K : PySem.W.Frag) (H : Hp) (fs : List (Str × V)) (p : Pol) (dk : Addr) : Prop where
  rules : ∃ r xs, fl fs "rules" = some (.ref r) ∧ SqT K H r xs ∧ DkA K H xs (p.rules.map Rule.key)
  signs : fl fs "signs" = some (.str (S p.signs))
  names : ∃ d kn, fl fs "names" = some (.ref d) ∧ H d = some (.dK kn) ∧ ∀ c ∈ p.signs, valV kn (Sum.inr (S [c])) = some (.str (S (nameOf p.cls c)))
  followers : ∃ d kn, fl fs "followers" = some (.ref d) ∧ H d = some (.dK kn) ∧ ∀ c ∈ p.signs, valV kn (Sum.inr (S [c])) = (nextOf p.cls c).map fun e => .str (S [e])
  start : ∃ v, fl fs "start" = some v ∧ Dk K H v (stKey (start p))
  known : fl fs "known" = some (.ref dk)
  meths : ∀ x ∈ (["step", "moved", "counted", "unmatched", "keeps", "fine", "after", "nearest"] : List Str), fl fs x = none
theorem MF.kp {H H1 : Hp} {fs : List (Str × V)} {p : Pol} {dk : Addr} {L : List Addr} (m : MF K H fs p dk) (k : Kp L H H1) : MF K H1 fs p dk := by
  obtain ⟨⟨r, xs, a1, a2, a3⟩, b, ⟨d, kn, c1, c2, c3⟩, ⟨d', kn', e1, e2, e3⟩, ⟨v, f1, f2⟩, g, h⟩ := m
  exact ⟨⟨r, xs, a1, k.sqt a2, a3.kp k⟩, b, ⟨d, kn, c1, k.fix _ _ rfl c2, c3⟩, ⟨d', kn', e1, k.fix _ _ rfl e2, e3⟩, ⟨v, f1, f2.kp k⟩, g, h⟩
structure MachAt (P : Program) (w : World) (K : PySem.W.Frag) (C : Addr) (H : Hp) (m dk : Addr) (p : Pol) : Prop where
  fit : Fit p
  ob : ∃ dx fs, H m = some (.ins C dx fs) ∧ MF K H fs p dk
  ne : m ≠ dk
  cache : ∃ kvs, NDict P w K H dk kvs ∧ (kvs.map (·.1)).Nodup ∧ ∀ x ∈ kvs, ∃ st c, Good p st ∧ c ∈ p.signs ∧ x.1 = .tup [stKey st, .text (S [c])] ∧ RepO K H x.2 (stepS p st c)
theorem MachAt.kp {C : Addr} {H H1 : Hp} {m dk : Addr} {p : Pol} {L : List Addr} (M : MachAt P w K C H m dk p) (k : Kp L H H1) (n1 : m ∉ L) (n2 : dk ∉ L) : MachAt P w K C H1 m dk p := by
  obtain ⟨f, ⟨dx, fs, h1, h2⟩, ne, kvs, h3, h4, h5⟩ := M
  refine ⟨f, ⟨dx, fs, k.keep _ _ n1 h1, h2.kp k⟩, ne, kvs, h3.kp k n2, h4, fun x hx => ?_⟩
  obtain ⟨st, c, a, b, d, e⟩ := h5 x hx
  exact ⟨st, c, a, b, d, e.kp k⟩
theorem MachAt.kp0 {C : Addr} {H H1 : Hp} {m dk : Addr} {p : Pol} (M : MachAt P w K C H m dk p) (k : Kp [] H H1) : MachAt P w K C H1 m dk p := M.kp k (fun z => nomatch z) (fun z => nomatch z)
/-! ### moved -/
def spMoved (P : Program) (w : World) (K : PySem.W.Frag) (C : Addr) : Sp := fun vs H Q _ => ∃ (m dk : Addr) (p : Pol) (rv ov : V) (r : Rule) (rs : RS) (c : Nat) (l : T), vs = [.ref m, rv, ov, .str (S [c])] ∧ MachAt P w K C H m dk p ∧ Dk K H rv r.key ∧ Dk K H ov rs.key ∧ isRule p.names p.signs r = true ∧
  okRS p.names l r rs ∧ (l = [] ∨ ∃ c' ∈ p.signs, l = [c']) ∧ c ∈ p.signs ∧ ∀ v H', Kp [] H H' → RepR K H' v (moved p.cls r rs c) → Q v H'
theorem sc_M_moved : FnScope ["self", "rule", "one", "sign", "word", "name", "many"] ["self", "rule", "one", "sign"] (defScope s_Machine_moved) := ⟨rfl, rfl, rfl, by decide +kernel, rfl, by decide +kernel, by decide +kernel⟩
theorem ok_M_moved (T : Top K w mg) : FnOk P w K mg base CX0 2 T.m_Machine_moved.f T.m_Machine_moved.fd ["self", "rule", "one", "sign"] (spMoved P w K T.c_Machine) := by
  refine T.m_Machine_moved.F.ok sc_M_moved (fun vs H Q E h => ?_) (fun cdv A outer s H vs Q E hr h => ?_)
  · obtain ⟨m, dk, p, rv, ov, r, rs, c, l, rfl, _⟩ := h
    rfl
  obtain ⟨m, dk, p, rv, ov, r, rs, c, l, rfl, M, dr, ds, hir, ok, hl, hc, q⟩ := h
  have hu := hr.units
  have hu1 := hu_of hr
  obtain ⟨a, xs, rfl, h1, d1⟩ := dr.rule
  obtain ⟨dx, fs, hm, F⟩ := M.ob
  obtain ⟨dn, kn, n1, n2, n3⟩ := F.names
  refine ⟨_, pss_cons (ps_par (i := 4) (j := 5) rfl sc_M_moved.nd rfl rfl (by decide) rfl rfl (pa_cons (pe_ix (ixT (K := K)) (pv 1) (pe_int) (fun _ _ => rfl)) (pa_cons (pe_dget hu1 (fldK (K := K) (pv 0)) (pv 3) (fun _ _ => rfl)) (pa_nil))) (by rfl))
    (pss_cons (ps_if (pt_cmpR op_eq (pv 4) (pe_str) (nomark _)) (pss_one (ps_ret (pe_meth (pv 0) T.cl_Machine T.m_Machine_counted.M (ok_M_counted (P := P) (base := base) T) hr T.m_Machine_counted.b .nil pass0 (pa_cons (pe_op op_add (pv 2) (pe_int)) (pa_cons (pe_ifExp (pt_cmpR op_isN (pe_ix (ixT (K := K)) (pv 1) (pe_int) (fun _ _ => rfl)) pe_non (nomark _)) (pe_ix (ixT (K := K)) (pv 1) (pe_int) (fun _ _ => rfl)) (pe_ix (ixT (K := K)) (pv 1) (pe_int) (fun _ _ => rfl))) (pa_cons (pe_cmpR op_notN (pe_ix (ixT (K := K)) (pv 1) (pe_int) (fun _ _ => rfl)) pe_non (nomark _)) (pa_nil))))))) (pss_nil))
    (pss_cons (ps_if (pt_cmpR (inK (K := K) hu) (pv 4) (pe_tup (pa_cons (pe_str) (pa_cons (pe_str) (pa_nil)))) rfl) (pss_one (ps_ret (pe_meth (pv 0) T.cl_Machine T.m_Machine_counted.M (ok_M_counted (P := P) (base := base) T) hr T.m_Machine_counted.b .nil pass0 (pa_cons (pe_op op_add (pv 2) (pe_ifExp (pt_cmpR op_eq (pv 5) (pe_ix (ixT (K := K)) (pv 1) (pe_int) (fun _ _ => rfl)) (nomark _)) (pe_int) (pe_int))) (pa_cons (pe_ix (ixT (K := K)) (pv 1) (pe_int) (fun _ _ => rfl)) (pa_cons (pe_cmpR op_eq (pv 4) (pe_str) (nomark _)) (pa_nil))))))) (pss_nil))
    (pss_cons (ps_if (pt_cmpR op_eq (pv 4) (pe_str) (nomark _)) (pss_one (ps_ret (pe_ifExp (pt_cmpR (inK (K := K) hu) (pv 5) (pv 2) rfl) (pv 2) (pe_callTy (tupK (K := K)) (by rfl) T.b_tuple boot_tuple (pa_cons (pe_callB (sortedK (K := K)) (by rfl) T.b_sorted (by decide +kernel) (pa_cons (pe_op (catT (K := K)) (pv 2) (pe_tup (pa_cons (pv 5) (pa_nil)))) (pa_nil))) (pa_nil)))))) (pss_nil))
    (pss_cons (ps_if (pt_cmpR op_eq (pv 4) (pe_str) (nomark _)) (pss_cons (ps_set (i := 6) sc_M_moved.nd rfl (Or.inl rfl) (pe_ifExp (pt_cmpR op_eq (pe_ix (ixT (K := K)) (pv 2) (pe_int) (fun _ _ => rfl)) (pv 3) (nomark _)) (pe_op op_add (pe_ix (ixT (K := K)) (pv 2) (pe_int) (fun _ _ => rfl)) (pe_int)) (pe_int)))
    (pss_one (ps_ret (pe_ifExp (pt_cmpR op_le (pv 6) (pe_ix (ixT (K := K)) (pv 1) (pe_int) (fun _ _ => rfl)) (nomark _)) (pe_tup (pa_cons (pv 3) (pa_cons (pv 6) (pa_nil)))) (pe_non))))) (pss_nil))
    (pss_cons (ps_if (pt_cmpR op_eq (pv 4) (pe_str) (nomark _)) (pss_cons (ps_set (i := 6) sc_M_moved.nd rfl (Or.inl rfl) (pe_ifExp (PW.pt (pw_and (pt_cmpR op_ne (pe_ix (ixT (K := K)) (pv 2) (pe_int) (fun _ _ => rfl)) (pe_str) (nomark _)) (pw_and1 (pt_cmpR op_eq (pe_dget1 hu1 (fldK (K := K) (pv 0)) (pe_ix (ixT (K := K)) (pv 2) (pe_int) (fun _ _ => rfl)) ⟨rfl, rfl, rfl, rfl⟩) (pv 3) (nomark _))))) (pe_op op_add (pe_ix (ixT (K := K)) (pv 2) (pe_int) (fun _ _ => rfl)) (pe_int)) (pe_int)))
    (pss_one (ps_ret (pe_ifExp (pt_cmpR op_le (pv 6) (pe_ix (ixT (K := K)) (pv 1) (pe_int) (fun _ _ => rfl)) (nomark _)) (pe_tup (pa_cons (pv 3) (pa_cons (pv 6) (pa_nil)))) (pe_non))))) (pss_nil))
    (pss_cons (ps_if (pt_cmpR op_eq (pv 4) (pe_str) (nomark _)) (pss_one (ps_ret (pe_meth (pv 0) T.cl_Machine T.m_Machine_unmatched.M (ok_M_unmatched (P := P) (base := base) T) hr T.m_Machine_unmatched.b .nil pass0 (pa_cons (pe_ix (ixT (K := K)) (pv 1) (pe_int) (fun _ _ => rfl)) (pa_cons (pe_op op_add_str (pv 2) (pv 3)) (pa_nil)))))) (pss_nil))
    (pss_cons (ps_if (pt_cmpR op_eq (pv 4) (pe_str) (nomark _)) (pss_one (ps_ret (pe_ifExp (pt_cmpR op_ne (pv 2) pe_str (nomark _)) (pv 2) (pe_ifExp (pt_cmpR op_eq (pv 5) (pe_ix (ixT (K := K)) (pv 1) (pe_int) (fun _ _ => rfl)) (nomark _)) (pv 5) (pe_non))))) (pss_nil))
    (pss_one (ps_ret (pv 5)))))))))), ?_⟩
  refine ⟨_, rfl, a, _, _, _, rfl, rfl, h1, atI_nat (j := 0) rfl, ?_⟩
  refine ⟨_, rfl, m, _, dx, fs, _, rfl, hm, T.cl_Machine, T.n_Machine_names, n1, _, rfl, dn, _, rfl, by
    have := DGet.k (k := Sum.inr (S [c])) n2
    rw [n3 c hc] at this
    exact this, ?_⟩
  refine ⟨_, _, rfl, ?_⟩
  -- size
  refine ⟨_, rfl, rfl, _, rfl, ite2 (fun hw => ?_) (fun hw => ?_)⟩
  · replace hw := word_is 0 hw
    cases r with
    | size a' b =>
      cases rs with
      | num n =>
        obtain ⟨x, r1, rfl, e1, d2⟩ := d1.consI
        cases e1.numI
        obtain ⟨y, r2, rfl, e2, d3⟩ := d2.consI
        cases d3.nilI
        cases ds.numI
        refine ⟨_, rfl, m, dx, fs, rfl, hm, F.meths _ (by simp), _, rfl, _, _, rfl, rfl, ?_⟩
        cases b with
        | none =>
          cases e2.nonI
          refine ⟨_, rfl, a, _, _, _, rfl, rfl, h1, atI_nat (j := 2) rfl, rfl, _, rfl, iteD rfl ?_⟩
          refine ⟨_, rfl, a, _, _, _, rfl, rfl, h1, atI_nat (j := 1) rfl, ?_⟩
          refine ⟨_, rfl, a, _, _, _, rfl, rfl, h1, atI_nat (j := 2) rfl, rfl, ?_⟩
          exact ⟨.ref m, n + 1, a', false, rfl, fun v hv => q v H Kp.refl hv⟩
        | some m' =>
          cases e2.numI
          refine ⟨_, rfl, a, _, _, _, rfl, rfl, h1, atI_nat (j := 2) rfl, rfl, _, rfl, iteN (fun z => nomatch z) ?_⟩
          refine ⟨_, rfl, a, _, _, _, rfl, rfl, h1, atI_nat (j := 2) rfl, ?_⟩
          refine ⟨_, rfl, a, _, _, _, rfl, rfl, h1, atI_nat (j := 2) rfl, rfl, ?_⟩
          exact ⟨.ref m, n + 1, m', true, rfl, fun v hv => q v H Kp.refl hv⟩
      | _ => exact False.elim ok
    | _ => exact absurd hw (by simp only [Rule.tag]; decide)
  replace hw := word_not 0 hw
  -- least, most
  refine ⟨_, rfl, by show 2 ≤ sizeLine; decide, fun t ht => ⟨t, _, [.text "least", .text "most"], .text r.word, rfl, .inr (SqT.of upd_same), .cons (.txt _) (.cons (.txt _) .nil), .txt _, Nat.zero_le _, _, rfl, ?_⟩⟩
  have k1 : Kp [] H (upd H t (.tup [.str "least", .str "most"])) := Kp.new ht
  generalize upd H t (.tup [.str "least", .str "most"]) = H1 at k1 ⊢
  refine ite2 (fun hw2 => ?_) (fun hw2 => ?_)
  · obtain ⟨kk, hk, hw2⟩ := word_in [1, 2] hw2
    simp only [List.mem_cons, List.not_mem_nil, or_false] at hk
    replace hw2 : r.tag = 1 ∨ r.tag = 2 := by rcases hk with rfl | rfl; exact .inl hw2; exact .inr hw2
    cases r with
    | least k' a' =>
      cases rs with
      | num n =>
        obtain ⟨x, r1, rfl, e1, d2⟩ := d1.consI
        cases e1.txtI
        obtain ⟨y, r2, rfl, e2, d3⟩ := d2.consI
        cases e2.numI
        cases ds.numI
        refine ⟨_, rfl, m, dx, fs, rfl, k1.at0 hm, F.meths _ (by simp), _, rfl, _, rfl, _, rfl, a, _, _, _, rfl, rfl, k1.sqt h1, atI_nat (j := 1) rfl, rfl, _, rfl, ?_⟩
        have q := fun v (hv : RepR K H1 v (counted (n + if nameOf p.cls c = k' then 1 else 0) a' false)) => q v H1 k1 hv
        refine ite2 (fun hn => ?_) (fun hn => ?_)
        · have hn : nameOf p.cls c = k' := S_inj (V.str.inj (of_decide_eq_true hn))
          rw [if_pos hn] at q
          refine ⟨_, _, rfl, rfl, _, rfl, a, _, _, _, rfl, rfl, k1.sqt h1, atI_nat (j := 2) rfl, _, rfl, rfl, ?_⟩
          rw [show decide (V.str (Rule.least k' a').word = V.str "most") = false from decide_eq_false (fun z => absurd ((word_tag (.least k' a') 2).mp (V.str.inj z)) (by simp [Rule.tag]))]
          exact ⟨.ref m, n + 1, a', false, rfl, fun v hv => q v hv⟩
        · have hn : ¬ nameOf p.cls c = k' := fun z => hn (decide_eq_true (by rw [z]))
          rw [if_neg hn] at q
          refine ⟨_, _, rfl, rfl, _, rfl, a, _, _, _, rfl, rfl, k1.sqt h1, atI_nat (j := 2) rfl, _, rfl, rfl, ?_⟩
          rw [show decide (V.str (Rule.least k' a').word = V.str "most") = false from decide_eq_false (fun z => absurd ((word_tag (.least k' a') 2).mp (V.str.inj z)) (by simp [Rule.tag]))]
          exact ⟨.ref m, n + 0, a', false, rfl, fun v hv => q v hv⟩
      | _ => exact False.elim ok
    | most k' a' =>
      cases rs with
      | num n =>
        obtain ⟨x, r1, rfl, e1, d2⟩ := d1.consI
        cases e1.txtI
        obtain ⟨y, r2, rfl, e2, d3⟩ := d2.consI
        cases e2.numI
        cases ds.numI
        refine ⟨_, rfl, m, dx, fs, rfl, k1.at0 hm, F.meths _ (by simp), _, rfl, _, rfl, _, rfl, a, _, _, _, rfl, rfl, k1.sqt h1, atI_nat (j := 1) rfl, rfl, _, rfl, ?_⟩
        have q := fun v (hv : RepR K H1 v (counted (n + if nameOf p.cls c = k' then 1 else 0) a' true)) => q v H1 k1 hv
        refine ite2 (fun hn => ?_) (fun hn => ?_)
        · have hn : nameOf p.cls c = k' := S_inj (V.str.inj (of_decide_eq_true hn))
          rw [if_pos hn] at q
          refine ⟨_, _, rfl, rfl, _, rfl, a, _, _, _, rfl, rfl, k1.sqt h1, atI_nat (j := 2) rfl, _, rfl, rfl, ?_⟩
          rw [decide_eq_true (show V.str (Rule.most k' a').word = V.str "most" from rfl)]
          exact ⟨.ref m, n + 1, a', true, rfl, fun v hv => q v hv⟩
        · have hn : ¬ nameOf p.cls c = k' := fun z => hn (decide_eq_true (by rw [z]))
          rw [if_neg hn] at q
          refine ⟨_, _, rfl, rfl, _, rfl, a, _, _, _, rfl, rfl, k1.sqt h1, atI_nat (j := 2) rfl, _, rfl, rfl, ?_⟩
          rw [decide_eq_true (show V.str (Rule.most k' a').word = V.str "most" from rfl)]
          exact ⟨.ref m, n + 0, a', true, rfl, fun v hv => q v hv⟩
      | _ => exact False.elim ok
    | _ => exact absurd hw2 (by simp only [Rule.tag]; decide)
  replace hw2 := word_notin [1, 2] hw2
  -- kinds
  refine ⟨_, rfl, rfl, _, rfl, ite2 (fun hw3 => ?_) (fun hw3 => ?_)⟩
  · replace hw3 := word_is 3 hw3
    cases r with
    | kinds a' =>
      cases rs with
      | set s' =>
        obtain ⟨b, zs, rfl, hz, dz⟩ := Dk.tupI ds
        have hzl := dz.length
        rw [List.length_map] at hzl
        have zz : zs = s'.map fun t => V.str (S t) := by
          clear hz ds ok hzl q
          induction s' generalizing zs with
          | nil => exact dz.nilI
          | cons t s' ih =>
            obtain ⟨x, r, rfl, e1, e2⟩ := dz.consI
            cases e1.txtI
            rw [ih _ e2]
            rfl
        have hs4 : s'.length ≤ 4 := by
          have := nodup_le (sorted_nodup ok.1) ok.2
          have h4 := M.fit.small.1
          rw [Pol.names, List.length_map] at this
          omega
        refine ⟨_, rfl, _, rfl, b, zs, _, .text (S (nameOf p.cls c)), rfl, .inr (k1.sqt hz), dz.kp k1, .txt _, Nat.zero_le _, _, rfl, ?_⟩
        refine ite2 (fun hn => ?_) (fun hn => ?_)
        · have hn : nameOf p.cls c ∈ s' := text_mem.mp (of_decide_eq_true hn)
          refine ⟨_, rfl, q _ H1 k1 ?_⟩
          simp only [moved, if_pos hn]
          exact ds.kp k1
        · have hn : nameOf p.cls c ∉ s' := fun z => hn (decide_eq_true (text_mem.mpr z))
          refine ⟨_, rfl, _, rfl, by show 1 ≤ sizeLine; decide, fun t2 ht2 => ?_⟩
          have k2 : Kp [] H1 (upd H1 t2 (.tup [.str (S (nameOf p.cls c))])) := Kp.new ht2
          have g2 : SqT K (upd H1 t2 (.tup [.str (S (nameOf p.cls c))])) t2 [.str (S (nameOf p.cls c))] := SqT.of upd_same
          generalize upd H1 t2 (.tup [.str (S (nameOf p.cls c))]) = H2 at k2 g2 ⊢
          have nd2 := snoc_nodup (sorted_nodup ok.1) hn
          have fin : ∀ (H3 : Hp) (t3 : Addr), Kp [] H2 H3 → SqT K H3 t3 ((s' ++ [nameOf p.cls c]).map fun t => V.str (S t)) → rSortedU K [.ref t3] H3 fun v H4 => rTupOf K [v] H4 Q := fun H3 t3 k3 g3 => by
            refine ⟨t3, (s' ++ [nameOf p.cls c]).map S, rfl, by rw [List.map_map]; exact g3, by rw [List.length_map, List.length_append, List.length_singleton]; omega, fun ys pp hp hs hpp => ?_⟩
            rw [sorted_is nd2 hp hs]
            refine ⟨pp, _, rfl, .inl ⟨SqL.of upd_same, fun l2 hl2 => ?_⟩⟩
            refine q _ _ (k1.trans (k2.trans (k3.trans ((Kp.new hpp).trans (Kp.new hl2))))) ?_
            simp only [moved, if_neg hn]
            refine .tup (SqT.of upd_same) ?_
            rw [List.map_map]
            exact texts_dk _
          refine ⟨b, t2, zs, _, rfl, rfl, k2.sqt (k1.sqt hz), g2, ?_, fun ez => ?_, (fun _ ez => nomatch ez), fun _ _ t3 ht3 => ?_⟩
          · rw [List.length_singleton]
            exact Nat.le_of_lt (small1000 (by omega))
          · have : s' = [] := by cases s' with
              | nil => rfl
              | cons _ _ => rw [zz] at ez; exact nomatch ez
            subst this
            exact fin _ _ Kp.refl g2
          · refine fin _ _ (Kp.new ht3) (SqT.of ?_)
            rw [upd_same, zz, List.map_append]
            rfl
      | _ => exact False.elim ok
    | _ => exact absurd hw3 (by simp only [Rule.tag]; decide)
  replace hw3 := word_not 3 hw3
  -- the pair of run and row
  have pr : ∀ {d : List Nat} {n : Nat}, Dk K H ov (RS.pair d n).key → ∃ b, ov = .ref b ∧ SqT K H1 b [.str (S d), .int n] := fun dd => by
    obtain ⟨b, zs, rfl, hz, dz⟩ := Dk.tupI dd
    obtain ⟨x, r1, rfl, e1, d2⟩ := dz.consI
    obtain ⟨y, r2, rfl, e2, d3⟩ := d2.consI
    cases d3.nilI
    cases e1.txtI
    cases e2.numI
    exact ⟨b, rfl, k1.sqt hz⟩
  have out1 : ∀ {k a' : Nat}, (∀ v H', Kp [] H H' → RepR K H' v (if k ≤ a' then some (RS.pair [c] k) else none) → Q v H') → decide ((k : Int) ≤ (a' : Int)) = true →
      ∀ pp, H1 pp = none → Q (.ref pp) (upd H1 pp (.tup [.str (S [c]), .int (k : Int)])) := fun {k a'} q hn pp hpp => by
    have hn : (k : Int) ≤ a' := of_decide_eq_true hn
    refine q _ _ (k1.trans (Kp.new hpp)) ?_
    rw [if_pos (by omega)]
    exact .tup (SqT.of upd_same) (.cons (.txt _) (.cons (.num _) .nil))
  have out2 : ∀ {k a' : Nat}, (∀ v H', Kp [] H H' → RepR K H' v (if k ≤ a' then some (RS.pair [c] k) else none) → Q v H') → ¬ decide ((k : Int) ≤ (a' : Int)) = true → Q .non H1 := fun {k a'} q hn => by
    have hn : ¬ (k : Int) ≤ a' := fun z => hn (decide_eq_true z)
    refine q _ _ k1 ?_
    rw [if_neg (by omega)]
    rfl
  -- run
  refine ⟨_, rfl, rfl, _, rfl, ite2 (fun hw4 => ?_) (fun hw4 => ?_)⟩
  · replace hw4 := word_is 4 hw4
    cases r with
    | run a' =>
      cases rs with
      | pair d n =>
        obtain ⟨x, r1, rfl, e1, d2⟩ := d1.consI
        cases e1.numI
        obtain ⟨b, rfl, hb⟩ := pr ds
        refine ⟨_, rfl, b, _, _, _, rfl, rfl, hb, atI_nat (j := 0) rfl, _, rfl, rfl, _, rfl, ?_⟩
        simp only [moved] at q
        refine ite2 (fun hn => ?_) (fun hn => ?_)
        · have hn : d = [c] := S_inj (V.str.inj (of_decide_eq_true hn))
          rw [if_pos hn] at q
          refine ⟨_, rfl, b, _, _, _, rfl, rfl, hb, atI_nat (j := 1) rfl, _, _, rfl, rfl, ?_⟩
          refine ⟨_, rfl, _, rfl, a, _, _, _, rfl, rfl, k1.sqt h1, atI_nat (j := 1) rfl, _, _, rfl, rfl, _, rfl, ?_⟩
          exact ite2 (fun hn => ⟨_, rfl, _, rfl, by show 2 ≤ sizeLine; decide, out1 (k := n + 1) q hn⟩) (fun hn => out2 (k := n + 1) q hn)
        · have hn : ¬ d = [c] := fun z => hn (decide_eq_true (by rw [z]))
          rw [if_neg hn] at q
          refine ⟨_, rfl, _, rfl, a, _, _, _, rfl, rfl, k1.sqt h1, atI_nat (j := 1) rfl, _, _, rfl, rfl, _, rfl, ?_⟩
          exact ite2 (fun hn => ⟨_, rfl, _, rfl, by show 2 ≤ sizeLine; decide, out1 (k := 1) q hn⟩) (fun hn => out2 (k := 1) q hn)
      | _ => exact False.elim ok
    | _ => exact absurd hw4 (by simp only [Rule.tag]; decide)
  replace hw4 := word_not 4 hw4
  -- row
  refine ⟨_, rfl, rfl, _, rfl, ite2 (fun hw5 => ?_) (fun hw5 => ?_)⟩
  · replace hw5 := word_is 5 hw5
    cases r with
    | row a' =>
      cases rs with
      | pair d n =>
        obtain ⟨x, r1, rfl, e1, d2⟩ := d1.consI
        cases e1.numI
        obtain ⟨b, rfl, hb⟩ := pr ds
        obtain ⟨df, kf, f1, f2, f3⟩ := F.followers
        simp only [moved] at q
        have fin : ∀ (k : Nat), (∀ v H', Kp [] H H' → RepR K H' v (if k ≤ a' then some (RS.pair [c] k) else none) → Q v H') → ∀ D : Ends, D.rt = Q → (tRet
                  (tIf (tTest (tOp (rI0 fun i j => V.bl (decide (i ≤ j))) (tVar 6) (tOp (rIxT K) (tVar 1) (tC (V.int 1)))))
                    (tTup (tCons (tVar 3) (tCons (tVar 6) tNil))) (tC V.non))) D [some (.ref m), some (.ref a), some (.ref b), some (.str (S [c])), some (.str (Rule.row a').word), some (.str (S (nameOf p.cls c))), some (.int (k : Int))] H1 := fun k q D e => by
          refine ⟨_, rfl, _, rfl, a, _, _, _, rfl, rfl, k1.sqt h1, atI_nat (j := 1) rfl, _, _, rfl, rfl, _, rfl, ?_⟩
          rw [← e] at out1 out2 q
          exact ite2 (fun hn => ⟨_, rfl, _, rfl, by show 2 ≤ sizeLine; decide, out1 q hn⟩) (fun hn => out2 q hn)
        refine ⟨_, rfl, b, _, _, _, rfl, rfl, hb, atI_nat (j := 0) rfl, rfl, _, rfl, ?_⟩
        rcases hl with hl | ⟨c', hc', hl⟩
        · have hd : d = [] := ok.1.trans hl
          subst hd
          refine iteDn rfl ?_
          refine iteF ?_
          exact fin 1 q _ rfl
        · have hd : d = [c'] := ok.1.trans hl
          subst hd
          replace q : ∀ (v : V) (H' : Hp), Kp [] H H' → RepR K H' v (if (if nextOf p.cls c' = some c then n + 1 else 1) ≤ a' then some (RS.pair [c] (if nextOf p.cls c' = some c then n + 1 else 1)) else none) → Q v H' := q
          refine iteNn (fun z => absurd (S_inj (V.str.inj z : S [c'] = S [])) (by simp)) ?_
          refine ⟨_, rfl, m, _, dx, fs, .ref df, rfl, k1.at0 hm, T.cl_Machine, T.n_Machine_followers, f1, df, rfl, .inl ⟨kf, .inl (k1.at0 f2)⟩, ?_⟩
          refine ⟨_, rfl, b, _, _, _, rfl, rfl, hb, atI_nat (j := 0) rfl, _, DGet.k (k := Sum.inr (S [c'])) (k1.at0 f2), ?_⟩
          rw [f3 c' hc']
          cases en : nextOf p.cls c' with
          | none =>
            refine ⟨_, rfl, rfl, _, rfl, ?_⟩
            refine iteN (fun z => nomatch z) ?_
            have ek : (if nextOf p.cls c' = some c then n + 1 else 1) = 1 := by rw [en]; exact if_neg (fun z => by cases z)
            rw [ek] at q
            exact fin 1 q _ rfl
          | some e' =>
            refine ⟨_, rfl, rfl, _, rfl, ?_⟩
            refine ite2 (fun hn => ?_) (fun hn => ?_)
            · have hn : [e'] = [c] := S_inj (V.str.inj (of_decide_eq_true hn))
              refine ⟨_, rfl, b, _, _, _, rfl, rfl, hb, atI_nat (j := 1) rfl, _, _, rfl, rfl, ?_⟩
              have ek : (if nextOf p.cls c' = some c then n + 1 else 1) = n + 1 := if_pos (by rw [en, (List.cons.inj hn).1])
              rw [ek] at q
              exact fin (n + 1) q _ rfl
            · have hn : ¬ e' = c := fun z => hn (decide_eq_true (by rw [z]; rfl))
              have ek : (if nextOf p.cls c' = some c then n + 1 else 1) = 1 := if_neg (fun z => hn (Option.some.inj (en.symm.trans z)))
              rw [ek] at q
              exact fin 1 q _ rfl
      | _ => exact False.elim ok
    | _ => exact absurd hw5 (by simp only [Rule.tag]; decide)
  replace hw5 := word_not 5 hw5
  -- not
  refine ⟨_, rfl, rfl, _, rfl, ite2 (fun hw6 => ?_) (fun hw6 => ?_)⟩
  · replace hw6 := word_is 6 hw6
    cases r with
    | nt s' =>
      cases rs with
      | txt e =>
        obtain ⟨x, r1, rfl, e1, d2⟩ := d1.consI
        cases e1.txtI
        cases ds.txtI
        have h5 := (over_len hir).2
        have h6 := ok.2
        refine ⟨_, rfl, m, dx, fs, rfl, k1.at0 hm, F.meths _ (by simp), _, rfl, a, _, _, _, rfl, rfl, k1.sqt h1, atI_nat (j := 1) rfl, ?_⟩
        refine ⟨_, rfl, _, rfl, _, _, rfl, rfl, by rw [S_len, S_len, List.length_singleton]; exact Nat.le_of_lt (small1000 (by omega)), ?_⟩
        rw [S_app]
        exact ⟨.ref m, s', e ++ [c], rfl, by omega, by rw [List.length_append, List.length_singleton]; omega, fun v hv => q v H1 k1 hv⟩
      | _ => exact False.elim ok
    | _ => exact absurd hw6 (by simp only [Rule.tag]; decide)
  replace hw6 := word_not 6 hw6
  -- first
  refine ⟨_, rfl, rfl, _, rfl, ite2 (fun hw7 => ?_) (fun hw7 => ?_)⟩
  · replace hw7 := word_is 7 hw7
    cases r with
    | first k' =>
      cases rs with
      | txt d =>
        obtain ⟨x, r1, rfl, e1, d2⟩ := d1.consI
        cases e1.txtI
        cases ds.txtI
        simp only [moved] at q
        refine ⟨_, rfl, rfl, _, rfl, ?_⟩
        by_cases hd : d = []
        · subst hd
          rw [if_neg (by simp)] at q
          refine iteDn rfl ?_
          refine ⟨_, rfl, _, rfl, a, _, _, _, rfl, rfl, k1.sqt h1, atI_nat (j := 1) rfl, rfl, _, rfl, ite2 (fun hn => ?_) (fun hn => ?_)⟩
          · have hn : nameOf p.cls c = k' := S_inj (V.str.inj (of_decide_eq_true hn))
            rw [if_pos hn] at q
            exact ⟨_, rfl, q _ H1 k1 (.txt _)⟩
          · have hn : ¬ nameOf p.cls c = k' := fun z => hn (decide_eq_true (by rw [z]))
            rw [if_neg hn] at q
            exact q _ H1 k1 rfl
        · rw [if_pos hd] at q
          refine iteNn (fun z => hd (S_inj (V.str.inj z))) ?_
          exact ⟨_, rfl, q _ H1 k1 (.txt _)⟩
      | _ => exact False.elim ok
    | _ => exact absurd hw7 (by simp only [Rule.tag]; decide)
  replace hw7 := word_not 7 hw7
  -- last
  cases r with
  | last k' =>
    cases rs with
    | txt d => exact ⟨_, rfl, q _ H1 k1 (.txt _)⟩
    | _ => exact False.elim ok
  | size _ _ => exact absurd rfl hw
  | least _ _ => exact absurd rfl (hw2 1 (by decide))
  | most _ _ => exact absurd rfl (hw2 2 (by decide))
  | kinds _ => exact absurd rfl hw3
  | run _ => exact absurd rfl hw4
  | row _ => exact absurd rfl hw5
  | nt _ => exact absurd rfl hw6
  | first _ => exact absurd rfl hw7
end
end Px

set_option maxRecDepth 100000
set_option maxHeartbeats 4000000
/-! PxW5: step, fine, after. -/
namespace Px
open PySem PySem.Spec PyProof.Rows L2
/-! ### keys of states -/
theorem depthAll_le {n : Nat} : ∀ {ks : List NestedKey}, (∀ k ∈ ks, k.depth ≤ n) → NestedKey.depthAll ks ≤ n
  | [], _ => Nat.zero_le _
  | k :: ks, h => Nat.max_le.mpr ⟨h k (List.mem_cons_self ..), depthAll_le fun j hj => h j (List.mem_cons_of_mem _ hj)⟩
theorem rs_depth (r : RS) : r.key.depth ≤ 1 := by
  cases r with
  | num n => exact Nat.zero_le _
  | txt t => exact Nat.zero_le _
  | pair c n => exact Nat.le_refl _
  | set l => exact Nat.succ_le_succ (depthAll_le (n := 0) fun k hk => by
      obtain ⟨t, _, rfl⟩ := List.mem_map.mp hk
      exact Nat.le_refl _)
theorem st_depth (s : List RS) : (stKey s).depth ≤ 2 := Nat.succ_le_succ (depthAll_le fun k hk => by
  obtain ⟨r, _, rfl⟩ := List.mem_map.mp hk
  exact rs_depth r)
/-- the key under which a step is kept -/
def stepKey (s : List RS) (c : Nat) : NestedKey := .tup [stKey s, .text (S [c])]
theorem stepKey_depth (s : List RS) (c : Nat) : (stepKey s c).depth ≤ 8 := Nat.le_trans (Nat.succ_le_succ (depthAll_le (n := 2) fun k hk => by
  rcases List.mem_cons.mp hk with e | e
  · rw [e]; exact st_depth s
  · rw [List.mem_singleton.mp e]; exact Nat.zero_le _)) (by decide)
theorem stepKey_inj {s s' : List RS} {c c' : Nat} (h : stepKey s c = stepKey s' c') : s = s' ∧ c = c' := by
  injection h with h
  injection h with h1 h2
  injection h2 with h2 _
  injection h2 with h2
  exact ⟨stKey_inj h1, (List.cons.inj (S_inj h2)).1⟩
def okey : Option RS → NestedKey
  | none => .none
  | some x => x.key
section
variable {P : Program} {w : World} {K : PySem.W.Frag} {mg : Str → Option Value} {base : Heap}
theorem RepR.dk {H : Hp} {v : V} {o : Option RS} (r : RepR K H v o) : Dk K H v (okey o) := by
  cases o with
  | none =>
    have r : v = .non := r
    rw [r]; exact .non
  | some x => exact r
theorem RepR.kp {H H1 : Hp} {L : List Addr} {v : V} {o : Option RS} (r : RepR K H v o) (k : Kp L H H1) : RepR K H1 v o := by
  cases o with
  | none => exact r
  | some x => exact Dk.kp r k
theorem none_in {os : List (Option RS)} : NestedKey.none ∈ os.map okey ↔ none ∈ os := by
  rw [List.mem_map]
  constructor
  · rintro ⟨o, ho, e⟩
    cases o with
    | none => exact ho
    | some x => cases x <;> exact nomatch e
  · exact fun h => ⟨none, h, rfl⟩
theorem all_iff {os : List (Option RS)} (h : none ∉ os) : ∃ ys, all? os = some ys ∧ os = ys.map some := by
  induction os with
  | nil => exact ⟨[], rfl, rfl⟩
  | cons o os ih =>
    obtain ⟨ys, e1, e2⟩ := ih fun m => h (List.mem_cons_of_mem _ m)
    cases o with
    | none => exact absurd (List.mem_cons_self ..) h
    | some x => exact ⟨x :: ys, by show (all? os).map (x :: ·) = _; rw [e1]; rfl, by rw [e2]; rfl⟩
theorem reps_dk {H : Hp} : ∀ {os : List (Option RS)} {ys : List V}, ys.length = os.length → (∀ (i : Nat) (y : V), ys[i]? = some y → ∃ o, os[i]? = some o ∧ RepR K H y o) → DkA K H ys (os.map okey)
  | [], [], _, _ => .nil
  | o :: os, y :: ys, hl, h => by
    refine .cons ?_ (reps_dk (Nat.succ.inj hl) fun i z hz => ?_)
    · obtain ⟨o', e, r⟩ := h 0 y rfl
      cases e
      exact r.dk
    · obtain ⟨o', e, r⟩ := h (i + 1) z (by simpa using hz)
      exact ⟨o', by simpa using e, r⟩
/-! ### step -/
def spStep (P : Program) (w : World) (K : PySem.W.Frag) (C : Addr) : Sp := fun vs H Q _ => ∃ (m dk : Addr) (p : Pol) (sv : V) (st : Option (List RS)) (c : Nat), vs = [.ref m, sv, .str (S [c])] ∧ MachAt P w K C H m dk p ∧ RepO K H sv st ∧
  (∀ s, st = some s → Good p s) ∧ c ∈ p.signs ∧ ∀ v H', Kp [dk] H H' → MachAt P w K C H' m dk p → RepO K H' v (step p st c) → Q v H'
theorem sc_M_step : FnScope ["self", "state", "sign", "new", "rule", "one"] ["self", "state", "sign"] (defScope s_Machine_step) := ⟨rfl, rfl, rfl, by decide +kernel, rfl, by decide +kernel, by decide +kernel⟩
theorem ok_M_step (T : Top K w mg) : FnOk P w K mg base CX0 3 T.m_Machine_step.f T.m_Machine_step.fd ["self", "state", "sign"] (spStep P w K T.c_Machine) := by
  refine T.m_Machine_step.F.ok sc_M_step (fun vs H Q E h => ?_) (fun cdv A outer s H vs Q E hr h => ?_)
  · obtain ⟨m, dk, p, sv, st, c, rfl, _⟩ := h
    rfl
  obtain ⟨m, dk, p, sv, st, c, rfl, M, rs, hg, hc, q⟩ := h
  have hu := hr.units
  refine ⟨_, pss_cons (ps_if (pt_cmpR op_isN (pv 1) pe_non (nomark _)) (pss_one (ps_ret (pe_non))) (pss_nil))
    (pss_cons (ps_if (pt_cmp (pc_nnin hu (pe_tup (pa_cons (pv 1) (pa_cons (pv 2) (pa_nil)))) (fldK (K := K) (pv 0))) rfl) (pss_cons (ps_setLc (i := 3) (own := [("rule", 4), ("one", 5)]) (g := gTup K 2 (gCons (gName 4) (gCons (gName 5) (gNil)))) (tt := tYes) rfl sc_M_step.nd rfl rfl (sw_true rfl rfl rfl (by decide +kernel)) (RZ.pi_zipA (by rfl) T.b_zip (pa_cons (fldK (K := K) (pv 0)) (pa_cons (pv 1) (pa_nil)))) (blkOk_by (own := [("rule", 4), ("one", 5)]) (N := ["self", "state", "sign", "new", "rule", "one"]) (sc := defScope s_Machine_step) (by decide +kernel)) (fun _ _ _ _ _ => pgT (K := K) rfl (pgs_cons (pg_name (i := 4) sc_M_step.nd rfl (Or.inl rfl)) (pgs_cons (pg_name (i := 5) sc_M_step.nd rfl (Or.inl rfl)) (pgs_nil)))) (fun _ _ _ _ _ => pts_nil) (fun _ _ _ _ _ => pe_meth (pv 0) T.cl_Machine T.m_Machine_moved.M (ok_M_moved (P := P) (base := base) T) hr T.m_Machine_moved.b .nil pass0 (pa_cons (pv 4) (pa_cons (pv 5) (pa_cons (pv 2) (pa_nil))))))
    (pss_one (ps_nput hu (fldK (K := K) (pv 0)) (pe_tup (pa_cons (pv 1) (pa_cons (pv 2) (pa_nil)))) (pe_ifExp (pt_cmpR (inK (K := K) hu) (pe_non) (pv 3) rfl) (pe_non) (pe_callTy (tupK (K := K)) (by rfl) T.b_tuple boot_tuple (pa_cons (pv 3) (pa_nil)))) rfl))) (pss_nil))
    (pss_one (ps_ret (pe_nget hu (fldK (K := K) (pv 0)) (pe_tup (pa_cons (pv 1) (pa_cons (pv 2) (pa_nil)))) (fun _ _ => rfl))))), ?_⟩
  cases st with
  | none =>
    have rs : sv = .non := rs
    subst rs
    exact ⟨_, rfl, rfl, _, rfl, iteD rfl (q _ H Kp.refl M rfl)⟩
  | some s0 =>
  obtain ⟨a, zs, rfl, hz, dz⟩ := Dk.tupI rs
  have g0 := hg s0 rfl
  obtain ⟨dx, fs, hm, F⟩ := M.ob
  obtain ⟨ra, xs, f1, f2, f3⟩ := F.rules
  have hsl : zs.length = s0.length := by have := dz.length; rwa [List.length_map] at this
  have hrl : xs.length = p.rules.length := by have := f3.length; rwa [List.length_map] at this
  have hrs : p.rules.length = s0.length := by obtain ⟨l, _, g⟩ := g0; exact g.length
  have h6 := (isPol_use M.fit.pol).2.1
  refine ⟨_, rfl, rfl, _, rfl, iteN (fun z => nomatch z) ?_⟩
  -- (state, sign) not in self.known
  refine ⟨_, rfl, _, rfl, by show 2 ≤ sizeLine; decide, fun t ht => ?_⟩
  have k1 : Kp [] H (upd H t (.tup [.ref a, .str (S [c])])) := Kp.new ht
  have d1 : Dk K (upd H t (.tup [.ref a, .str (S [c])])) (.ref t) (stepKey s0 c) := .tup (SqT.of upd_same) (.cons (Dk.kp rs k1) (.cons (.txt _) .nil))
  generalize upd H t (.tup [.ref a, .str (S [c])]) = H1 at k1 d1 ⊢
  have M1 := M.kp0 k1
  obtain ⟨kvs, nd, nk, ck⟩ := M1.cache
  refine ⟨_, rfl, m, _, dx, fs, _, rfl, k1.at0 hm, T.cl_Machine, T.n_Machine_known, F.known, dk, kvs, _, rfl, ⟨_, rfl⟩, nd, d1, stepKey_depth _ _, _, rfl, ?_⟩
  have look : ∀ {kvs : List (NestedKey × V)} {k : NestedKey} {v : V}, valV kvs k = some v → (k, v) ∈ kvs := fun {kvs k v} e => by
    unfold valV at e
    obtain ⟨x, hx, e2⟩ := Option.map_eq_some_iff.mp e
    have h1 := List.mem_of_find?_eq_some hx
    have h2 := List.find?_some hx
    rw [← of_decide_eq_true h2, ← e2]
    exact h1
  cases e : valV kvs (stepKey s0 c) with
  | some v0 =>
    refine iteF ?_
    refine ⟨_, rfl, m, _, dx, fs, _, rfl, k1.at0 hm, T.cl_Machine, T.n_Machine_known, F.known, _, rfl, _, rfl, by show 2 ≤ sizeLine; decide, fun t2 ht2 => ?_⟩
    have k2 : Kp [] H1 (upd H1 t2 (.tup [.ref a, .str (S [c])])) := Kp.new ht2
    refine ⟨dk, kvs, stepKey s0 c, v0, rfl, ⟨_, rfl⟩, nd.kp k2 (fun z => nomatch z), .tup (SqT.of upd_same) (.cons (Dk.kp rs (k1.trans k2)) (.cons (.txt _) .nil)), stepKey_depth _ _, e, ?_⟩
    refine q v0 _ (k1.trans k2).up (M1.kp0 k2) ?_
    obtain ⟨st', c', _, _, ek, r⟩ := ck _ (look e)
    obtain ⟨rfl, rfl⟩ := stepKey_inj ek
    exact r.kp k2
  | none =>
    refine iteT ?_
    -- new = [..]
    obtain ⟨l, hl, go⟩ := id g0
    let os : List (Option RS) := (p.rules.zip s0).map fun x => moved p.cls x.1 x.2 c
    have hos : os.length = xs.length := by
      show ((p.rules.zip s0).map _).length = _
      rw [List.length_map, List.length_zip]
      omega
    refine ⟨_, rfl, m, _, dx, fs, _, rfl, k1.at0 hm, T.cl_Machine, T.n_Machine_rules, f1, _, rfl, ra, a, xs, zs, rfl, .inr ⟨k1.sqt f2, k1.sqt hz, ?_⟩⟩
    refine fun D nD => lc_rel (walk_zpU (by omega)) [] (fun H i v => RepR K H v (os.getD i none)) (fun _ _ _ _ k r => r.kp k) (fun H p o i v hp r => by
      obtain ⟨u, e1, e2⟩ := hp
      exact r.kp (Kp.put (L := [p]) (List.mem_cons_self ..) e1 e2)) (by omega) nD (fun z => nomatch z) (fun H' k => ⟨((k.drop1 nD).sqt (k1.sqt f2)), ((k.drop1 nD).sqt (k1.sqt hz))⟩) (fun i v H2 H3 Z hi k hY hZ => ?_) (fun H2 ys k2 hD hyl hr2 => ?_)
    · obtain ⟨T', x, y, rfl, hT, rfl, hx, hy⟩ := hY
      obtain ⟨r, er, dr⟩ := f3.get hx
      rw [List.getElem?_map] at er
      obtain ⟨r, er1, rfl⟩ := Option.map_eq_some_iff.mp er
      obtain ⟨s1, es, ds⟩ := dz.get hy
      rw [List.getElem?_map] at es
      obtain ⟨s1, es1, rfl⟩ := Option.map_eq_some_iff.mp es
      have k3 : Kp [] H2 (upd H2 T' (.tup [x, y])) := Kp.new hT
      have k4 := (k.drop1 nD).trans k3
      refine ⟨T', [x, y], rfl, SqT.of upd_same, rfl, x, [y], rfl, y, [], rfl, rfl, rfl, ?_⟩
      refine ⟨_, rfl, m, dx, fs, rfl, k4.at0 (k1.at0 hm), F.meths _ (by simp), _, rfl, _, rfl, _, rfl, ?_⟩
      refine ⟨m, dk, p, x, y, r, s1, c, l, rfl, M1.kp0 k4, (dr.kp k1).kp k4, (ds.kp k1).kp k4, (isPol_use M.fit.pol).2.2 r (List.mem_of_getElem? er1), go.get er1 es1, hl, hc, fun v H4 k5 r5 => ?_⟩
      refine hZ _ _ ?_ (k3.trans k5)
      have : os[i]? = some (moved p.cls r s1 c) := by
        show ((p.rules.zip s0).map _)[i]? = _
        rw [List.getElem?_map, (List.getElem?_zip_eq_some (z := (r, s1))).mpr ⟨er1, es1⟩]
        rfl
      show RepR K H4 v (os.getD i none)
      rw [List.getD_eq_getElem?_getD, this]
      exact r5
    have k3 := k2.drop1 nD
    have dN : DkA K H2 ys (os.map okey) := reps_dk (by omega) fun i y hy => by
      have hi : i < os.length := by
        have := (List.getElem?_eq_some_iff.mp hy).1
        omega
      have := hr2 i y hy
      rw [List.getD_eq_getElem?_getD, List.getElem?_eq_getElem hi] at this
      exact ⟨_, List.getElem?_eq_getElem hi, this⟩
    have M2 := M1.kp0 k3
    refine ⟨_, rfl, D, ys, os.map okey, .none, rfl, .inl (SqL.of hD), dN, .non, Nat.zero_le _, _, rfl, ?_⟩
    have hmk : m ∉ [dk] := fun z => M.ne (List.mem_singleton.mp z)
    have hsz : kvs.length < sizeLine := by
      have := keys_le M.fit.names (fun st c => stepKey st c) p.signs nk (fun k hk => by
        obtain ⟨x, hx, rfl⟩ := List.mem_map.mp hk
        obtain ⟨st', c', a1, a2, a3, _⟩ := ck x hx
        exact ⟨st', a1, c', a2, a3⟩)
      rw [List.length_map] at this
      have h2 := M.fit.room
      exact Nat.lt_of_le_of_lt this (Nat.lt_trans h2 (by decide))
    refine ite2 (fun hn => ?_) (fun hn => ?_)
    · have hn : none ∈ os := none_in.mp (of_decide_eq_true hn)
      have rv : RepO K H2 .non (stepS p s0 c) := by
        rw [show stepS p s0 c = none from all_none hn]
        rfl
      have k4 := k1.trans k3
      have nd3 := nd.kp k3 (fun z => nomatch z)
      have ck3 := fun x hx => (ck x hx).imp fun st' q1 => q1.imp fun c' q2 => (⟨q2.1, q2.2.1, q2.2.2.1, q2.2.2.2.kp k3⟩ : Good p st' ∧ c' ∈ p.signs ∧ x.1 = .tup [stKey st', .text (S [c'])] ∧ RepO K H2 x.2 (stepS p st' c'))
      generalize hv : V.non = v at rv ⊢
      generalize H2 = H3 at *
      refine ⟨_, rfl, m, _, dx, fs, _, rfl, k4.at0 hm, T.cl_Machine, T.n_Machine_known, F.known, _, rfl, _, rfl, by show 2 ≤ sizeLine; decide, fun t2 ht2 => ?_⟩
      have k5 := k4.trans (Kp.new (L := []) (o := .tup [.ref a, .str (S [c])]) ht2)
      have d5 : Dk K (upd H3 t2 (.tup [.ref a, .str (S [c])])) (.ref t2) (stepKey s0 c) := .tup (SqT.of upd_same) (.cons (Dk.kp rs k5) (.cons (.txt _) .nil))
      have r5 := rv.kp (Kp.new (L := []) (o := .tup [.ref a, .str (S [c])]) ht2)
      have nd5 := nd3.kp (Kp.new (L := []) (o := .tup [.ref a, .str (S [c])]) ht2) (fun z => nomatch z)
      have ck5 := fun x hx => (ck3 x hx).imp fun st' q1 => q1.imp fun c' q2 => (⟨q2.1, q2.2.1, q2.2.2.1, q2.2.2.2.kp (Kp.new (L := []) (o := .tup [.ref a, .str (S [c])]) ht2)⟩ : Good p st' ∧ c' ∈ p.signs ∧ x.1 = .tup [stKey st', .text (S [c'])] ∧ RepO K (upd H3 t2 (.tup [.ref a, .str (S [c])])) x.2 (stepS p st' c'))
      generalize upd H3 t2 (.tup [.ref a, .str (S [c])]) = H5 at k5 d5 r5 nd5 ck5 ⊢
      refine ⟨dk, kvs, stepKey s0 c, rfl, ⟨_, rfl⟩, nd5, d5, stepKey_depth _ _, hsz, fun H6 k6 nd6 => ?_⟩
      have k7 : Kp [dk] H H6 := k5.up.trans k6
      refine ⟨_, rfl, m, _, dx, fs, _, rfl, k7.at hmk hm, T.cl_Machine, T.n_Machine_known, F.known, _, rfl, _, rfl, by show 2 ≤ sizeLine; decide, fun t7 ht7 => ?_⟩
      have k8 := k7.trans (Kp.new (L := [dk]) (o := .tup [.ref a, .str (S [c])]) ht7)
      have k9 : Kp [] H6 (upd H6 t7 (.tup [.ref a, .str (S [c])])) := Kp.new ht7
      refine ⟨dk, putK kvs (stepKey s0 c) v, stepKey s0 c, v, rfl, ⟨_, rfl⟩, nd6.kp k9 (fun z => nomatch z), .tup (SqT.of upd_same) (.cons (Dk.kp rs k8) (.cons (.txt _) .nil)), stepKey_depth _ _, by rw [valV_put, if_pos rfl], ?_⟩
      have rS : RepO K (upd H6 t7 (.tup [.ref a, .str (S [c])])) v (stepS p s0 c) := (r5.kp k6).kp k9
      refine q v _ k8 ⟨M.fit, ⟨dx, fs, k8.at hmk hm, F.kp k8⟩, M.ne, putK kvs (stepKey s0 c) v, nd6.kp k9 (fun z => nomatch z), nd_putK _ nk e, fun x hx => ?_⟩ rS
      rw [putK_new v e] at hx
      rcases List.mem_append.mp hx with hx | hx
      · obtain ⟨st', c', a1, a2, a3, a4⟩ := ck5 x hx
        exact ⟨st', c', a1, a2, a3, (a4.kp k6).kp k9⟩
      · rw [List.mem_singleton.mp hx]
        exact ⟨s0, c, g0, hc, rfl, rS⟩
    · have hn : none ∉ os := fun z => hn (decide_eq_true (none_in.mpr z))
      obtain ⟨s', e1, e2⟩ := all_iff hn
      refine ⟨_, rfl, D, ys, rfl, .inl ⟨SqL.of hD, fun t9 ht9 => ?_⟩⟩
      have k6 : Kp [] H2 (upd H2 t9 (.tup ys)) := Kp.new ht9
      have rv : RepO K (upd H2 t9 (.tup ys)) (.ref t9) (stepS p s0 c) := by
        rw [show stepS p s0 c = some s' from e1]
        refine .tup (SqT.of upd_same) ?_
        have := dN.kp k6
        rw [e2, List.map_map] at this
        exact this
      have k4 := k1.trans (k3.trans k6)
      have nd3 := (nd.kp k3 (fun z => nomatch z)).kp k6 (fun z => nomatch z)
      have ck3 := fun x hx => (ck x hx).imp fun st' q1 => q1.imp fun c' q2 => (⟨q2.1, q2.2.1, q2.2.2.1, (q2.2.2.2.kp k3).kp k6⟩ : Good p st' ∧ c' ∈ p.signs ∧ x.1 = .tup [stKey st', .text (S [c'])] ∧ RepO K (upd H2 t9 (.tup ys)) x.2 (stepS p st' c'))
      generalize hv : V.ref t9 = v at rv ⊢
      generalize upd H2 t9 (.tup ys) = H3 at k4 nd3 ck3 rv ⊢
      refine ⟨_, rfl, m, _, dx, fs, _, rfl, k4.at0 hm, T.cl_Machine, T.n_Machine_known, F.known, _, rfl, _, rfl, by show 2 ≤ sizeLine; decide, fun t2 ht2 => ?_⟩
      have k5 := k4.trans (Kp.new (L := []) (o := .tup [.ref a, .str (S [c])]) ht2)
      have d5 : Dk K (upd H3 t2 (.tup [.ref a, .str (S [c])])) (.ref t2) (stepKey s0 c) := .tup (SqT.of upd_same) (.cons (Dk.kp rs k5) (.cons (.txt _) .nil))
      have r5 := rv.kp (Kp.new (L := []) (o := .tup [.ref a, .str (S [c])]) ht2)
      have nd5 := nd3.kp (Kp.new (L := []) (o := .tup [.ref a, .str (S [c])]) ht2) (fun z => nomatch z)
      have ck5 := fun x hx => (ck3 x hx).imp fun st' q1 => q1.imp fun c' q2 => (⟨q2.1, q2.2.1, q2.2.2.1, q2.2.2.2.kp (Kp.new (L := []) (o := .tup [.ref a, .str (S [c])]) ht2)⟩ : Good p st' ∧ c' ∈ p.signs ∧ x.1 = .tup [stKey st', .text (S [c'])] ∧ RepO K (upd H3 t2 (.tup [.ref a, .str (S [c])])) x.2 (stepS p st' c'))
      generalize upd H3 t2 (.tup [.ref a, .str (S [c])]) = H5 at k5 d5 r5 nd5 ck5 ⊢
      refine ⟨dk, kvs, stepKey s0 c, rfl, ⟨_, rfl⟩, nd5, d5, stepKey_depth _ _, hsz, fun H6 k6 nd6 => ?_⟩
      have k7 : Kp [dk] H H6 := k5.up.trans k6
      refine ⟨_, rfl, m, _, dx, fs, _, rfl, k7.at hmk hm, T.cl_Machine, T.n_Machine_known, F.known, _, rfl, _, rfl, by show 2 ≤ sizeLine; decide, fun t7 ht7 => ?_⟩
      have k8 := k7.trans (Kp.new (L := [dk]) (o := .tup [.ref a, .str (S [c])]) ht7)
      have k9 : Kp [] H6 (upd H6 t7 (.tup [.ref a, .str (S [c])])) := Kp.new ht7
      refine ⟨dk, putK kvs (stepKey s0 c) v, stepKey s0 c, v, rfl, ⟨_, rfl⟩, nd6.kp k9 (fun z => nomatch z), .tup (SqT.of upd_same) (.cons (Dk.kp rs k8) (.cons (.txt _) .nil)), stepKey_depth _ _, by rw [valV_put, if_pos rfl], ?_⟩
      have rS : RepO K (upd H6 t7 (.tup [.ref a, .str (S [c])])) v (stepS p s0 c) := (r5.kp k6).kp k9
      refine q v _ k8 ⟨M.fit, ⟨dx, fs, k8.at hmk hm, F.kp k8⟩, M.ne, putK kvs (stepKey s0 c) v, nd6.kp k9 (fun z => nomatch z), nd_putK _ nk e, fun x hx => ?_⟩ rS
      rw [putK_new v e] at hx
      rcases List.mem_append.mp hx with hx | hx
      · obtain ⟨st', c', a1, a2, a3, a4⟩ := ck5 x hx
        exact ⟨st', c', a1, a2, a3, (a4.kp k6).kp k9⟩
      · rw [List.mem_singleton.mp hx]
        exact ⟨s0, c, g0, hc, rfl, rS⟩
end
end Px

set_option maxRecDepth 100000
set_option maxHeartbeats 4000000
/-! PxW6: fine, after. -/
namespace Px
open PySem PySem.Spec PyProof.Rows L2
theorem Good.run {p : Pol} (hp : ∀ r ∈ p.rules, okRule r) : ∀ (t : T) (st : Option (List RS)), (∀ s, st = some s → Good p s) → (∀ c ∈ t, c ∈ p.signs) → ∀ s, runFrom p st t = some s → Good p s
  | [], _, h, _, s, e => h s e
  | c :: t, st, h, hc, s, e => by
    refine Good.run hp t (Px.step p st c) (fun s1 e1 => ?_) (fun d hd => hc d (List.mem_cons_of_mem _ hd)) s e
    cases st with
    | none => cases e1
    | some s0 => exact (h s0 rfl).step hp (hc c (List.mem_cons_self ..)) e1
theorem Good.after {p : Pol} (hp : ∀ r ∈ p.rules, okRule r) {t : T} (hc : ∀ c ∈ t, c ∈ p.signs) {s : List RS} (e : Px.after p t = some s) : Good p s :=
  Good.run hp t _ (fun s e => by cases e; exact Good.start hp) hc s e
theorem run_snoc (p : Pol) (st : Option (List RS)) (t : T) (c : Nat) : runFrom p st (t ++ [c]) = step p (runFrom p st t) c := by
  unfold runFrom
  rw [List.foldl_append]
  rfl
section
variable {P : Program} {w : World} {K : PySem.W.Frag} {mg : Str → Option Value} {base : Heap}
def spFine (P : Program) (w : World) (K : PySem.W.Frag) (C : Addr) : Sp := fun vs H Q _ => ∃ (m dk : Addr) (p : Pol) (sv : V) (st : Option (List RS)), vs = [.ref m, sv] ∧ MachAt P w K C H m dk p ∧ RepO K H sv st ∧
  (∀ s, st = some s → Good p s) ∧ ∀ H', Kp [] H H' → Q (.bl (fine p st)) H'
theorem sc_M_fine : FnScope ["self", "state", "rule", "one"] ["self", "state"] (defScope s_Machine_fine) := ⟨rfl, rfl, rfl, by decide +kernel, rfl, by decide +kernel, by decide +kernel⟩
theorem ok_M_fine (T : Top K w mg) : FnOk P w K mg base CX0 2 T.m_Machine_fine.f T.m_Machine_fine.fd ["self", "state"] (spFine P w K T.c_Machine) := by
  refine T.m_Machine_fine.F.ok sc_M_fine (fun vs H Q E h => ?_) (fun cdv A outer s H vs Q E hr h => ?_)
  · obtain ⟨m, dk, p, sv, st, rfl, _⟩ := h
    rfl
  obtain ⟨m, dk, p, sv, st, rfl, M, rs, hg, q⟩ := h
  have hu := hr.units
  refine ⟨_, pss_one (ps_ret (pe_and (pe_cmpR op_notN (pv 1) pe_non (nomark _)) (pe_one (pe_callB (allK (K := K) rfl) (by rfl) T.b_all PyProof.Rows.boot_all (pa_cons (pe_lc (own := [("rule", 2), ("one", 3)]) (g := gTup K 2 (gCons (gName 2) (gCons (gName 3) (gNil)))) (tt := tYes) rfl sc_M_fine.nd (RZ.pi_zipA (by rfl) T.b_zip (pa_cons (fldK (K := K) (pv 0)) (pa_cons (pv 1) (pa_nil)))) (blkOk_by (own := [("rule", 2), ("one", 3)]) (N := ["self", "state", "rule", "one"]) (sc := defScope s_Machine_fine) (by decide +kernel)) (fun _ _ _ _ _ => pgT (K := K) rfl (pgs_cons (pg_name (i := 2) sc_M_fine.nd rfl (Or.inl rfl)) (pgs_cons (pg_name (i := 3) sc_M_fine.nd rfl (Or.inl rfl)) (pgs_nil)))) (fun _ _ _ _ _ => pts_nil) (fun _ _ _ _ _ => pe_meth (pv 0) T.cl_Machine T.m_Machine_keeps.M (ok_M_keeps (P := P) (base := base) T) hr T.m_Machine_keeps.b .nil pass0 (pa_cons (pv 2) (pa_cons (pv 3) (pa_nil))))) (pa_nil)))))), ?_⟩
  cases st with
  | none =>
    have rs : sv = .non := rs
    subst rs
    exact ⟨_, rfl, rfl, _, rfl, iteDn rfl (q H Kp.refl)⟩
  | some s0 =>
  obtain ⟨a, zs, rfl, hz, dz⟩ := Dk.tupI rs
  obtain ⟨l, hl, go⟩ := hg s0 rfl
  obtain ⟨dx, fs, hm, F⟩ := M.ob
  obtain ⟨ra, xs, f1, f2, f3⟩ := F.rules
  have hsl : zs.length = s0.length := by have := dz.length; rwa [List.length_map] at this
  have hrl : xs.length = p.rules.length := by have := f3.length; rwa [List.length_map] at this
  have hrs : p.rules.length = s0.length := go.length
  have h6 := (isPol_use M.fit.pol).2.1
  let bs : List Bool := (p.rules.zip s0).map fun x => keeps1 x.1 x.2
  have hbs : bs.length = xs.length := by
    show ((p.rules.zip s0).map _).length = _
    rw [List.length_map, List.length_zip]
    omega
  refine ⟨_, rfl, rfl, _, rfl, iteNn (fun z => nomatch z) ?_⟩
  refine ⟨_, rfl, m, _, dx, fs, _, rfl, hm, T.cl_Machine, T.n_Machine_rules, f1, _, rfl, ra, a, xs, zs, rfl, .inr ⟨f2, hz, ?_⟩⟩
  refine fun D nD => lc_val (walk_zpU (by omega)) [] (fun i => ((bs[i]?).map V.bl).getD .non) (by omega) nD (fun z => nomatch z) (fun H' k => ⟨((k.drop1 nD).sqt f2), ((k.drop1 nD).sqt hz)⟩) (fun i v H2 H3 Z hi k hY hZ => ?_) (fun H2 k2 hD => ?_)
  · obtain ⟨T', x, y, rfl, hT, rfl, hx, hy⟩ := hY
    obtain ⟨r, er, dr⟩ := f3.get hx
    rw [List.getElem?_map] at er
    obtain ⟨r, er1, rfl⟩ := Option.map_eq_some_iff.mp er
    obtain ⟨s1, es, ds⟩ := dz.get hy
    rw [List.getElem?_map] at es
    obtain ⟨s1, es1, rfl⟩ := Option.map_eq_some_iff.mp es
    have k3 : Kp [] H2 (upd H2 T' (.tup [x, y])) := Kp.new hT
    have k4 := (k.drop1 nD).trans k3
    refine ⟨T', [x, y], rfl, SqT.of upd_same, rfl, x, [y], rfl, y, [], rfl, rfl, rfl, ?_⟩
    refine ⟨_, rfl, m, dx, fs, rfl, k4.at0 hm, F.meths _ (by simp), _, rfl, _, rfl, ?_⟩
    refine ⟨.ref m, x, y, r, s1, p.names, l, rfl, dr.kp k4, ds.kp k4, go.get er1 es1, fun H4 k5 => ?_⟩
    have := hZ _ (k3.trans k5)
    have e : bs[i]? = some (keeps1 r s1) := by
      show ((p.rules.zip s0).map _)[i]? = _
      rw [List.getElem?_map, (List.getElem?_zip_eq_some (z := (r, s1))).mpr ⟨er1, es1⟩]
      rfl
    rw [e] at this
    exact this
  · rw [← hbs, range_at] at hD
    refine ⟨D, bs, rfl, SqL.of hD, ?_⟩
    have := q H2 (k2.drop1 nD)
    show Q (.bl (bs.all id)) H2
    rw [show bs.all id = fine p (some s0) from List.all_map ..]
    exact this
/-! ### after -/
def spAfter (P : Program) (w : World) (K : PySem.W.Frag) (C : Addr) : Sp := fun vs H Q _ => ∃ (m dk : Addr) (p : Pol) (t : T), vs = [.ref m, .str (S t)] ∧ MachAt P w K C H m dk p ∧ (∀ c ∈ t, c ∈ p.signs) ∧
  ∀ v H', Kp [dk] H H' → MachAt P w K C H' m dk p → RepO K H' v (after p t) → Q v H'
theorem sc_M_after : FnScope ["self", "text", "state", "sign"] ["self", "text"] (defScope s_Machine_after) := ⟨rfl, rfl, rfl, by decide +kernel, rfl, by decide +kernel, by decide +kernel⟩
theorem ok_M_after (T : Top K w mg) : FnOk P w K mg base CX0 4 T.m_Machine_after.f T.m_Machine_after.fd ["self", "text"] (spAfter P w K T.c_Machine) := by
  refine T.m_Machine_after.F.ok sc_M_after (fun vs H Q E h => ?_) (fun cdv A outer s H vs Q E hr h => ?_)
  · obtain ⟨m, dk, p, t, rfl, _⟩ := h
    rfl
  obtain ⟨m, dk, p, t, rfl, M, hc, q⟩ := h
  have hu := hr.units
  refine ⟨_, pss_cons (ps_set (i := 2) sc_M_after.nd rfl (Or.inl rfl) (fldK (K := K) (pv 0)))
    (pss_cons (ps_for PassesOwn.never rfl (pi_str (pv 1)) (pg_name (i := 3) sc_M_after.nd rfl (Or.inl rfl))
    (pss_one (ps_set (i := 2) sc_M_after.nd rfl (Or.inl rfl) (pe_meth (pv 0) T.cl_Machine T.m_Machine_step.M (ok_M_step (P := P) (base := base) T) hr T.m_Machine_step.b .nil pass0 (pa_cons (pv 2) (pa_cons (pv 3) (pa_nil)))))))
    (pss_one (ps_ret (pv 2)))), ?_⟩
  obtain ⟨dx, fs, hm, F⟩ := M.ob
  obtain ⟨sv, s1, s2⟩ := F.start
  refine ⟨_, rfl, m, _, dx, fs, _, rfl, hm, T.cl_Machine, T.n_Machine_start, s1, ?_⟩
  refine ⟨_, rfl, _, rfl, for_it (walk_str (z := S t)) (fun i σ H1 => ∃ (v : V) (b : Option V), σ = [some (.ref m), some (.str (S t)), some v, b] ∧ Kp [dk] H H1 ∧ MachAt P w K T.c_Machine H1 m dk p ∧ RepO K H1 v (after p (t.take i)))
    ⟨sv, none, rfl, Kp.refl, M, s2⟩ (fun _ _ _ _ _ => trivial) ?_ ?_⟩
  · rintro i x σ H1 H' hi ⟨v, b, rfl, k, M1, r1⟩ ⟨rfl, c, hcx, rfl⟩
    have hcx : t[i]? = some c := by simpa [S] using hcx
    obtain ⟨dx1, fs1, hm1, F1⟩ := M1.ob
    refine ⟨_, rfl, m, dx1, fs1, rfl, hm1, F1.meths _ (by simp), _, rfl, _, rfl, ?_⟩
    refine ⟨m, dk, p, v, after p (t.take i), c, rfl, M1, r1, fun s e => Good.after M.fit.ok (fun d hd => hc d (List.mem_of_mem_take hd)) e, hc c (List.mem_of_getElem? hcx), fun v2 H2 k2 M2 r2 => ?_⟩
    refine ⟨v2, _, rfl, k.trans k2, M2, ?_⟩
    have e : t.take (i + 1) = t.take i ++ [c] := by rw [List.take_add_one, hcx]; rfl
    rw [e, show after p (t.take i ++ [c]) = step p (after p (t.take i)) c from run_snoc ..]
    exact r2
  · rintro σ H1 ⟨v, b, rfl, k, M1, r1⟩
    refine ⟨_, rfl, q _ _ k M1 ?_⟩
    have : t.take (S t).cps.size = t := List.take_of_length_le (by simp [S])
    rw [this] at r1
    exact r1
end
end Px

set_option maxRecDepth 100000
/-! PxI: the two tables that a Machine makes, in plain Lean. -/
namespace Px
open PySem L2
/-- the pairs that are put into names, followers, in their order -/
def nPairs (cls : List (T × T)) : List (Nat × T) := cls.flatMap fun p => p.2.map fun c => (c, p.1)
def fPairs (cls : List (T × T)) : List (Nat × Nat) := cls.flatMap fun p => p.2.zip (p.2.drop 1)
theorem lookup_rev {β : Type} [DecidableEq β] : ∀ {l : List (Nat × β)}, (l.map (·.1)).Nodup → ∀ c, l.reverse.lookup c = l.lookup c
  | [], _, _ => rfl
  | (a, b) :: l, h, c => by
    rw [List.map_cons, List.nodup_cons] at h
    rw [List.reverse_cons, List.lookup_append, lookup_rev h.2 c]
    by_cases e : c = a
    · subst e
      have : l.lookup c = none := by
        rw [List.lookup_eq_none_iff]
        intro p hp
        simp only [bne_iff_ne, ne_eq, beq_eq_false_iff_ne]
        intro e
        exact h.1 (List.mem_map.mpr ⟨p, hp, by first | exact e | exact e.symm⟩)
      rw [this]
      simp [List.lookup]
    · have e2 : (c == a) = false := by simpa using e
      simp only [List.lookup, e2]
      cases l.lookup c <;> rfl
theorem nPairs_keys (cls : List (T × T)) : (nPairs cls).map (·.1) = (cls.map (·.2)).flatten := by
  induction cls with
  | nil => rfl
  | cons p cls ih =>
    simp only [nPairs, List.flatMap_cons, List.map_append, List.map_cons, List.flatten_cons] at ih ⊢
    rw [ih]
    simp [Function.comp_def]
theorem lookup_same {β : Type} (b : β) : ∀ (l : List Nat) (c : Nat), (l.map fun d => (d, b)).lookup c = if c ∈ l then some b else none
  | [], c => by simp
  | d :: l, c => by
    rw [List.map_cons]
    by_cases e : c = d
    · subst e; simp [List.lookup]
    · have e2 : (c == d) = false := by simpa using e
      simp only [List.lookup, e2, lookup_same b l c, List.mem_cons, e, false_or]
theorem nPairs_at : ∀ (cls : List (T × T)) (c : Nat), c ∈ (cls.map (·.2)).flatten → (nPairs cls).lookup c = some (nameOf cls c)
  | [], _, h => by simp at h
  | p :: cls, c, h => by
    unfold nPairs nameOf
    rw [List.flatMap_cons, List.lookup_append, lookup_same]
    by_cases m : c ∈ p.2
    · rw [if_pos m, if_pos m]; rfl
    · rw [if_neg m, if_neg m]
      have : c ∈ (cls.map (·.2)).flatten := by
        simp only [List.map_cons, List.flatten_cons, List.mem_append] at h
        exact h.resolve_left m
      exact nPairs_at cls c this
theorem next_zip : ∀ (l : List Nat) (c : Nat), (l.zip (l.drop 1)).lookup c = nextIn l c
  | [], _ => rfl
  | [a], _ => rfl
  | a :: b :: r, c => by
    have ih := next_zip (b :: r) c
    show ((a, b) :: (b :: r).zip r).lookup c = nextIn (a :: b :: r) c
    have ih : ((b :: r).zip r).lookup c = nextIn (b :: r) c := ih
    unfold nextIn
    by_cases e : a = c
    · subst e; simp [List.lookup]
    · have e2 : (c == a) = false := by simpa using fun z => e z.symm
      simp only [List.lookup, e2, if_neg e]
      exact ih
theorem next_none : ∀ (l : List Nat) (c : Nat), c ∉ l → nextIn l c = none
  | [], _, _ => rfl
  | [a], _, _ => rfl
  | a :: b :: r, c, h => by
    unfold nextIn
    rw [if_neg (fun e => h (by rw [e]; exact List.mem_cons_self ..)), next_none (b :: r) c (fun m => h (List.mem_cons_of_mem _ m))]
theorem fPairs_none : ∀ (cls : List (T × T)) (c : Nat), c ∉ (cls.map (·.2)).flatten → (fPairs cls).lookup c = none
  | [], _, _ => rfl
  | p :: cls, c, h => by
    simp only [List.map_cons, List.flatten_cons, List.mem_append, not_or] at h
    unfold fPairs
    rw [List.flatMap_cons, List.lookup_append, next_zip, next_none _ _ h.1]
    exact fPairs_none cls c h.2
theorem fPairs_at : ∀ (cls : List (T × T)) (c : Nat), ((cls.map (·.2)).flatten).Nodup → (fPairs cls).lookup c = nextOf cls c
  | [], _, _ => rfl
  | p :: cls, c, nd => by
    simp only [List.map_cons, List.flatten_cons] at nd
    rw [List.nodup_append] at nd
    unfold fPairs nextOf
    rw [List.flatMap_cons, List.lookup_append, next_zip]
    by_cases m : c ∈ p.2
    · rw [if_pos m]
      cases e : nextIn p.2 c with
      | some d => rfl
      | none =>
        show (fPairs cls).lookup c = none
        exact fPairs_none cls c fun z => nd.2.2 c m c z rfl
    · rw [if_neg m, next_none _ _ m]
      exact fPairs_at cls c nd.2.1
theorem zip_sub : ∀ (l : List Nat), ((l.zip (l.drop 1)).map (·.1)).Sublist l
  | [] => .slnil
  | [a] => List.nil_sublist _
  | a :: b :: r => by
    show (a :: ((b :: r).zip r).map (·.1)).Sublist _
    exact .cons₂ _ (zip_sub (b :: r))
theorem fPairs_sub : ∀ (cls : List (T × T)), ((fPairs cls).map (·.1)).Sublist (cls.map (·.2)).flatten
  | [] => .slnil
  | p :: cls => by
    unfold fPairs
    rw [List.flatMap_cons, List.map_append, List.map_cons, List.flatten_cons]
    exact (zip_sub p.2).append (fPairs_sub cls)
/-- the table by its pairs -/
def TabN (kn : List (Key × V)) (l : List (Nat × T)) : Prop := ∀ c, valV kn (Sum.inr (S [c])) = (l.reverse.lookup c).map fun n => .str (S n)
def TabF (kn : List (Key × V)) (l : List (Nat × Nat)) : Prop := ∀ c, valV kn (Sum.inr (S [c])) = (l.reverse.lookup c).map fun e => .str (S [e])
theorem inr_eq {c d : Nat} : ((Sum.inr (S [c]) : Key) = Sum.inr (S [d])) ↔ c = d := by
  constructor
  · intro e
    exact (List.cons.inj (S_inj (Sum.inr.inj e))).1
  · intro e; rw [e]
theorem TabN.put {kn : List (Key × V)} {l : List (Nat × T)} {c : Nat} {n : T} (h : TabN kn l) : TabN (putK kn (Sum.inr (S [c])) (.str (S n))) (l ++ [(c, n)]) := fun d => by
  rw [valV_put, List.reverse_append]
  show _ = (((c, n) :: l.reverse).lookup d).map _
  by_cases e : d = c
  · subst e; simp [List.lookup]
  · have e2 : (d == c) = false := by simpa using e
    rw [if_neg (fun z => e (inr_eq.mp z))]
    simp only [List.lookup, e2]
    exact h d
theorem TabF.put {kn : List (Key × V)} {l : List (Nat × Nat)} {c n : Nat} (h : TabF kn l) : TabF (putK kn (Sum.inr (S [c])) (.str (S [n]))) (l ++ [(c, n)]) := fun d => by
  rw [valV_put, List.reverse_append]
  show _ = (((c, n) :: l.reverse).lookup d).map _
  by_cases e : d = c
  · subst e; simp [List.lookup]
  · have e2 : (d == c) = false := by simpa using e
    rw [if_neg (fun z => e (inr_eq.mp z))]
    simp only [List.lookup, e2]
    exact h d
theorem putK_le (kn : List (Key × V)) (k : Key) (v : V) : (putK kn k v).length ≤ kn.length + 1 := by
  unfold putK
  split
  · rw [List.length_map]; omega
  · simp
end Px

set_option maxRecDepth 100000
set_option maxHeartbeats 4000000
/-! PxW7: Machine(policy). -/
namespace Px
open PySem PySem.Spec PyProof.Rows L2
theorem Kp.onto {L : List Addr} {H H1 : Hp} {a : Addr} {o : HO} (k : Kp L H H1) (n : H a = none) : Kp L H (upd H1 a o) := by
  refine ⟨fun b u m e => ?_, fun b u f e => ?_⟩
  · rw [upd_ne (ne_of_none e n)]; exact k.keep b u m e
  · rw [upd_ne (ne_of_none e n)]; exact k.fix b u f e
theorem Kp.ins {L : List Addr} {H H1 : Hp} {a C dx : Addr} {fs fs' : List (Str × V)} (k : Kp L H H1) (m : a ∈ L) (e : H a = some (.ins C dx fs)) : Kp L H (upd H1 a (.ins C dx fs')) := by
  refine ⟨fun b u n q => ?_, fun b u f q => ?_⟩
  · rw [upd_ne (fun z => n (by rw [z]; exact m))]; exact k.keep b u n q
  · rw [upd_ne (fun z => by rw [z, e] at q; cases q; cases f)]; exact k.fix b u f q
theorem putF_le (f : Str) (v : V) : ∀ fs : List (Str × V), (putF f v fs).length ≤ fs.length + 1
  | [] => Nat.le_refl _
  | x :: fs => by
    unfold putF
    split
    · simp
    · have := putF_le f v fs
      simp only [List.length_cons]
      omega
/-- the parts of what a STARTS.get gives -/
theorem starts_get {K : PySem.W.Frag} {w : World} {mg : Str → Option Value} (A : StartsAt K w mg) (r : Rule) (H : Hp) : ∃ v, KGet K w A.a r.word (.str "") v ∧ Dk K H v (start1 r).key := by
  have mk : ∀ {x : Str} {u : Option Value} {v : V}, PySem.W.nsIn K A.a x = some u → (match u with | some z => RelV v z | none => v = .str "") → KGet K w A.a x (.str "") v := fun e h => ⟨A.es, A.n, _, A.lk, A.lit, A.low, e, h⟩
  cases r with
  | size a b => obtain ⟨t, e⟩ := A.s1; exact ⟨.int 0, mk e ⟨t, rfl⟩, .num 0⟩
  | least a b => obtain ⟨t, e⟩ := A.s2; exact ⟨.int 0, mk e ⟨t, rfl⟩, .num 0⟩
  | most a b => obtain ⟨t, e⟩ := A.s3; exact ⟨.int 0, mk e ⟨t, rfl⟩, .num 0⟩
  | kinds a => obtain ⟨b, e, h⟩ := A.s4; exact ⟨.ref b, mk e rfl, .tup h.sqt .nil⟩
  | run a => obtain ⟨b, e, h⟩ := A.s5; exact ⟨.ref b, mk e rfl, .tup h.sqt (.cons (.txt _) (.cons (.num _) .nil))⟩
  | row a => obtain ⟨b, e, h⟩ := A.s6; exact ⟨.ref b, mk e rfl, .tup h.sqt (.cons (.txt _) (.cons (.num _) .nil))⟩
  | nt a => exact ⟨.str "", mk A.s7 rfl, .txt _⟩
  | first a => exact ⟨.str "", mk A.s8 rfl, .txt _⟩
  | last a => exact ⟨.str "", mk A.s9 rfl, .txt _⟩
section
variable {P : Program} {w : World} {K : PySem.W.Frag} {mg : Str → Option Value} {base : Heap}
def spMInit (P : Program) (w : World) (K : PySem.W.Frag) (C : Addr) : Sp := fun vs H Q _ => ∃ (m dx : Addr) (v : V) (p : Pol), vs = [.ref m, v] ∧ H m = some (.ins C dx []) ∧ Dk K H v p.key ∧ Fit p ∧
  ∀ dk H', H dk = none → Kp [m] H H' → MachAt P w K C H' m dk p → Q .non H'
theorem sc_M_init : FnScope ["self", "policy", "name", "signs", "sign", "behind", "rule"] ["self", "policy"] (defScope s_Machine___init__) := ⟨rfl, rfl, rfl, by decide +kernel, rfl, by decide +kernel, by decide +kernel⟩
theorem ok_M_init (T : Top K w mg) : FnOk P w K mg base CX0 2 T.i_Machine.f T.i_Machine.fd ["self", "policy"] (spMInit P w K T.c_Machine) := by
  refine T.i_Machine.F.ok sc_M_init (fun vs H Q E h => ?_) (fun cdv A outer s H vs Q E hr h => ?_)
  · obtain ⟨m, dx, v, p, rfl, _⟩ := h
    rfl
  obtain ⟨m, dx, v, p, rfl, hm, d, hf, q⟩ := h
  have hu := hr.units
  have hu1 := hu_of hr
  have dP := d
  obtain ⟨a, c, r, xs, ys, rfl, h0, h1, d1, h2, d2⟩ := d.pol
  refine ⟨_, pss_cons (ps_fld (pv 0) (pe_ix (ixT (K := K)) (pv 1) (pe_int) (fun _ _ => rfl)) rfl)
    (pss_cons (ps_fld (pv 0) (pe_call (ok_signs_of (P := P) (base := base) T) hr (by rfl) T.d_signs_of.m T.d_signs_of.F.kp T.d_signs_of.b .nil pass0 (pa_cons (pv 1) (pa_nil))) rfl)
    (pss_cons (ps_fld (pv 0) (pe_dnewK) rfl)
    (pss_cons (ps_fld (pv 0) (pe_dnewK) rfl)
    (pss_cons (ps_for PassesOwn.never rfl (pi_tup (pe_ix (ixT (K := K)) (pv 1) (pe_int) (fun _ _ => rfl))) (pg_tup rfl (pgs_cons (pg_name (i := 2) sc_M_init.nd rfl (Or.inl rfl)) (pgs_cons (pg_name (i := 3) sc_M_init.nd rfl (Or.inl rfl)) (pgs_nil))))
    (pss_cons (ps_for PassesOwn.never rfl (pi_str (pv 3)) (pg_name (i := 4) sc_M_init.nd rfl (Or.inl rfl))
    (pss_one (ps_dput hu1 (fldK (K := K) (pv 0)) (pv 4) (pv 2) rfl)))
    (pss_one (ps_for PassesOwn.never rfl (pi_zpT (by rfl) T.b_zip (pa_cons (pv 3) (pa_cons (pe_slice sl_str (pv 3) (po_some (pe_int)) po_none) (pa_nil)))) (pg_tup rfl (pgs_cons (pg_name (i := 4) sc_M_init.nd rfl (Or.inl rfl)) (pgs_cons (pg_name (i := 5) sc_M_init.nd rfl (Or.inl rfl)) (pgs_nil))))
    (pss_one (ps_dput hu1 (fldK (K := K) (pv 0)) (pv 4) (pv 5) rfl))))))
    (pss_cons (ps_fld (pv 0) (pe_callTy (tupK (K := K)) (by rfl) T.b_tuple boot_tuple (pa_cons (pe_lc (own := [("rule", 6)]) (g := gName 6) (tt := tYes) rfl sc_M_init.nd (pi_tup (fldK (K := K) (pv 0))) (blkOk_by (own := [("rule", 6)]) (N := ["self", "policy", "name", "signs", "sign", "behind", "rule"]) (sc := defScope s_Machine___init__) (by decide +kernel)) (fun _ _ _ _ _ => pg_name (i := 6) sc_M_init.nd rfl (Or.inl rfl)) (fun _ _ _ _ _ => pts_nil) (fun _ _ _ _ _ => kgetK (K := K) (w := w) (by rfl) T.k_STARTS.m T.k_STARTS.lk T.k_STARTS.lit (pe_ix (ixT (K := K)) (pv 6) (pe_int) (fun _ _ => rfl)) pe_str ⟨rfl, rfl, rfl, rfl⟩)) (pa_nil))) rfl)
    (pss_one (ps_fld (pv 0) (pe_nnew) rfl))))))), ?_⟩
  refine ⟨_, rfl, a, _, _, _, rfl, rfl, h0, atI_nat (j := 1) rfl, ?_⟩
  refine ⟨_, rfl, m, _, dx, [], rfl, hm, T.cl_Machine, T.n_Machine_rules, by show 0 < 1000; decide, ?_⟩
  have k1 : Kp [m] H (upd H m (.ins T.c_Machine dx (putF "rules" (.ref r) []))) := Kp.refl.ins (List.mem_cons_self ..) hm
  have m1 : (upd H m (.ins T.c_Machine dx (putF "rules" (.ref r) []))) m = some (.ins T.c_Machine dx (putF "rules" (.ref r) [])) := upd_same
  generalize upd H m (.ins T.c_Machine dx (putF "rules" (.ref r) [])) = H1 at k1 m1 ⊢
  -- self.signs
  refine ⟨_, rfl, .ref a, p, rfl, dP.kp k1, hf.small, fun H2 k2 => ?_⟩
  refine ⟨_, rfl, m, _, dx, _, rfl, k2.at0 m1, T.cl_Machine, T.n_Machine_signs, by have := putF_le "rules" (.ref r) []; exact Nat.lt_of_le_of_lt this (by decide), ?_⟩
  generalize e2 : putF "signs" (.str (S p.signs)) (putF "rules" (.ref r) []) = fs2
  have k3 : Kp [m] H (upd H2 m (.ins T.c_Machine dx fs2)) := (k1.trans k2.up).ins (List.mem_cons_self ..) hm
  have m3 : (upd H2 m (.ins T.c_Machine dx fs2)) m = some (.ins T.c_Machine dx fs2) := upd_same
  generalize upd H2 m (.ins T.c_Machine dx fs2) = H3 at k3 m3 ⊢
  have z2 : fs2.length ≤ 2 := by
    rw [← e2]
    exact Nat.le_trans (putF_le ..) (Nat.succ_le_succ (putF_le "rules" (.ref r) []))
  -- self.names = {}
  refine fun dn hdn => ⟨_, rfl, m, _, dx, fs2, rfl, (Kp.new (L := []) hdn).at0 m3, T.cl_Machine, T.n_Machine_names, by omega, ?_⟩
  have hnm : dn ≠ m := fun z => by rw [z, m3] at hdn; cases hdn
  have fdn : H dn = none := k3.free (fun z => hnm (List.mem_singleton.mp z)) hdn
  generalize e4 : putF "names" (.ref dn) fs2 = fs4
  have k4 : Kp [m] H (upd (upd H3 dn (.dK [])) m (.ins T.c_Machine dx fs4)) := (k3.onto fdn).ins (List.mem_cons_self ..) hm
  have m4 : (upd (upd H3 dn (.dK [])) m (.ins T.c_Machine dx fs4)) m = some (.ins T.c_Machine dx fs4) := upd_same
  have n4 : (upd (upd H3 dn (.dK [])) m (.ins T.c_Machine dx fs4)) dn = some (.dK []) := by rw [upd_ne hnm, upd_same]
  generalize upd (upd H3 dn (.dK [])) m (.ins T.c_Machine dx fs4) = H4 at k4 m4 n4 ⊢
  have z4 : fs4.length ≤ 3 := by
    rw [← e4]
    exact Nat.le_trans (putF_le ..) (Nat.succ_le_succ z2)
  -- self.followers = {}
  refine fun df hdf => ⟨_, rfl, m, _, dx, fs4, rfl, (Kp.new (L := []) hdf).at0 m4, T.cl_Machine, T.n_Machine_followers, by omega, ?_⟩
  have hfm : df ≠ m := fun z => by rw [z, m4] at hdf; cases hdf
  have hfn : df ≠ dn := fun z => by rw [z, n4] at hdf; cases hdf
  have fdf : H df = none := k4.free (fun z => hfm (List.mem_singleton.mp z)) hdf
  generalize e5 : putF "followers" (.ref df) fs4 = fs5
  have k5 : Kp [m] H (upd (upd H4 df (.dK [])) m (.ins T.c_Machine dx fs5)) := (k4.onto fdf).ins (List.mem_cons_self ..) hm
  have m5 : (upd (upd H4 df (.dK [])) m (.ins T.c_Machine dx fs5)) m = some (.ins T.c_Machine dx fs5) := upd_same
  have n5 : (upd (upd H4 df (.dK [])) m (.ins T.c_Machine dx fs5)) dn = some (.dK []) := by rw [upd_ne hnm, upd_ne hfn.symm, n4]
  have f5 : (upd (upd H4 df (.dK [])) m (.ins T.c_Machine dx fs5)) df = some (.dK []) := by rw [upd_ne hfm, upd_same]
  generalize upd (upd H4 df (.dK [])) m (.ins T.c_Machine dx fs5) = H5 at k5 m5 n5 f5 ⊢
  have z5 : fs5.length ≤ 4 := by
    rw [← e5]
    exact Nat.le_trans (putF_le ..) (Nat.succ_le_succ z4)
  have lk5 : ∀ x : Str, fl fs5 x = if x = "followers" then some (.ref df) else if x = "names" then some (.ref dn) else if x = "signs" then some (.str (S p.signs)) else if x = "rules" then some (.ref r) else none := fun x => by
    show fs5.lookup x = _
    rw [← e5, lookup_putF, ← e4, lookup_putF, ← e2, lookup_putF, lookup_putF]
    rfl
  -- for name, signs in policy[0]
  refine ⟨_, rfl, a, _, _, _, rfl, rfl, k5.sqt h0, atI_nat (j := 0) rfl, c, rfl, ⟨xs, k5.sqt h1⟩, for_it (walk_tup (xs := xs)) (fun i σ Hi => ∃ (u1 u2 u3 u4 u5 : Option V) (kn kf : List (Key × V)), σ = [some (.ref m), some (.ref a), u1, u2, u3, u4, u5] ∧ Kp [m] H Hi ∧ Hi m = some (.ins T.c_Machine dx fs5) ∧
    Hi dn = some (.dK kn) ∧ Hi df = some (.dK kf) ∧ TabN kn (nPairs (p.cls.take i)) ∧ TabF kf (fPairs (p.cls.take i)) ∧ kn.length ≤ 6 * i ∧ kf.length ≤ 6 * i) ⟨_, _, _, _, _, [], [], rfl, k5, m5, n5, f5, (fun _ => rfl), (fun _ => rfl), Nat.le_refl _, Nat.le_refl _⟩ (fun i σ Hi _ ⟨_, _, _, _, _, _, _, _, k, _⟩ => k.sqt h1) ?_ ?_⟩
  · rintro i x σ Hi H' hi ⟨u1, u2, u3, u4, u5, kn, kf, rfl, k6, m6, n6, f6, tn, tf, ln, lf⟩ ⟨rfl, hx⟩
    obtain ⟨kk, e, dk⟩ := d1.get hx
    rw [List.getElem?_map] at e
    obtain ⟨z, ez, rfl⟩ := Option.map_eq_some_iff.mp e
    obtain ⟨b, rfl, hb⟩ := (dk.kp k6).pair
    have hz := List.mem_of_getElem? ez
    have h62 := (hf.small.2 z hz).2
    have hi4 : i < 4 := by
      have := hf.small.1
      have hl := d1.length
      rw [List.length_map] at hl
      omega
    have etk : p.cls.take (i + 1) = p.cls.take i ++ [z] := by rw [List.take_add_one, ez]; rfl
    refine ⟨b, _, rfl, hb, rfl, _, _, rfl, _, _, rfl, rfl, ?_⟩
    -- for sign in signs
    refine ⟨_, rfl, S z.2, rfl, for_it (walk_str (z := S z.2)) (fun j σ Hj => ∃ (v3 v4 : Option V) (kn' : List (Key × V)), σ = [some (.ref m), some (.ref a), some (.str (S z.1)), some (.str (S z.2)), v3, v4, u5] ∧ Kp [m] H Hj ∧ Hj m = some (.ins T.c_Machine dx fs5) ∧
      Hj dn = some (.dK kn') ∧ Hj df = some (.dK kf) ∧ TabN kn' (nPairs (p.cls.take i) ++ (z.2.take j).map fun c => (c, z.1)) ∧ kn'.length ≤ 6 * i + j) ⟨_, _, kn, rfl, k6, m6, n6, f6, by rw [List.take_zero, List.map_nil, List.append_nil]; exact tn, ln⟩ (fun _ _ _ _ _ => trivial) ?_ ?_⟩
    · rintro j x σ Hj H' hj ⟨v3, v4, kn', rfl, k7, m7, n7, f7, tn7, ln7⟩ ⟨rfl, s1, hs1, rfl⟩
      have hs1 : z.2[j]? = some s1 := by simpa [S] using hs1
      have hj6 : j < 6 := by
        have := (List.getElem?_eq_some_iff.mp hs1).1
        omega
      refine ⟨_, rfl, _, rfl, m, _, dx, fs5, _, rfl, m7, T.cl_Machine, T.n_Machine_names, by show fl fs5 "names" = _; rw [lk5, if_neg (by decide +kernel), if_pos rfl], _, rfl, dn, _, rfl, DPut.k (k := Sum.inr (S [s1])) n7 (Nat.lt_of_le_of_lt ln7 (small1000 (by omega))), ?_⟩
      refine ⟨_, _, putK kn' (Sum.inr (S [s1])) (.str (S z.1)), rfl, k7.onto fdn, by rw [upd_ne hnm.symm]; exact m7, upd_same, by rw [upd_ne hfn]; exact f7, ?_, ?_⟩
      · have := tn7.put (c := s1) (n := z.1)
        rw [List.append_assoc] at this
        rw [show z.2.take (j + 1) = z.2.take j ++ [s1] from by rw [List.take_add_one, hs1]; rfl, List.map_append]
        exact this
      · exact Nat.le_trans (putK_le ..) (by omega)
    · rintro σ Hj ⟨v3, v4, kn', rfl, k7, m7, n7, f7, tn7, ln7⟩
      have esz : (S z.2).cps.size = z.2.length := by simp [S]
      rw [esz] at tn7 ln7
      rw [List.take_of_length_le (Nat.le_refl _)] at tn7
      have tn8 : TabN kn' (nPairs (p.cls.take (i + 1))) := by
        rw [etk]
        unfold nPairs at tn7 ⊢
        rw [List.flatMap_append]
        simpa using tn7
      -- for sign, behind in zip(signs, signs[1:])
      refine ⟨_, rfl, _, rfl, 1, rfl, _, rfl, by rw [S_len]; exact Nat.le_of_lt (small1000 (by omega)), S z.2, S (z.2.drop 1), by rw [show (1 : Int) = ((1 : Nat) : Int) from rfl, cut_from], ?_⟩
      have emin : min (S z.2).cps.size (S (z.2.drop 1)).cps.size = (z.2.zip (z.2.drop 1)).length := by
        rw [List.length_zip]
        simp [S]
      refine for_it (walk_zpT (z1 := S z.2) (z2 := S (z.2.drop 1))) (fun j σ Hq => ∃ (w3 w4 : Option V) (kf' : List (Key × V)), σ = [some (.ref m), some (.ref a), some (.str (S z.1)), some (.str (S z.2)), w3, w4, u5] ∧ Kp [m] H Hq ∧ Hq m = some (.ins T.c_Machine dx fs5) ∧
        Hq dn = some (.dK kn') ∧ Hq df = some (.dK kf') ∧ TabF kf' (fPairs (p.cls.take i) ++ (z.2.zip (z.2.drop 1)).take j) ∧ kf'.length ≤ 6 * i + j) ⟨_, _, kf, rfl, k7, m7, n7, f7, by rw [List.take_zero, List.append_nil]; exact tf, lf⟩ (fun _ _ _ _ _ => trivial) ?_ ?_
      · rintro j x σ Hq H' hj ⟨w3, w4, kf', rfl, k8, m8, n8, f8, tf8, lf8⟩ ⟨T', x', y', rfl, hT, rfl, ⟨s1, hs1, rfl⟩, ⟨s2, hs2, rfl⟩⟩
        have hs1 : z.2[j]? = some s1 := by simpa [S] using hs1
        have hs2 : (z.2.drop 1)[j]? = some s2 := by simpa [S] using hs2
        have hj6 : j < 6 := by
          have := (List.getElem?_eq_some_iff.mp hs1).1
          omega
        have hTm : T' ≠ m := fun z => by rw [z, m8] at hT; cases hT
        have hTn : T' ≠ dn := fun z => by rw [z, n8] at hT; cases hT
        have hTf : T' ≠ df := fun z => by rw [z, f8] at hT; cases hT
        have k9 : Kp [m] H (upd Hq T' (.tup [.str (S [s1]), .str (S [s2])])) := k8.trans (Kp.new hT)
        refine ⟨T', _, rfl, SqT.of upd_same, rfl, _, _, rfl, _, _, rfl, rfl, ?_⟩
        refine ⟨_, rfl, _, rfl, m, _, dx, fs5, _, rfl, by rw [upd_ne hTm.symm]; exact m8, T.cl_Machine, T.n_Machine_followers, by show fl fs5 "followers" = _; rw [lk5, if_pos rfl], _, rfl, df, _, rfl, DPut.k (k := Sum.inr (S [s1])) (by rw [upd_ne hTf.symm]; exact f8) (Nat.lt_of_le_of_lt lf8 (small1000 (by omega))), ?_⟩
        refine ⟨_, _, putK kf' (Sum.inr (S [s1])) (.str (S [s2])), rfl, k9.onto fdf, by rw [upd_ne hfm.symm, upd_ne hTm.symm]; exact m8, by rw [upd_ne hfn.symm, upd_ne hTn.symm]; exact n8, upd_same, ?_, ?_⟩
        · have := tf8.put (c := s1) (n := s2)
          rw [List.append_assoc] at this
          rw [show (z.2.zip (z.2.drop 1)).take (j + 1) = (z.2.zip (z.2.drop 1)).take j ++ [(s1, s2)] from by rw [List.take_add_one, (List.getElem?_zip_eq_some (z := (s1, s2))).mpr ⟨hs1, hs2⟩]; rfl]
          exact this
        · exact Nat.le_trans (putK_le ..) (by omega)
      · rintro σ Hq ⟨w3, w4, kf', rfl, k8, m8, n8, f8, tf8, lf8⟩
        rw [emin] at tf8 lf8
        rw [List.take_of_length_le (Nat.le_refl _)] at tf8
        have hzl : (z.2.zip (z.2.drop 1)).length ≤ 6 := by rw [List.length_zip]; omega
        refine ⟨_, _, _, _, _, kn', kf', rfl, k8, m8, n8, f8, tn8, ?_, by omega, by omega⟩
        rw [etk]
        unfold fPairs at tf8 ⊢
        rw [List.flatMap_append]
        simpa using tf8
  · rintro σ H6 ⟨u1, u2, u3, u4, u5, kn, kf, rfl, k6, m6, n6, f6, tn, tf, ln, lf⟩
    have hl := d1.length
    rw [List.length_map] at hl
    rw [hl, List.take_of_length_le (Nat.le_refl _)] at tn tf
    have hl2 := d2.length
    rw [List.length_map] at hl2
    have hr6 := (isPol_use hf.pol).2.1
    -- self.start
    refine ⟨_, rfl, m, _, dx, fs5, _, rfl, m6, T.cl_Machine, T.n_Machine_rules, by show fl fs5 "rules" = _; rw [lk5, if_neg (by decide +kernel), if_neg (by decide +kernel), if_neg (by decide +kernel), if_pos rfl], r, rfl, ⟨ys, k6.sqt h2⟩, ?_⟩
    refine fun D nD => lc_rel (walk_tup (xs := ys)) [] (fun H i v => ∃ x, p.rules[i]? = some x ∧ Dk K H v (start1 x).key) (fun _ _ _ _ k ⟨x, e, d⟩ => ⟨x, e, d.kp k⟩) (fun H q o i v hp ⟨x, e, d⟩ => by
      obtain ⟨u, e1, e2⟩ := hp
      exact ⟨x, e, d.kp (Kp.put (L := [q]) (List.mem_cons_self ..) e1 e2)⟩) (by omega) nD (fun z => nomatch z) (fun H' k => (k.drop1 nD).sqt (k6.sqt h2)) (fun i v H7 H8 Z hi k hY hZ => ?_) (fun H7 vs k7 hD hvl hr7 => ?_)
    · obtain ⟨rfl, hx⟩ := hY
      obtain ⟨x, ex, dx1⟩ := d2.get hx
      rw [List.getElem?_map] at ex
      obtain ⟨x, ex1, rfl⟩ := Option.map_eq_some_iff.mp ex
      obtain ⟨b, zs, rfl, hb, db⟩ := ((dx1.kp k6).kp (k.drop1 nD)).rule
      obtain ⟨u, g1, g2⟩ := starts_get T.k_STARTS x H8
      refine ⟨rfl, _, rfl, b, _, _, _, rfl, rfl, hb, atI_nat (j := 0) rfl, x.word, u, rfl, g1, ?_⟩
      exact hZ _ _ ⟨x, ex1, g2⟩ Kp.refl
    have k8 : Kp [m] H H7 := k6.trans (k7.drop1 nD).up
    refine ⟨D, vs, rfl, .inl ⟨SqL.of hD, fun st hst => ?_⟩⟩
    have dS : Dk K (upd H7 st (.tup vs)) (.ref st) (stKey (start p)) := by
      refine .tup (SqT.of upd_same) ?_
      have : ∀ (rs : List Rule) (vs : List V), vs.length = rs.length → (∀ (i : Nat) (y : V), vs[i]? = some y → ∃ x, rs[i]? = some x ∧ Dk K H7 y (start1 x).key) → DkA K H7 vs ((rs.map start1).map RS.key) := by
        intro rs
        induction rs with
        | nil =>
          intro vs hv _
          cases vs with
          | nil => exact .nil
          | cons _ _ => cases hv
        | cons x rs ih =>
          intro vs hv h
          cases vs with
          | nil => cases hv
          | cons y vs =>
            refine .cons ?_ (ih vs (Nat.succ.inj hv) fun i z hz => ?_)
            · obtain ⟨x', e, d⟩ := h 0 y rfl
              cases e
              exact d
            · obtain ⟨x', e, d⟩ := h (i + 1) z (by simpa using hz)
              exact ⟨x', by simpa using e, d⟩
      exact (this p.rules vs (by omega) hr7).kp (Kp.new (L := []) hst)
    have k9 : Kp [] H6 (upd H7 st (.tup vs)) := (k7.drop1 nD).trans (Kp.new hst)
    refine ⟨_, rfl, m, _, dx, fs5, rfl, k9.at0 m6, T.cl_Machine, T.n_Machine_start, by omega, ?_⟩
    generalize e10 : putF "start" (.ref st) fs5 = fs10
    have k10 : Kp [m] H (upd (upd H7 st (.tup vs)) m (.ins T.c_Machine dx fs10)) := (k6.trans k9.up).ins (List.mem_cons_self ..) hm
    have k11 : Kp [m] (upd H7 st (.tup vs)) (upd (upd H7 st (.tup vs)) m (.ins T.c_Machine dx fs10)) := Kp.refl.ins (List.mem_cons_self ..) (k9.at0 m6)
    have m10 : (upd (upd H7 st (.tup vs)) m (.ins T.c_Machine dx fs10)) m = some (.ins T.c_Machine dx fs10) := upd_same
    have n10 := k11.at (fun z => hnm (List.mem_singleton.mp z)) (k9.at0 n6)
    have f10 := k11.at (fun z => hfm (List.mem_singleton.mp z)) (k9.at0 f6)
    have dS10 := dS.kp k11
    generalize upd (upd H7 st (.tup vs)) m (.ins T.c_Machine dx fs10) = H10 at k10 m10 n10 f10 dS10 ⊢
    -- self.known
    refine fun dk H11 hdk k12 nd => ⟨_, rfl, m, _, dx, fs10, rfl, k12.at0 m10, T.cl_Machine, T.n_Machine_known, by rw [← e10]; exact Nat.lt_of_le_of_lt (putF_le ..) (by omega), ?_⟩
    have hkm : dk ≠ m := fun z => by rw [z, m10] at hdk; cases hdk
    generalize e13 : putF "known" (.ref dk) fs10 = fs13
    have k13 : Kp [m] H (upd H11 m (.ins T.c_Machine dx fs13)) := (k10.trans k12.up).ins (List.mem_cons_self ..) hm
    have k14 : Kp [m] H11 (upd H11 m (.ins T.c_Machine dx fs13)) := Kp.refl.ins (List.mem_cons_self ..) (k12.at0 m10)
    have lk : ∀ x : Str, fl fs13 x = if x = "known" then some (.ref dk) else if x = "start" then some (.ref st) else fl fs5 x := fun x => by
      show fs13.lookup x = _
      rw [← e13, lookup_putF, ← e10, lookup_putF]
    refine q dk _ (k10.free (fun z => hkm (List.mem_singleton.mp z)) hdk) k13 ⟨hf, ⟨dx, fs13, upd_same, ?_⟩, hkm.symm, [], nd.kp k14 (fun z => hkm (List.mem_singleton.mp z)), List.nodup_nil, fun x hx => nomatch hx⟩
    have nsg : ((p.cls.map (·.2)).flatten).Nodup := hf.signs
    refine ⟨⟨r, ys, ?_, k13.sqt h2, d2.kp k13⟩, ?_, ⟨dn, kn, ?_, k14.fix _ _ rfl (k12.at0 n10), fun c hc => ?_⟩, ⟨df, kf, ?_, k14.fix _ _ rfl (k12.at0 f10), fun c hc => ?_⟩, ⟨.ref st, ?_, (dS10.kp k12).kp k14⟩, ?_, fun x hx => ?_⟩
    · rw [lk, if_neg (by decide +kernel), if_neg (by decide +kernel), lk5, if_neg (by decide +kernel), if_neg (by decide +kernel), if_neg (by decide +kernel), if_pos rfl]
    · rw [lk, if_neg (by decide +kernel), if_neg (by decide +kernel), lk5, if_neg (by decide +kernel), if_neg (by decide +kernel), if_pos rfl]
    · rw [lk, if_neg (by decide +kernel), if_neg (by decide +kernel), lk5, if_neg (by decide +kernel), if_pos rfl]
    · rw [tn c, lookup_rev (by rw [nPairs_keys]; exact nsg), nPairs_at _ _ hc]
      rfl
    · rw [lk, if_neg (by decide +kernel), if_neg (by decide +kernel), lk5, if_pos rfl]
    · rw [tf c, lookup_rev (nsg.sublist (fPairs_sub p.cls)), fPairs_at _ _ nsg]
    · rw [lk, if_neg (by decide +kernel), if_pos rfl]
    · rw [lk, if_pos rfl]
    · have ne : ∀ x ∈ (["step", "moved", "counted", "unmatched", "keeps", "fine", "after", "nearest"] : List Str), x ≠ "known" ∧ x ≠ "start" ∧ x ≠ "followers" ∧ x ≠ "names" ∧ x ≠ "signs" ∧ x ≠ "rules" := by decide +kernel
      obtain ⟨a1, a2, a3, a4, a5, a6⟩ := ne x hx
      rw [lk, lk5, if_neg a1, if_neg a2, if_neg a3, if_neg a4, if_neg a5, if_neg a6]
end
end Px

set_option maxRecDepth 100000
set_option maxHeartbeats 4000000
/-! PxW8: many_from, count. -/
namespace Px
open PySem PySem.Spec PyProof.Rows L2
/-- how many fine strings of a size lead on from a state -/
def many (p : Pol) : Nat → List RS → Nat
  | 0, st => if fineS p st then 1 else 0
  | n + 1, st => (p.signs.map fun c => match stepS p st c with | none => 0 | some s => many p n s).sum
def countOf (p : Pol) (n : Nat) : Nat := many p n (start p)
theorem lookV {kvs : List (NestedKey × V)} {k : NestedKey} {v : V} (e : valV kvs k = some v) : (k, v) ∈ kvs := by
  unfold valV at e
  obtain ⟨x, hx, e2⟩ := Option.map_eq_some_iff.mp e
  have h1 := List.mem_of_find?_eq_some hx
  have h2 := List.find?_some hx
  rw [← of_decide_eq_true h2, ← e2]
  exact h1
def sizeKey (s : List RS) (k : Nat) : NestedKey := .tup [stKey s, .num k]
theorem sizeKey_depth (s : List RS) (c : Nat) : (sizeKey s c).depth ≤ 8 := Nat.le_trans (Nat.succ_le_succ (depthAll_le (n := 2) fun k hk => by
  rcases List.mem_cons.mp hk with e | e
  · rw [e]; exact st_depth s
  · rw [List.mem_singleton.mp e]; exact Nat.zero_le _)) (by decide)
theorem sizeKey_inj {s s' : List RS} {c c' : Nat} (h : sizeKey s c = sizeKey s' c') : s = s' ∧ c = c' := by
  injection h with h
  injection h with h1 h2
  injection h2 with h2 _
  injection h2 with h2
  exact ⟨stKey_inj h1, Int.ofNat.inj h2⟩
section
variable {P : Program} {w : World} {K : PySem.W.Frag} {mg : Str → Option Value} {base : Heap}
/-- what is known of numbers -/
structure Memo (P : Program) (w : World) (K : PySem.W.Frag) (H : Hp) (kd : Addr) (p : Pol) (N : Nat) : Prop where
  tab : ∃ kvs, NDict P w K H kd kvs ∧ (kvs.map (·.1)).Nodup ∧ ∀ x ∈ kvs, ∃ st k, Good p st ∧ k ∈ List.range (N + 1) ∧ x.1 = sizeKey st k ∧ x.2 = .int (many p k st : Nat)
theorem Memo.kp {H H1 : Hp} {L : List Addr} {kd : Addr} {p : Pol} {N : Nat} (M : Memo P w K H kd p N) (k : Kp L H H1) (n : kd ∉ L) : Memo P w K H1 kd p N := by
  obtain ⟨kvs, h1, h2, h3⟩ := M
  exact ⟨kvs, h1.kp k n, h2, h3⟩
def spMany (P : Program) (w : World) (K : PySem.W.Frag) (C : Addr) (n : Nat) : Sp := fun vs H Q _ => ∃ (m dk kd : Addr) (p : Pol) (sv : V) (st : List RS) (k N : Nat), vs = [.ref m, sv, .int k, .ref kd] ∧ k + 1 ≤ n ∧ k ≤ N ∧ room p * (N + 1) < 16000000 ∧ MachAt P w K C H m dk p ∧ Dk K H sv (stKey st) ∧ Good p st ∧
  Memo P w K H kd p N ∧ kd ≠ dk ∧ kd ≠ m ∧ ∀ H', Kp [dk, kd] H H' → MachAt P w K C H' m dk p → Memo P w K H' kd p N → Q (.int (many p k st : Nat)) H'
theorem sc_many_from : FnScope ["machine", "state", "size", "known", "total", "sign", "reached"] ["machine", "state", "size", "known"] (defScope s_many_from) := ⟨rfl, rfl, rfl, by decide +kernel, rfl, by decide +kernel, by decide +kernel⟩
theorem many_none (T : Top K w mg) : FnOk P w K mg base CX0 3 T.d_many_from.f T.d_many_from.fd ["machine", "state", "size", "known"] (spMany P w K T.c_Machine 0) := by
  have no : ∀ vs H Q E, ¬ spMany P w K T.c_Machine 0 vs H Q E := fun vs H Q E h => by
    obtain ⟨_, _, _, _, _, _, _, _, _, h, _⟩ := h
    omega
  exact ⟨fun vs H Q E h => absurd h (no vs H Q E), fun A outer s H args us vs Q E _ _ _ _ h => absurd h (no vs H Q E)⟩
theorem many_next (T : Top K w mg) {n : Nat} (G : FnOk P w K mg base CX0 (n + 3) T.d_many_from.f T.d_many_from.fd ["machine", "state", "size", "known"] (spMany P w K T.c_Machine n)) :
    FnOk P w K mg base CX0 (n + 4) T.d_many_from.f T.d_many_from.fd ["machine", "state", "size", "known"] (spMany P w K T.c_Machine (n + 1)) := by
  refine T.d_many_from.F.ok sc_many_from (fun vs H Q E h => ?_) (fun cdv A outer s H vs Q E hr h => ?_)
  · obtain ⟨m, dk, kd, p, sv, st, k, N, rfl, _⟩ := h
    rfl
  obtain ⟨m, dk, kd, p, sv, st, k, N, rfl, hk, hN, hroom, M, dst, g0, Me, n1, n2, q⟩ := h
  have hu := hr.units
  refine ⟨_, pss_cons (ps_if (pt_cmpR op_eq (pv 2) (pe_int) (nomark _)) (pss_one (ps_ret (pe_ifExp (pt_val (pe_meth (pv 0) T.cl_Machine T.m_Machine_fine.M (ok_M_fine (P := P) (base := base) T) (hr.mono (by omega)) T.m_Machine_fine.b .nil pass0 (pa_cons (pv 1) (pa_nil)))) (pe_int) (pe_int)))) (pss_nil))
    (pss_cons (ps_if (pt_cmp (pc_nnin hu (pe_tup (pa_cons (pv 1) (pa_cons (pv 2) (pa_nil)))) (pv 3)) rfl) (pss_cons (ps_set (i := 4) sc_many_from.nd rfl (Or.inl rfl) (pe_int))
    (pss_cons (ps_for PassesOwn.never rfl (pi_str (fldK (K := K) (pv 0))) (pg_name (i := 5) sc_many_from.nd rfl (Or.inl rfl))
    (pss_cons (ps_set (i := 6) sc_many_from.nd rfl (Or.inl rfl) (pe_meth (pv 0) T.cl_Machine T.m_Machine_step.M (ok_M_step (P := P) (base := base) T) (hr.mono (by omega)) T.m_Machine_step.b .nil pass0 (pa_cons (pv 1) (pa_cons (pv 5) (pa_nil)))))
    (pss_one (ps_if (pt_cmpR op_notN (pv 6) pe_non (nomark _)) (pss_one (ps_aug (i := 4) sc_many_from.nd rfl (Or.inl rfl) (pe_call G hr (by rfl) T.d_many_from.m T.d_many_from.F.kp T.d_many_from.b .nil pass0 (pa_cons (pv 0) (pa_cons (pv 6) (pa_cons (pe_op op_sub (pv 2) (pe_int)) (pa_cons (pv 3) (pa_nil)))))) ip_add)) (pss_nil)))))
    (pss_one (ps_nput hu (pv 3) (pe_tup (pa_cons (pv 1) (pa_cons (pv 2) (pa_nil)))) (pv 4) rfl)))) (pss_nil))
    (pss_one (ps_ret (pe_nget hu (pv 3) (pe_tup (pa_cons (pv 1) (pa_cons (pv 2) (pa_nil)))) (fun _ _ => rfl))))), ?_⟩
  obtain ⟨a, zs, rfl, hz, dz⟩ := Dk.tupI dst
  obtain ⟨dx, fs, hm, F⟩ := M.ob
  -- size == 0
  refine ⟨_, rfl, rfl, _, rfl, ite2 (fun h0 => ?_) (fun h0 => ?_)⟩
  · have h0 : k = 0 := Int.ofNat.inj (V.int.inj (of_decide_eq_true h0))
    subst h0
    refine ⟨_, rfl, m, dx, fs, rfl, hm, F.meths _ (by simp), _, rfl, m, dk, p, _, some st, rfl, M, dst, (fun s e => by cases e; exact g0), fun H1 k1 => ⟨_, rfl, ?_⟩⟩
    have := q H1 k1.up (M.kp0 k1) (Me.kp k1 (fun z => nomatch z))
    refine ite2 (fun hb => ?_) (fun hb => ?_)
    · replace hb : fineS p st = true := hb
      rw [many, if_pos hb] at this
      exact this
    · replace hb : ¬ fineS p st = true := hb
      rw [many, if_neg hb] at this
      exact this
  have h0 : k ≠ 0 := fun z => h0 (decide_eq_true (by rw [z]; rfl))
  obtain ⟨k, rfl⟩ : ∃ j, k = j + 1 := ⟨k - 1, by omega⟩
  -- (state, size) not in known
  refine ⟨_, rfl, _, rfl, by show 2 ≤ sizeLine; decide, fun t ht => ?_⟩
  have k1 : Kp [] H (upd H t (.tup [.ref a, .int ((k + 1 : Nat) : Int)])) := Kp.new ht
  have d1 : Dk K (upd H t (.tup [.ref a, .int ((k + 1 : Nat) : Int)])) (.ref t) (sizeKey st (k + 1)) := .tup (SqT.of upd_same) (.cons (Dk.kp dst k1) (.cons (.num _) .nil))
  generalize upd H t (.tup [.ref a, .int ((k + 1 : Nat) : Int)]) = H1 at k1 d1 ⊢
  obtain ⟨kvs, nd, nk, ck⟩ := Me.kp k1 (fun z => nomatch z)
  refine ⟨_, rfl, kd, kvs, _, rfl, ⟨_, rfl⟩, nd, d1, sizeKey_depth _ _, _, rfl, ?_⟩
  cases e : valV kvs (sizeKey st (k + 1)) with
  | some v0 =>
    refine iteF ?_
    refine ⟨_, rfl, _, rfl, _, rfl, by show 2 ≤ sizeLine; decide, fun t2 ht2 => ?_⟩
    have k2 : Kp [] H1 (upd H1 t2 (.tup [.ref a, .int ((k + 1 : Nat) : Int)])) := Kp.new ht2
    refine ⟨kd, kvs, sizeKey st (k + 1), v0, rfl, ⟨_, rfl⟩, nd.kp k2 (fun z => nomatch z), .tup (SqT.of upd_same) (.cons (Dk.kp dst (k1.trans k2)) (.cons (.num _) .nil)), sizeKey_depth _ _, e, ?_⟩
    obtain ⟨st', k', _, _, ek, r⟩ := ck _ (lookV e)
    obtain ⟨rfl, rfl⟩ := sizeKey_inj ek
    cases r
    exact q _ (k1.trans k2).up (M.kp0 (k1.trans k2)) (Me.kp (k1.trans k2) (fun z => nomatch z))
  | none =>
    refine iteT ?_
    -- the sum
    refine ⟨_, rfl, m, _, dx, fs, _, rfl, k1.at0 hm, T.cl_Machine, T.n_Machine_signs, F.signs, S p.signs, rfl, ?_⟩
    have mk : m ∉ [dk, kd] := fun z => by
      rcases List.mem_cons.mp z with e | e
      · exact M.ne e
      · exact n2 (List.mem_singleton.mp e).symm
    have kk : kd ∉ [dk] := fun z => n1 (List.mem_singleton.mp z)
    refine for_it (walk_str (z := S p.signs)) (fun i σ Hi => ∃ (u5 u6 : Option V), σ = [some (.ref m), some (.ref a), some (.int ((k + 1 : Nat) : Int)), some (.ref kd), some (.int ((((p.signs.take i).map fun c => match stepS p st c with | none => 0 | some s => many p k s).sum : Nat) : Int)), u5, u6] ∧
      Kp [dk, kd] H Hi ∧ MachAt P w K T.c_Machine Hi m dk p ∧ Memo P w K Hi kd p N) ⟨none, none, rfl, k1.up, M.kp0 k1, Me.kp k1 (fun z => nomatch z)⟩ (fun _ _ _ _ _ => trivial) ?_ ?_
    · rintro i x σ Hi H' hi ⟨u5, u6, rfl, k2, M2, Me2⟩ ⟨rfl, c, hcx, rfl⟩
      have hcx : p.signs[i]? = some c := by simpa [S] using hcx
      have hc := List.mem_of_getElem? hcx
      obtain ⟨dx2, fs2, hm2, F2⟩ := M2.ob
      have esum : ((p.signs.take (i + 1)).map fun c => match stepS p st c with | none => 0 | some s => many p k s).sum = ((p.signs.take i).map fun c => match stepS p st c with | none => 0 | some s => many p k s).sum + (match stepS p st c with | none => 0 | some s => many p k s) := by
        rw [show p.signs.take (i + 1) = p.signs.take i ++ [c] from by rw [List.take_add_one, hcx]; rfl, List.map_append, List.sum_append]
        simp
      -- reached = machine.step(state, sign)
      refine ⟨_, rfl, m, dx2, fs2, rfl, hm2, F2.meths _ (by simp), _, rfl, _, rfl, m, dk, p, _, some st, c, rfl, M2, Dk.kp dst k2, (fun s e => by cases e; exact g0), hc, fun v H3 k3 M3 r3 => ?_⟩
      have Me3 := Me2.kp k3 kk
      have k4 : Kp [dk, kd] H H3 := k2.trans (k3.mono fun b hb => by rw [List.mem_singleton.mp hb]; exact List.mem_cons_self ..)
      cases es : stepS p st c with
      | none =>
        have r3 : v = .non := by
          have : step p (some st) c = none := es
          rw [this] at r3
          exact r3
        subst r3
        refine ⟨_, rfl, rfl, _, rfl, iteDn rfl ?_⟩
        refine ⟨some (.str ⟨#[c]⟩), some .non, ?_, k4, M3, Me3⟩
        rw [esum, es]
        rfl
      | some s' =>
        have r3 : Dk K H3 v (stKey s') := by
          have : step p (some st) c = some s' := es
          rw [this] at r3
          exact r3
        obtain ⟨b, bs, rfl, _, _⟩ := Dk.tupI r3
        refine ⟨_, rfl, rfl, _, rfl, iteNn (fun z => nomatch z) ?_⟩
        refine ⟨_, rfl, _, rfl, _, rfl, _, rfl, _, _, rfl, rfl, _, rfl, ?_⟩
        refine ⟨m, dk, kd, p, _, s', k, N, by show [V.ref m, V.ref b, V.int (((k + 1 : Nat) : Int) - 1), V.ref kd] = _; rw [show (((k + 1 : Nat) : Int) - 1) = (k : Int) by omega], by omega, by omega, hroom, M3, r3, g0.step M.fit.ok hc es, Me3, n1, n2, fun H5 k5 M5 Me5 => ?_⟩
        refine ⟨_, _, rfl, rfl, some (.str ⟨#[c]⟩), some (.ref b), ?_, k4.trans k5, M5, Me5⟩
        rw [esum, es]
        rfl
    · rintro σ Hi ⟨u5, u6, rfl, k2, M2, Me2⟩
      have esz : (p.signs.take (S p.signs).cps.size) = p.signs := List.take_of_length_le (by simp [S])
      rw [esz]
      obtain ⟨kvs2, nd2, nk2, ck2⟩ := Me2
      -- known[state, size] = total
      refine ⟨_, rfl, _, rfl, _, rfl, _, rfl, by show 2 ≤ sizeLine; decide, fun t3 ht3 => ?_⟩
      have k3 : Kp [] Hi (upd Hi t3 (.tup [.ref a, .int ((k + 1 : Nat) : Int)])) := Kp.new ht3
      have hsz : kvs2.length < sizeLine := by
        have := keys_le M.fit.names (fun st k => sizeKey st k) (List.range (N + 1)) nk2 (fun j hj => by
          obtain ⟨x, hx, rfl⟩ := List.mem_map.mp hj
          obtain ⟨st', c', a1, a2, a3, _⟩ := ck2 x hx
          exact ⟨st', a1, c', a2, a3⟩)
        rw [List.length_map, List.length_range] at this
        exact Nat.lt_of_le_of_lt this (Nat.lt_trans hroom (by decide))
      refine ⟨kd, kvs2, sizeKey st (k + 1), rfl, ⟨_, rfl⟩, nd2.kp k3 (fun z => nomatch z), .tup (SqT.of upd_same) (.cons (Dk.kp dst (k2.trans k3.up)) (.cons (.num _) .nil)), sizeKey_depth _ _, hsz, fun H6 k6 nd6 => ?_⟩
      have k7 : Kp [dk, kd] H H6 := k2.trans (k3.up.trans (k6.mono fun b hb => by rw [List.mem_singleton.mp hb]; exact List.mem_cons_of_mem _ (List.mem_cons_self ..)))
      have M6 := (M2.kp0 k3).kp k6 (fun z => n2 (List.mem_singleton.mp z).symm) (fun z => n1 (List.mem_singleton.mp z).symm)
      have Me6 : ∀ H7, Kp [] H6 H7 → Memo P w K H7 kd p N := fun H7 k8 => by
        refine ⟨_, nd6.kp k8 (fun z => nomatch z), ?_, fun x hx => ?_⟩
        · cases e2 : valV kvs2 (sizeKey st (k + 1)) with
          | none => exact nd_putK _ nk2 e2
          | some v2 =>
            have : (putK kvs2 (sizeKey st (k + 1)) (.int (((p.signs.map fun c => match stepS p st c with | none => 0 | some s => many p k s).sum : Nat) : Int))).map (·.1) = kvs2.map (·.1) := by
              unfold putK
              rw [if_pos (by rw [valV_any, e2]; rfl), List.map_map]
              refine List.map_congr_left fun y _ => ?_
              show (if y.1 = _ then (y.1, _) else y).1 = y.1
              split <;> rfl
            rw [this]
            exact nk2
        · have : x ∈ kvs2 ∨ x = (sizeKey st (k + 1), .int (((p.signs.map fun c => match stepS p st c with | none => 0 | some s => many p k s).sum : Nat) : Int)) := by
            unfold putK at hx
            split at hx
            · obtain ⟨y, hy, rfl⟩ := List.mem_map.mp hx
              split
              · rename_i h; right; rw [h]
              · exact .inl hy
            · rcases List.mem_append.mp hx with h | h
              · exact .inl h
              · exact .inr (List.mem_singleton.mp h)
          rcases this with h | h
          · exact ck2 x h
          · rw [h]
            exact ⟨st, k + 1, g0, List.mem_range.mpr (by omega), rfl, rfl⟩
      -- return known[state, size]
      refine ⟨_, rfl, _, rfl, _, rfl, by show 2 ≤ sizeLine; decide, fun t8 ht8 => ?_⟩
      have k8 : Kp [] H6 (upd H6 t8 (.tup [.ref a, .int ((k + 1 : Nat) : Int)])) := Kp.new ht8
      refine ⟨kd, _, sizeKey st (k + 1), _, rfl, ⟨_, rfl⟩, nd6.kp k8 (fun z => nomatch z), .tup (SqT.of upd_same) (.cons (Dk.kp dst (k7.trans k8.up)) (.cons (.num _) .nil)), sizeKey_depth _ _, by rw [valV_put, if_pos rfl], ?_⟩
      exact q _ (k7.trans k8.up) (M6.kp0 k8) (Me6 _ k8)
theorem ok_many (T : Top K w mg) : ∀ n : Nat, FnOk P w K mg base CX0 (n + 3) T.d_many_from.f T.d_many_from.fd ["machine", "state", "size", "known"] (spMany P w K T.c_Machine n)
  | 0 => many_none T
  | n + 1 => many_next T (ok_many T n)
/-! ### count -/
theorem mk_kp {H : Hp} {x dx C : Addr} (h1 : H x = none) (h2 : H dx = none) : Kp [] H (upd (upd H dx (.own x)) x (.ins C dx [])) := (Kp.new h2).onto h1
def spCountP (K : PySem.W.Frag) : Sp := fun vs H Q _ => ∃ (v : V) (p : Pol) (k N : Nat), vs = [v, .int k] ∧ Dk K H v p.key ∧ Fit p ∧ k ≤ N ∧ N ≤ 20 ∧ room p * (N + 1) < 16000000 ∧ ∀ H', Kp [] H H' → Q (.int (countOf p k : Nat)) H'
theorem sc_count : FnScope ["policy", "size", "machine"] ["policy", "size"] (defScope s_count) := ⟨rfl, rfl, rfl, by decide +kernel, rfl, by decide +kernel, by decide +kernel⟩
theorem ok_count (T : Top K w mg) : FnOk P w K mg base CX0 25 T.d_count.f T.d_count.fd ["policy", "size"] (spCountP K) := by
  refine T.d_count.F.ok sc_count (fun vs H Q E h => ?_) (fun cdv A outer s H vs Q E hr h => ?_)
  · obtain ⟨v, p, k, N, rfl, _⟩ := h
    rfl
  obtain ⟨v, p, k, N, rfl, d, hf, hk, hN, hroom, q⟩ := h
  have hu := hr.units
  refine ⟨_, pss_cons (ps_expr (pe_call (ok_need_policy (P := P) (base := base) T) (hr.mono (by decide)) (by rfl) T.d_need_policy.m T.d_need_policy.F.kp T.d_need_policy.b .nil pass0 (pa_cons (pv 0) (pa_nil))))
    (pss_cons (ps_expr (pe_call (ok_need_size (P := P) (base := base) T) (hr.mono (by decide)) (by rfl) T.d_need_size.m T.d_need_size.F.kp T.d_need_size.b .nil pass0 (pa_cons (pv 1) (pa_nil))))
    (pss_cons (ps_set (i := 2) sc_count.nd rfl (Or.inl rfl) (pe_make T.i_Machine.M (ok_M_init (P := P) (base := base) T) (hr.mono (by decide)) (by rfl) T.g_Machine T.i_Machine.b .nil pass0 (pa_cons (pv 0) (pa_nil))))
    (pss_one (ps_ret (pe_call ((ok_many (P := P) (base := base) T 21)) hr (by rfl) T.d_many_from.m T.d_many_from.F.kp T.d_many_from.b .nil pass0 (pa_cons (pv 2) (pa_cons (fldK (K := K) (pv 2)) (pa_cons (pv 1) (pa_cons (pe_nnew) (pa_nil)))))))))), ?_⟩
  refine ⟨_, rfl, v, p, rfl, d, hf.pol, hf.nd, fun H1 k1 => ?_⟩
  refine ⟨_, rfl, (k : Int), rfl, by omega, by omega, ?_⟩
  refine ⟨_, rfl, fun m dx hm hdx hne => ?_⟩
  have k2 : Kp [] H1 (upd (upd H1 dx (.own m)) m (.ins T.c_Machine dx [])) := mk_kp hm hdx
  refine ⟨m, dx, v, p, rfl, upd_same, (d.kp k1).kp k2, hf, fun dk H3 hdk k3 M => ⟨rfl, ?_⟩⟩
  have k4 : Kp [] H1 H3 := ((k2.up).trans k3).fresh hm
  have fdk : H1 dk = none := k2.free0 hdk
  obtain ⟨dx', fs, hm3, F⟩ := M.ob
  obtain ⟨sv, s1, s2⟩ := F.start
  refine ⟨_, rfl, _, rfl, m, _, dx', fs, _, rfl, hm3, T.cl_Machine, T.n_Machine_start, s1, _, rfl, fun kd H5 hkd k5 nd => ?_⟩
  obtain ⟨kv0, nd0, _⟩ := M.cache
  have n1 : kd ≠ dk := fun z => by rw [z] at hkd; exact nd0.there hkd
  have n2 : kd ≠ m := fun z => by rw [z, hm3] at hkd; cases hkd
  refine ⟨m, dk, kd, p, sv, start p, k, N, rfl, by omega, hk, hroom, M.kp0 k5, s2.kp k5, Good.start hf.ok, ⟨[], nd, List.nodup_nil, fun x hx => nomatch hx⟩, n1, n2, fun H6 k6 M6 Me6 => ?_⟩
  refine q H6 (k1.trans ?_)
  have k7 : Kp [dk, kd] H1 H6 := (k4.up.trans k5.up).trans k6
  have fkd : H1 kd = none := k4.free0 hkd
  exact (k7.fresh fdk).fresh fkd
end
end Px

set_option maxRecDepth 100000
set_option maxHeartbeats 4000000
/-! PxH: more rules: xs[i] op= e on a list, == of lists of data. -/
namespace Px
open PySem PySem.Spec PyProof.Rows L2
section
variable {X : Cx} {K : PySem.W.Frag}
def rGetL (K : PySem.W.Frag) : V → V → Hp → VK → Prop := fun x y H Q => ∃ p xs, ∃ i : Nat, ∃ v, x = .ref p ∧ y = .int i ∧ SqL K H p xs ∧ xs[i]? = some v ∧ Q v H
theorem getL (h : X.K = K := by rfl) : PGet X (rGetL K) := by
  subst h
  intro pn sh sg H o i ov iv Q I ro ri hq
  obtain ⟨p, xs, j, v, rfl, rfl, hl, hj, q⟩ := hq
  cases ro
  obtain ⟨t, rfl⟩ := ri
  obtain ⟨its, rv, pl, hz⟩ := I.list hl
  obtain ⟨w, ew, rw'⟩ := rv.get hj
  have hn := line63
  have hl := rv.length
  have hj2 := (List.getElem?_eq_some_iff.mp hj).1
  refine wpAny_getItem_list pl.isList (Int.natCast_nonneg _) (by omega) (x := w) (by simpa using ew) ?_
  exact ⟨v, H, I, rw', q⟩
/-- == and != of two lists of data -/
def rEqLs (K : PySem.W.Frag) (neg : Bool) : R2 := fun x y H Q => ∃ p q xs ys ks js, x = .ref p ∧ y = .ref q ∧ SqL K H p xs ∧ SqL K H q ys ∧ DkA K H xs ks ∧ DkA K H ys js ∧ okA ks = true ∧ okA js = true ∧ NestedKey.depthAll ks ≤ 60 ∧ NestedKey.depthAll js ≤ 60 ∧
  Q (.bl (cond neg (!decide (ks = js)) (decide (ks = js)))) H
theorem shaped_list {ks : List NestedKey} (h : okA ks = true) (hd : NestedKey.depthAll ks ≤ 60) : SeqAt.shaped (.list (NestedKey.datas ks)) = true := by
  unfold SeqAt.shaped
  simp only [PyData.canLay0, PyData.depth, canA_data ks h, depthA_data, Bool.true_and]
  exact decide_eq_true (by omega)
theorem eqv_list (ks js : List NestedKey) : PyData.eqv (.list (NestedKey.datas ks)) (.list (NestedKey.datas js)) = decide (ks = js) := by
  show PyData.eqvAll (NestedKey.datas ks) (NestedKey.datas js) = _
  rw [eqvA_data]
  have h := eqv_data (.tup ks) (.tup js)
  have h2 : NestedKey.beq (.tup ks) (.tup js) = decide (NestedKey.tup ks = NestedKey.tup js) := by
    have := any_mem [NestedKey.tup ks] (NestedKey.tup js)
    simp only [List.any_cons, List.any_nil, Bool.or_false, List.mem_singleton] at this
    rw [this, decide_eq_decide]
    exact ⟨fun e => e.symm, fun e => e.symm⟩
  show NestedKey.beq (.tup ks) (.tup js) = _
  rw [h2, decide_eq_decide]
  exact ⟨fun e => by injection e, fun e => by rw [e]⟩
theorem eqL (hu : X.A.units + 64 < cLine) (h : X.K = K := by rfl) : OpR X (compareOp .Eq) (rEqLs K false) := by
  subst h
  intro pn sh sg H x y v u Q I rx ry hq
  obtain ⟨p, q, xs, ys, ks, js, rfl, rfl, h1, h2, d1, d2, o1, o2, e1, e2, hQ⟩ := hq
  refine op_eqD hu pn sh sg H _ _ v u Q I rx ry ⟨_, _, .lst h1 (DkA.dp ks xs d1), .lst h2 (DkA.dp js ys d2), shaped_list o1 e1, shaped_list o2 e2, ?_⟩
  rw [eqv_list]
  exact hQ
theorem neL (hu : X.A.units + 64 < cLine) (h : X.K = K := by rfl) : OpR X (compareOp .NotEq) (rEqLs K true) := by
  subst h
  intro pn sh sg H x y v u Q I rx ry hq
  obtain ⟨p, q, xs, ys, ks, js, rfl, rfl, h1, h2, d1, d2, o1, o2, e1, e2, hQ⟩ := hq
  refine op_neD hu pn sh sg H _ _ v u Q I rx ry ⟨_, _, .lst h1 (DkA.dp ks xs d1), .lst h2 (DkA.dp js ys d2), shaped_list o1 e1, shaped_list o2 e2, ?_⟩
  rw [eqv_list]
  exact hQ
end
theorem ints_dk {K : PySem.W.Frag} {H : Hp} : ∀ ns : List Int, DkA K H (ns.map V.int) (ns.map NestedKey.num)
  | [] => .nil
  | n :: ns => .cons (.num n) (ints_dk ns)
theorem ints_ok : ∀ ns : List Int, okA (ns.map NestedKey.num) = true
  | [] => by simp [okA]
  | n :: ns => by
    rw [List.map_cons]
    simp only [okA, okK, Bool.true_and]
    exact ints_ok ns
theorem ints_depth (ns : List Int) : NestedKey.depthAll (ns.map NestedKey.num) ≤ 60 := by
  induction ns with
  | nil => exact Nat.zero_le _
  | cons n ns ih => exact Nat.max_le.mpr ⟨Nat.zero_le _, ih⟩
end Px

set_option maxRecDepth 100000
set_option maxHeartbeats 4000000
/-! PxL1: the law's draw and pick: some number below many. -/
namespace Px
open PySem PySem.Spec PyProof.Rows L2
section
variable {P : Program} {w : World} {K : PySem.W.Frag} {mg : Str → Option Value} {base : Heap}
/-- the script, and the town where it stands -/
def TownAt (H : Hp) (t : Addr) : Prop := ∃ p q : Int, H t = some (.lst [.int p, .int q]) ∧ 0 ≤ p ∧ 0 ≤ q
/-- the script isn't the town -/
def Off (K : PySem.W.Frag) (a t : Addr) (ns : List Int) : Prop := a ≠ t ∨ ∀ H, SqL K H a (ns.map V.int)
theorem Off.sql {H H1 : Hp} {a t : Addr} {ns : List Int} (o : Off K a t ns) (h : SqL K H a (ns.map V.int)) (k : Kp [t] H H1) : SqL K H1 a (ns.map V.int) := by
  rcases o with o | o
  · rcases h with (h | ⟨ob, h⟩) | h
    · exact .inl (.inl (k.keep _ _ (fun z => o (List.mem_singleton.mp z)) h))
    · exact .inl (.inr ⟨ob, k.keep _ _ (fun z => o (List.mem_singleton.mp z)) h⟩)
    · exact .inr h
  · exact o H1
def spDraw (K : PySem.W.Frag) : Sp := fun vs H Q _ => ∃ (a t : Addr) (ns : List Int) (n : Nat), vs = [.ref a, .ref t, .int n] ∧ SqL K H a (ns.map V.int) ∧ ns.length ≤ 1000 ∧ TownAt H t ∧ 0 < n ∧ n < 1000000000 ∧ Off K a t ns ∧
  ∀ (r : Nat) H', r < n → Kp [t] H H' → TownAt H' t → Q (.int r) H'
theorem sc_law_draw : FnScope ["_law_script", "_law_town", "_law_many", "_law_one", "_law_at", "_law_mixed"] ["_law_script", "_law_town", "_law_many"] (defScope s__law_draw) := ⟨rfl, rfl, rfl, by decide +kernel, rfl, by decide +kernel, by decide +kernel⟩
theorem fmod_nat (i : Int) {n : Nat} (h : 0 < n) : ∃ r : Nat, i.fmod n = r ∧ r < n := by
  have h1 : 0 ≤ i.fmod n := Int.fmod_nonneg_of_pos i (by omega)
  have h2 : i.fmod n < n := Int.fmod_lt_of_pos i (by omega)
  exact ⟨(i.fmod n).toNat, by omega, by omega⟩
theorem ok_law_draw (T : Top K w mg) : FnOk P w K mg base CX0 1 T.d__law_draw.f T.d__law_draw.fd ["_law_script", "_law_town", "_law_many"] (spDraw K) := by
  refine T.d__law_draw.F.ok sc_law_draw (fun vs H Q E h => ?_) (fun cdv A outer s H vs Q E hr h => ?_)
  · obtain ⟨a, t, ns, n, rfl, _⟩ := h
    rfl
  obtain ⟨a, t, ns, n, rfl, hs, hl, ⟨p, q, ht, hp, hq⟩, hn, hn2, hat, k⟩ := h
  have hu := hr.units
  refine ⟨_, pss_cons (ps_if (pt_cmpR op_gt (pe_ix (ixL (K := K)) (pv 1) (pe_int) (fun _ _ => rfl)) (pe_int) (nomark _)) (pss_cons (ps_set (i := 3) sc_law_draw.nd rfl (Or.inl rfl) (pe_op op_modN (pe_ix (ixL (K := K)) (pv 1) (pe_int) (fun _ _ => rfl)) (pv 2)))
    (pss_cons (ps_asg (pe_op op_fdivN (pe_ix (ixL (K := K)) (pv 1) (pe_int) (fun _ _ => rfl)) (pv 2)) (pg_sub (pv 1) (pe_int) set_list))
    (pss_one (ps_ret (pv 3))))) (pss_nil))
    (pss_cons (ps_set (i := 4) sc_law_draw.nd rfl (Or.inl rfl) (pe_ix (ixL (K := K)) (pv 1) (pe_int) (fun _ _ => rfl)))
    (pss_cons (ps_augS (pv 1) (pe_int) (getL (K := K)) (pe_int) ip_add set_list)
    (pss_cons (ps_if (pt_cmpR (eqL (K := K) hu) (pv 0) (pe_lst (pa_nil)) (nomark _)) (pss_one (ps_ret (pe_op op_modN (pv 4) (pv 2)))) (pss_nil))
    (pss_cons (ps_if (PW.pt (pw_and (pt_cmpR op_lt (pv 4) (pe_callB (lenK (K := K)) (by rfl) T.b_len PySem.boot_len (pa_cons (pv 0) (pa_nil))) (nomark _)) (pw_and1 (pt_cmpR op_ge (pe_ix (ixL (K := K)) (pv 0) (pv 4) (fun _ _ => rfl)) (pe_op op_pow (pe_int) (pe_int)) (nomark _))))) (pss_cons (ps_asg (pe_op op_modN (pe_op op_fdivN (pe_ix (ixL (K := K)) (pv 0) (pv 4) (fun _ _ => rfl)) (pv 2)) (pe_op op_mulW (pe_op op_pow pe_int pe_int) (pe_op op_pow pe_int pe_int))) (pg_sub (pv 1) (pe_int) set_list))
    (pss_one (ps_ret (pe_op op_modN (pe_ix (ixL (K := K)) (pv 0) (pv 4) (fun _ _ => rfl)) (pv 2))))) (pss_nil))
    (pss_cons (ps_set (i := 5) sc_law_draw.nd rfl (Or.inl rfl) (pe_op op_modN (pe_op op_add (pe_op op_add (pe_op op_mul (pe_ix (ixL (K := K)) (pv 0) (pe_op op_modN (pv 4) (pe_callB (lenK (K := K)) (by rfl) T.b_len PySem.boot_len (pa_cons (pv 0) (pa_nil)))) (fun _ _ => rfl)) (pe_int)) (pe_op op_mul (pe_int) (pv 4))) (pe_int)) (pe_int)))
    (pss_one (ps_ret (pe_op op_modN (pe_op op_modN (pe_op op_modN (pe_op op_pow (pv 5) (pe_int)) (pe_int)) (pe_int)) (pv 2))))))))), ?_⟩
  have hnz : (n : Int) ≠ 0 := by omega
  have mt : t ∈ [t] := List.mem_cons_self ..
  have town : ∀ {H1 : Hp} {p' q' : Int}, Kp [t] H H1 → H1 t = some (.lst [.int p', .int q']) → 0 ≤ p' → 0 ≤ q' → ∀ i : Int, Q (.int (i.fmod n)) H1 := fun {H1 p' q'} kp h1 h2 h3 i => by
    obtain ⟨r, e, hr⟩ := fmod_nat i hn
    rw [e]
    exact k r H1 hr kp ⟨p', q', h1, h2, h3⟩
  refine ⟨_, rfl, t, _, _, _, rfl, rfl, SqL.of ht, atI_nat (j := 1) rfl, _, _, rfl, rfl, _, rfl, ite2 (fun h1 => ?_) (fun h1 => ?_)⟩
  · refine ⟨_, rfl, t, _, _, _, rfl, rfl, SqL.of ht, atI_nat (j := 1) rfl, _, rfl, _, _, rfl, rfl, hnz, ?_⟩
    refine ⟨_, rfl, t, _, _, _, rfl, rfl, SqL.of ht, atI_nat (j := 1) rfl, _, rfl, _, _, rfl, rfl, ⟨hnz, by omega⟩, ?_⟩
    refine ⟨_, rfl, t, _, _, 1, rfl, rfl, ht, rfl, ?_⟩
    refine ⟨_, rfl, ?_⟩
    exact town (Kp.put mt ht rfl) upd_same hp (Int.fdiv_nonneg hq (by omega)) q
  -- at = town[0]; town[0] += 1
  refine ⟨_, rfl, t, _, _, _, rfl, rfl, SqL.of ht, atI_nat (j := 0) rfl, ?_⟩
  refine ⟨_, rfl, t, _, 0, _, rfl, rfl, SqL.of ht, rfl, _, _, rfl, rfl, t, _, _, 0, rfl, rfl, ht, rfl, ?_⟩
  have k1 : Kp [t] H (upd H t (.lst [.int (p + 1), .int q])) := Kp.put mt ht rfl
  have t1 : (upd H t (.lst [.int (p + 1), .int q])) t = some (.lst [.int (p + 1), .int q]) := upd_same
  have s1 : SqL K (upd H t (.lst [.int (p + 1), .int q])) a (ns.map V.int) := hat.sql hs k1
  show (_ : Prop)
  generalize hH1 : upd H t (.lst [.int (p + 1), .int q]) = H1 at k1 t1 s1
  have e0 : upd H t (.lst ([V.int p, V.int q].set 0 (V.int (p + 1)))) = H1 := hH1
  rw [e0]
  -- script == []
  refine ⟨_, rfl, by show 0 ≤ sizeLine; decide, fun l hl1 => ?_⟩
  have k2 : Kp [] H1 (upd H1 l (.lst [])) := Kp.new hl1
  refine ⟨a, l, _, _, _, _, rfl, rfl, k2.sql s1, SqL.of upd_same, ints_dk ns, .nil, ints_ok ns, by simp [okA], ints_depth ns, Nat.zero_le _, _, rfl, ?_⟩
  have k3 := k1.trans k2.up
  have t3 := k2.at0 t1
  have s3 := k2.sql s1
  generalize upd H1 l (.lst []) = H3 at k3 t3 s3 ⊢
  refine ite2 (fun h2 => ?_) (fun h2 => ?_)
  · exact ⟨_, rfl, _, rfl, _, _, rfl, rfl, hnz, town k3 t3 (by omega) hq _⟩
  have hne : ns ≠ [] := fun z => h2 (decide_eq_true (by rw [z]; rfl))
  have hpos : 0 < ns.length := List.length_pos_iff.mpr hne
  -- at < len(script) and script[at] >= 10 ** 18
  refine ⟨_, rfl, _, rfl, a, _, rfl, .inl s3, _, _, rfl, rfl, _, rfl, ?_⟩
  rw [List.length_map]
  have item : ∀ {j : Nat}, (h : j < ns.length) → atI (ns.map V.int) (j : Int) = some (.int ns[j]) := fun {j} h => atI_nat (by rw [List.getElem?_map, List.getElem?_eq_getElem h]; rfl)
  obtain ⟨j, ej, hj⟩ := fmod_nat p hpos
  obtain ⟨x, ex, hx⟩ := fmod_nat (ns[j] * 1103515245 + 7919 * p + 12345) (n := 2147483647) (by decide)
  by_cases h3 : p < (ns.length : Int)
  · refine iteD h3 ?_
    have hj2 : p.toNat < ns.length := by omega
    have it := item hj2
    rw [show ((p.toNat : Nat) : Int) = p by omega] at it
    refine ⟨_, rfl, _, rfl, a, _, _, _, rfl, rfl, s3, it, _, _, rfl, rfl, ⟨by decide, by decide, by decide⟩, _, _, rfl, rfl, _, rfl, ?_⟩
    refine ite2 (fun h4 => ?_) (fun h4 => ?_)
    · refine ⟨_, rfl, _, rfl, a, _, _, _, rfl, rfl, s3, it, _, rfl, _, _, rfl, rfl, ⟨hnz, by omega⟩, _, _, rfl, rfl, ⟨by decide, by decide, by decide⟩, _, _, rfl, rfl, ⟨by decide, by decide, by decide⟩, _, _, rfl, rfl, wide_mul (a := 250) (b := 250) (by decide) (by decide) (by decide) (by decide) (by decide), _, _, rfl, rfl, (show (10 ^ (60 : Int).toNat * 10 ^ (60 : Int).toNat : Int) ≠ 0 from by decide), ?_⟩
      refine ⟨_, rfl, t, _, _, 1, rfl, rfl, t3, rfl, ?_⟩
      have hat3 : SqL K (upd H3 t (.lst ([V.int (p + 1), V.int q].set 1 (V.int ((ns[p.toNat].fdiv n).fmod (10 ^ (60 : Int).toNat * 10 ^ (60 : Int).toNat)))))) a (ns.map V.int) := hat.sql s3 (Kp.put mt t3 rfl)
      refine ⟨_, rfl, _, rfl, a, _, _, _, rfl, rfl, hat3, it, _, rfl, _, _, rfl, rfl, hnz, ?_⟩
      exact town (k3.trans (Kp.put mt t3 rfl)) upd_same (by omega) (Int.fmod_nonneg_of_pos _ (by decide)) _
    · refine ⟨_, rfl, _, rfl, _, rfl, a, _, rfl, .inl s3, _, _, rfl, rfl, (by rw [List.length_map]; omega), a, _, _, _, rfl, rfl, s3, (by rw [List.length_map, ej]; exact item hj), ?_⟩
      refine ⟨_, _, rfl, rfl, .inr ⟨by decide, by decide⟩, _, rfl, _, _, rfl, rfl, .inl ⟨by decide, by decide⟩, _, _, rfl, rfl, _, _, rfl, rfl, _, _, rfl, rfl, (show (2147483647 : Int) ≠ 0 by decide), ?_⟩
      refine ⟨_, rfl, _, _, rfl, rfl, ⟨by decide, by decide, (by show ((ns[j] * 1103515245 + 7919 * p + 12345).fmod ((2147483647 : Nat) : Int)).natAbs < 2 ^ 64; rw [ex]; omega)⟩, _, _, rfl, rfl, (show (2147483647 : Int) ≠ 0 by decide), _, _, rfl, rfl, (show (999983 : Int) ≠ 0 by decide), _, rfl, _, _, rfl, rfl, hnz, town k3 t3 (by omega) hq _⟩
  · refine iteN h3 ?_
    refine ⟨_, rfl, _, rfl, _, rfl, a, _, rfl, .inl s3, _, _, rfl, rfl, (by rw [List.length_map]; omega), a, _, _, _, rfl, rfl, s3, (by rw [List.length_map, ej]; exact item hj), ?_⟩
    refine ⟨_, _, rfl, rfl, .inr ⟨by decide, by decide⟩, _, rfl, _, _, rfl, rfl, .inl ⟨by decide, by decide⟩, _, _, rfl, rfl, _, _, rfl, rfl, _, _, rfl, rfl, (show (2147483647 : Int) ≠ 0 by decide), ?_⟩
    refine ⟨_, rfl, _, _, rfl, rfl, ⟨by decide, by decide, (by show ((ns[j] * 1103515245 + 7919 * p + 12345).fmod ((2147483647 : Nat) : Int)).natAbs < 2 ^ 64; rw [ex]; omega)⟩, _, _, rfl, rfl, (show (2147483647 : Int) ≠ 0 by decide), _, _, rfl, rfl, (show (999983 : Int) ≠ 0 by decide), _, rfl, _, _, rfl, rfl, hnz, town k3 t3 (by omega) hq _⟩
end
end Px

set_option maxRecDepth 100000
set_option maxHeartbeats 4000000
/-! PxL2: the law's pick. -/
namespace Px
open PySem PySem.Spec PyProof.Rows L2
section
variable {P : Program} {w : World} {K : PySem.W.Frag} {mg : Str → Option Value} {base : Heap}
/-- a list, a tuple or a text of these -/
def SomeAt (K : PySem.W.Frag) (H : Hp) (x : V) (xs : List V) : Prop := (∃ p, x = .ref p ∧ SqL K H p xs) ∨ (∃ p, x = .ref p ∧ SqT K H p xs) ∨ ∃ z : T, x = .str (S z) ∧ xs = z.map fun c => .str (S [c])
theorem Kp.sqlN {H H1 : Hp} {L : List Addr} {a : Addr} {xs : List V} (x : Kp L H H1) (n : a ∉ L) (h : SqL K H a xs) : SqL K H1 a xs := by
  rcases h with (h | ⟨ob, h⟩) | h
  · exact .inl (.inl (x.keep _ _ n h))
  · exact .inl (.inr ⟨ob, x.keep _ _ n h⟩)
  · exact .inr h
theorem SomeAt.kp {H H1 : Hp} {t : Addr} {x : V} {xs : List V} (k : Kp [t] H H1) (n : x ≠ .ref t) (h : SomeAt K H x xs) : SomeAt K H1 x xs := by
  rcases h with ⟨p, rfl, h⟩ | ⟨p, rfl, h⟩ | h
  · exact .inl ⟨p, rfl, k.sqlN (fun z => n (by rw [List.mem_singleton.mp z])) h⟩
  · exact .inr (.inl ⟨p, rfl, k.sqt h⟩)
  · exact .inr (.inr h)
theorem rIx_some {H : Hp} {x : V} {xs : List V} {i : Nat} {v : V} {Q : VK} (h : SomeAt K H x xs) (hl : xs.length ≤ 1000) (hi : xs[i]? = some v) (q : Q v H) : rIx K x (.int i) H Q := by
  rcases h with ⟨p, rfl, h⟩ | ⟨p, rfl, h⟩ | ⟨z, rfl, rfl⟩
  · exact .inl ⟨p, xs, i, v, rfl, rfl, h, atI_nat hi, q⟩
  · exact .inr (.inl ⟨p, xs, i, v, rfl, rfl, h, atI_nat hi, q⟩)
  · rw [List.getElem?_map] at hi
    obtain ⟨c, hc, rfl⟩ := Option.map_eq_some_iff.mp hi
    rw [List.length_map] at hl
    exact .inr (.inr ⟨S z, i, c, rfl, rfl, by rw [S_len]; exact Nat.le_of_lt (small1000 hl), atI_nat (by rw [S_cps]; exact hc), q⟩)
theorem ixS {X : Cx} (h : X.K = K := by rfl) : IxR X (rIx K) := h ▸ ix_seq
def rLenA (K : PySem.W.Frag) : List V → Hp → VK → Prop := fun xs H Q => ∃ x n, xs = [x] ∧ LenV K x H n ∧ Q (.int n) H
theorem lenA {X : Cx} (h : X.K = K := by rfl) : CallR X (.builtin "len") (rLenA K) := h ▸ call_len
theorem len_some {H : Hp} {x : V} {xs : List V} (h : SomeAt K H x xs) (hl : xs.length ≤ 1000) : LenV K x H (xs.length : Nat) := by
  rcases h with ⟨p, rfl, h⟩ | ⟨p, rfl, h⟩ | ⟨z, rfl, rfl⟩
  · exact .inl ⟨_, h, rfl⟩
  · exact .inr ⟨_, h, rfl⟩
  · rw [List.length_map] at hl
    exact ⟨by rw [S_len]; exact Nat.le_of_lt (small1000 hl), by rw [S_len, List.length_map]⟩
def spPick (K : PySem.W.Frag) : Sp := fun vs H Q _ => ∃ (a t : Addr) (ns : List Int) (x : V) (xs : List V), vs = [.ref a, .ref t, x] ∧ SqL K H a (ns.map V.int) ∧ ns.length ≤ 1000 ∧ TownAt H t ∧ Off K a t ns ∧ SomeAt K H x xs ∧ x ≠ .ref t ∧ 0 < xs.length ∧ xs.length ≤ 1000 ∧
  ∀ v H', v ∈ xs → Kp [t] H H' → TownAt H' t → Q v H'
theorem sc_law_pick : FnScope ["_law_script", "_law_town", "_law_some"] ["_law_script", "_law_town", "_law_some"] (defScope s__law_pick) := ⟨rfl, rfl, rfl, by decide +kernel, rfl, by decide +kernel, by decide +kernel⟩
theorem ok_law_pick (T : Top K w mg) : FnOk P w K mg base CX0 2 T.d__law_pick.f T.d__law_pick.fd ["_law_script", "_law_town", "_law_some"] (spPick K) := by
  refine T.d__law_pick.F.ok sc_law_pick (fun vs H Q E h => ?_) (fun cdv A outer s H vs Q E hr h => ?_)
  · obtain ⟨a, t, ns, x, xs, rfl, _⟩ := h
    rfl
  obtain ⟨a, t, ns, x, xs, rfl, hs, hl, ht, hat, hx, hxt, h0, h1, q⟩ := h
  refine ⟨_, pss_one (ps_ret (pe_ix (ixS (K := K)) (pv 2) (pe_call (ok_law_draw (P := P) (base := base) T) hr (by rfl) T.d__law_draw.m T.d__law_draw.F.kp T.d__law_draw.b .nil pass0 (pa_cons (pv 0) (pa_cons (pv 1) (pa_cons (pe_callB (lenA (K := K)) (by rfl) T.b_len PySem.boot_len (pa_cons (pv 2) pa_nil)) pa_nil)))) (fun _ _ => rfl))), ?_⟩
  refine ⟨_, rfl, _, rfl, _, rfl, _, rfl, x, _, rfl, len_some hx h1, ?_⟩
  refine ⟨a, t, ns, xs.length, rfl, hs, hl, ht, h0, by omega, hat, fun r H1 hr1 k1 t1 => ?_⟩
  exact rIx_some (hx.kp k1 hxt) h1 (List.getElem?_eq_getElem hr1) (q _ _ (List.getElem_mem hr1) k1 t1)
end
end Px

set_option maxRecDepth 100000
set_option maxHeartbeats 4000000
/-! PxL3: law k19's own sums: power, placed, runs, without. -/
namespace Px
open PySem PySem.Spec PyProof.Rows L2
section
variable {P : Program} {w : World} {K : PySem.W.Frag} {mg : Str → Option Value} {base : Heap}
theorem take_range {n i : Nat} (h : i < n) : (List.range n).take (i + 1) = (List.range n).take i ++ [i] := by
  rw [List.take_add_one, List.getElem?_range h]
  rfl
/-! ### power -/
def spPower : Sp := fun vs H Q _ => ∃ b n : Nat, vs = [.int b, .int n] ∧ b ≤ 1000 ∧ n ≤ 1000 ∧ Q (.int (b ^ n : Nat)) H
theorem sc_law_power : FnScope ["_law_base", "_law_many", "_law_found", "_law_k"] ["_law_base", "_law_many"] (defScope s__law_power) := ⟨rfl, rfl, rfl, by decide +kernel, rfl, by decide +kernel, by decide +kernel⟩
theorem ok_law_power (T : Top K w mg) : FnOk P w K mg base CX0 1 T.d__law_power.f T.d__law_power.fd ["_law_base", "_law_many"] spPower := by
  refine T.d__law_power.F.ok sc_law_power (fun vs H Q E h => ?_) (fun cdv A outer s H vs Q E hr h => ?_)
  · obtain ⟨b, n, rfl, _⟩ := h
    rfl
  obtain ⟨b, n, rfl, hb, hn, q⟩ := h
  refine ⟨_, pss_cons (ps_set (i := 2) sc_law_power.nd rfl (Or.inl rfl) (pe_int))
    (pss_cons (ps_for PassesOwn.never rfl (pi_range1 (by rfl) T.b_range (pa_cons (pv 1) (pa_nil))) (pg_name (i := 3) sc_law_power.nd rfl (Or.inl rfl))
    (pss_one (ps_set (i := 2) sc_law_power.nd rfl (Or.inl rfl) (pe_op op_mul (pv 2) (pv 0)))))
    (pss_one (ps_ret (pv 2)))), ?_⟩
  refine ⟨_, rfl, (n : Int), rfl, by omega, by omega, ?_⟩
  refine for_it (walk_range (lo := 0) (n := (n : Int).toNat)) (fun i σ H1 => H1 = H ∧ ∃ u : Option V, σ = [some (.int b), some (.int n), some (.int (b ^ i : Nat)), u]) ⟨rfl, none, rfl⟩ (fun _ _ _ _ _ => trivial) ?_ ?_
  · rintro i x σ H1 H' hi ⟨rfl, u, rfl⟩ ⟨rfl, rfl⟩
    refine ⟨_, rfl, _, rfl, _, _, rfl, rfl, .inr ⟨by omega, by omega⟩, rfl, some (.int (0 + (i : Nat))), ?_⟩
    show [some (V.int b), some (V.int n), some (V.int (((b ^ i : Nat) : Int) * (b : Int))), some (V.int (0 + (i : Nat)))] = _
    rw [Nat.pow_succ, Int.natCast_mul]
  · rintro σ H1 ⟨rfl, u, rfl⟩
    rw [Int.toNat_natCast]
    exact ⟨_, rfl, q⟩
/-! ### placed -/
def placedStep (size : Nat) (f : Int) (k : Nat) : Int := (f * ((size : Int) - k)).fdiv ((k : Int) + 1)
def placed (many rest size number : Nat) : Int := (List.range number).foldl (placedStep size) 1 * ((many ^ number : Nat) : Int) * ((rest ^ (size - number) : Nat) : Int)
def spPlaced : Sp := fun vs H Q _ => ∃ many rest size number : Nat, vs = [.int many, .int rest, .int size, .int number] ∧ many ≤ 5 ∧ rest ≤ 5 ∧ size ≤ 14 ∧ number ≤ size ∧ Q (.int (placed many rest size number)) H
theorem sc_law_placed : FnScope ["_law_many", "_law_rest", "_law_size", "_law_number", "_law_found", "_law_k"] ["_law_many", "_law_rest", "_law_size", "_law_number"] (defScope s__law_placed) := ⟨rfl, rfl, rfl, by decide +kernel, rfl, by decide +kernel, by decide +kernel⟩
theorem pow_small {b n : Nat} (hb : b ≤ 5) (hn : n ≤ 14) : b ^ n < 10000000000 := by
  have h1 : b ^ n ≤ 5 ^ n := Nat.pow_le_pow_left hb n
  have h2 : 5 ^ n ≤ 5 ^ 14 := Nat.pow_le_pow_right (by decide) hn
  have h3 : (5 : Nat) ^ 14 < 10000000000 := by decide
  omega
theorem ok_law_placed (T : Top K w mg) : FnOk P w K mg base CX0 2 T.d__law_placed.f T.d__law_placed.fd ["_law_many", "_law_rest", "_law_size", "_law_number"] spPlaced := by
  refine T.d__law_placed.F.ok sc_law_placed (fun vs H Q E h => ?_) (fun cdv A outer s H vs Q E hr h => ?_)
  · obtain ⟨a, b, c, d, rfl, _⟩ := h
    rfl
  obtain ⟨many, rest, size, number, rfl, h1, h2, h3, h4, q⟩ := h
  refine ⟨_, pss_cons (ps_set (i := 4) sc_law_placed.nd rfl (Or.inl rfl) (pe_int))
    (pss_cons (ps_for PassesOwn.never rfl (pi_range1 (by rfl) T.b_range (pa_cons (pv 3) (pa_nil))) (pg_name (i := 5) sc_law_placed.nd rfl (Or.inl rfl))
    (pss_one (ps_set (i := 4) sc_law_placed.nd rfl (Or.inl rfl) (pe_op op_fdivN (pe_op op_mul (pv 4) (pe_op op_sub (pv 2) (pv 5))) (pe_op op_add (pv 5) (pe_int))))))
    (pss_one (ps_ret (pe_ifExp (pt_cmpR op_le (pv 3) (pv 2) (nomark _)) (pe_op op_mul (pe_op op_mul (pv 4) (pe_call (ok_law_power (P := P) (base := base) T) hr (by rfl) T.d__law_power.m T.d__law_power.F.kp T.d__law_power.b .nil pass0 (pa_cons (pv 0) (pa_cons (pv 3) (pa_nil))))) (pe_call (ok_law_power (P := P) (base := base) T) hr (by rfl) T.d__law_power.m T.d__law_power.F.kp T.d__law_power.b .nil pass0 (pa_cons (pv 1) (pa_cons (pe_op op_sub (pv 2) (pv 3)) (pa_nil))))) (pe_int))))), ?_⟩
  refine ⟨_, rfl, (number : Int), rfl, by omega, by omega, ?_⟩
  refine for_it (walk_range (lo := 0) (n := (number : Int).toNat)) (fun i σ H1 => H1 = H ∧ ∃ u : Option V, σ = [some (.int many), some (.int rest), some (.int size), some (.int number), some (.int (((List.range number).take i).foldl (placedStep size) 1)), u]) ⟨rfl, none, rfl⟩ (fun _ _ _ _ _ => trivial) ?_ ?_
  · rintro i x σ H1 H' hi ⟨rfl, u, rfl⟩ ⟨rfl, rfl⟩
    rw [Int.toNat_natCast] at hi
    refine ⟨_, rfl, _, rfl, _, rfl, _, _, rfl, rfl, _, _, rfl, rfl, .inr ⟨by omega, by omega⟩, _, rfl, _, _, rfl, rfl, _, _, rfl, rfl, ⟨by omega, by omega⟩, rfl, some (.int (0 + (i : Nat))), ?_⟩
    rw [take_range hi, List.foldl_append]
    show [_, _, _, _, some (V.int ((((List.range number).take i).foldl (placedStep size) 1 * ((size : Int) - (0 + (i : Nat)))).fdiv ((0 + (i : Nat)) + 1))), some (V.int (0 + (i : Nat)))] = _
    rw [Int.zero_add]
    rfl
  · rintro σ H1 ⟨rfl, u, rfl⟩
    rw [Int.toNat_natCast, List.take_of_length_le (by simp)]
    refine ⟨_, rfl, _, rfl, _, _, rfl, rfl, _, rfl, iteD (by omega) ?_⟩
    have p1 := pow_small (n := number) h1 (by omega)
    have p2 := pow_small (n := size - number) h2 (by omega)
    refine ⟨_, rfl, _, rfl, _, rfl, many, number, rfl, by omega, by omega, _, _, rfl, rfl, .inr ⟨by omega, by omega⟩, ?_⟩
    refine ⟨_, rfl, _, rfl, _, rfl, _, _, rfl, rfl, rest, size - number, ?_, by omega, by omega, _, _, rfl, rfl, .inr ⟨by omega, by omega⟩, ?_⟩
    · show [V.int rest, V.int ((size : Int) - (number : Int))] = _
      rw [Int.ofNat_sub h4]
    · exact q
/-! ### runs -/
def runsIn (both most n : Nat) (l : List Int) : Int := (List.range (min most n)).foldl (fun s j => s + l.getD (n - (1 + j)) 0 * (if 1 + j = n then (both : Int) else (both : Int) - 1)) 0
def runsL (both most : Nat) : Nat → List Int
  | 0 => [1]
  | n + 1 => runsL both most n ++ [runsIn both most (n + 1) (runsL both most n)]
theorem runsL_len (both most : Nat) : ∀ n, (runsL both most n).length = n + 1
  | 0 => rfl
  | n + 1 => by
    rw [runsL, List.length_append, runsL_len both most n]
    rfl
def spRuns : Sp := fun vs H Q _ => ∃ both size most : Nat, vs = [.int both, .int size, .int most] ∧ both ≤ 100 ∧ size ≤ 100 ∧ most ≤ 100 ∧ ∀ H', Kp [] H H' → Q (.int ((runsL both most size).getD size 0)) H'
theorem sc_law_runs : FnScope ["_law_both", "_law_size", "_law_most", "_law_numbers", "_law_length", "_law_summed", "_law_block"] ["_law_both", "_law_size", "_law_most"] (defScope s__law_runs) := ⟨rfl, rfl, rfl, by decide +kernel, rfl, by decide +kernel, by decide +kernel⟩
theorem ok_law_runs (T : Top K w mg) : FnOk P w K mg base CX0 1 T.d__law_runs.f T.d__law_runs.fd ["_law_both", "_law_size", "_law_most"] spRuns := by
  refine T.d__law_runs.F.ok sc_law_runs (fun vs H Q E h => ?_) (fun cdv A outer s H vs Q E hr h => ?_)
  · obtain ⟨a, b, c, rfl, _⟩ := h
    rfl
  obtain ⟨both, size, most, rfl, h1, h2, h3, q⟩ := h
  refine ⟨_, pss_cons (ps_set (i := 3) sc_law_runs.nd rfl (Or.inl rfl) (pe_lst (pa_cons (pe_int) (pa_nil))))
    (pss_cons (ps_for PassesOwn.never rfl (pi_range2 (by rfl) T.b_range (pa_cons (pe_int) (pa_cons (pe_op op_add (pv 1) (pe_int)) (pa_nil)))) (pg_name (i := 4) sc_law_runs.nd rfl (Or.inl rfl))
    (pss_cons (ps_set (i := 5) sc_law_runs.nd rfl (Or.inl rfl) (pe_int))
    (pss_cons (ps_for PassesOwn.never rfl (pi_range2 (by rfl) T.b_range (pa_cons (pe_int) (pa_cons (pe_op op_add (pe_callB (call_min2 rfl) (by rfl) T.b_min (by decide +kernel) (pa_cons (pv 2) (pa_cons (pv 4) (pa_nil)))) (pe_int)) (pa_nil)))) (pg_name (i := 6) sc_law_runs.nd rfl (Or.inl rfl))
    (pss_one (ps_set (i := 5) sc_law_runs.nd rfl (Or.inl rfl) (pe_op op_add (pv 5) (pe_op op_mul (pe_ix (ixL (K := K)) (pv 3) (pe_op op_sub (pv 4) (pv 6)) (fun _ _ => rfl)) (pe_ifExp (pt_cmpR op_eq (pv 6) (pv 4) (nomark _)) (pv 0) (pe_op op_sub (pv 0) (pe_int))))))))
    (pss_one (ps_expr (pe_bm PySem.F.plainAttrs_list PySem.F.slot_list_append PySem.F.type_list_append mt_append (pv 3) (pa_cons (pv 5) (pa_nil))))))))
    (pss_one (ps_ret (pe_ix (ixL (K := K)) (pv 3) (pv 1) (fun _ _ => rfl))))), ?_⟩
  refine ⟨by show 1 ≤ sizeLine; decide, fun D nD => ?_⟩
  refine ⟨_, rfl, _, _, rfl, rfl, (1 : Int), (size : Int) + 1, rfl, ⟨by omega, by omega, by omega, by omega⟩, ?_⟩
  have en : ((size : Int) + 1 - 1).toNat = size := by omega
  rw [en]
  refine for_it (walk_range (lo := 1) (n := size)) (fun i σ H1 => Kp [D] H H1 ∧ H1 D = some (.lst ((runsL both most i).map V.int)) ∧ ∃ u1 u2 u3 : Option V, σ = [some (.int both), some (.int size), some (.int most), some (.ref D), u1, u2, u3]) ⟨Kp.new nD, upd_same, none, none, none, rfl⟩ (fun _ _ _ _ _ => trivial) ?_ ?_
  · rintro i x σ H1 H' hi ⟨k1, d1, u1, u2, u3, rfl⟩ ⟨rfl, rfl⟩
    have hl := runsL_len both most i
    have emin : ((if (1 + (i : Int)) < (most : Int) then (1 + (i : Int)) else (most : Int)) + 1 - 1).toNat = min most (i + 1) := by
      split <;> omega
    refine ⟨_, rfl, _, rfl, _, _, rfl, _, _, rfl, rfl, (1 : Int), _, rfl, ⟨by omega, by omega, by split <;> omega, by split <;> omega⟩, ?_⟩
    rw [emin]
    let g : Int → Nat → Int := fun s j => s + (runsL both most i).getD (i + 1 - (1 + j)) 0 * (if 1 + j = i + 1 then (both : Int) else (both : Int) - 1)
    refine for_it (walk_range (lo := 1) (n := min most (i + 1))) (fun j σ H1 => H1 = H' ∧ ∃ u : Option V, σ = [some (.int both), some (.int size), some (.int most), some (.ref D), some (.int (1 + (i : Nat))), some (.int (((List.range (min most (i + 1))).take j).foldl g 0)), u]) ⟨rfl, u3, rfl⟩ (fun _ _ _ _ _ => trivial) ?_ ?_
    · rintro j x σ H1 H2 hj ⟨rfl, u, rfl⟩ ⟨rfl, rfl⟩
      refine ⟨_, rfl, _, rfl, _, rfl, _, rfl, _, _, rfl, rfl, D, _, _, .int ((runsL both most i).getD (i + 1 - (1 + j)) 0), rfl, rfl, SqL.of d1, ?_, ?_⟩
      · rw [show ((1 : Int) + (i : Nat)) - (1 + (j : Nat)) = ((i + 1 - (1 + j) : Nat) : Int) by omega]
        refine atI_nat ?_
        rw [List.getElem?_map, List.getD_eq_getElem?_getD, List.getElem?_eq_getElem (by omega)]
        rfl
      refine ⟨_, rfl, _, rfl, rfl, _, rfl, ?_⟩
      have st : ((List.range (min most (i + 1))).take (j + 1)).foldl g 0 = g (((List.range (min most (i + 1))).take j).foldl g 0) j := by
        rw [take_range hj, List.foldl_append]
        rfl
      refine ite2 (fun hb => ?_) (fun hb => ?_)
      · have hb : (1 : Int) + (j : Nat) = 1 + (i : Nat) := V.int.inj (of_decide_eq_true hb)
        refine ⟨_, rfl, _, _, rfl, rfl, .inr ⟨by omega, by omega⟩, _, _, rfl, rfl, rfl, some (.int (1 + (j : Nat))), ?_⟩
        rw [st]
        show _ = [_, _, _, _, _, some (V.int (_ + _ * (if 1 + j = i + 1 then (both : Int) else (both : Int) - 1))), _]
        rw [if_pos (by omega)]
        rfl
      · have hb : ¬ (1 : Int) + (j : Nat) = 1 + (i : Nat) := fun z => hb (decide_eq_true (show V.int ((1 : Int) + (j : Nat)) = V.int (1 + (i : Nat)) by rw [z]))
        refine ⟨_, rfl, _, _, rfl, rfl, _, _, rfl, rfl, .inr ⟨by omega, by omega⟩, _, _, rfl, rfl, rfl, some (.int (1 + (j : Nat))), ?_⟩
        rw [st]
        show _ = [_, _, _, _, _, some (V.int (_ + _ * (if 1 + j = i + 1 then (both : Int) else (both : Int) - 1))), _]
        rw [if_neg (by omega)]
        rfl
    · rintro σ H1 ⟨rfl, u, rfl⟩
      rw [List.take_of_length_le (by simp)]
      refine ⟨_, rfl, .inl ⟨rfl, _, SqL.of d1⟩, _, rfl, D, _, _, rfl, rfl, d1, by rw [List.length_map]; exact small1000 (by omega), ?_⟩
      refine ⟨k1.trans (Kp.put (List.mem_cons_self ..) d1 rfl), ?_, _, _, _, rfl⟩
      rw [upd_same, runsL, List.map_append]
      rfl
  · rintro σ H1 ⟨k1, d1, u1, u2, u3, rfl⟩
    have hl := runsL_len both most size
    refine ⟨_, rfl, _, rfl, D, _, _, _, rfl, rfl, SqL.of d1, atI_nat (j := size) (v := .int ((runsL both most size).getD size 0)) ?_, q _ (k1.drop1 nD)⟩
    rw [List.getElem?_map, List.getD_eq_getElem?_getD, List.getElem?_eq_getElem (by omega)]
    rfl
end
end Px

set_option maxRecDepth 100000
set_option maxHeartbeats 4000000
/-! PxL4: law k19's _law_without. -/
namespace Px
open PySem PySem.Spec PyProof.Rows L2
/-- [e for .. in .. if t]: kept or not by the turn -/
theorem lc_opt {J : It} {n : Nat} {G : Hp → Prop} {Y : Nat → Hp → V → Hp → Prop} (w : Walk J n G Y) (L : List Addr) (f : Nat → Option V) {g : TG} {tt : TT} {te : TE} {vs : List Nat} {σ : L2.St} {H1 : Hp} {D : Addr} {Qd : Hp → Prop} (hn : n ≤ 1000) (nD : H1 D = none) (hDL : D ∉ L) (hG : ∀ H, Kp (D :: L) H1 H → G H)
    (hs : ∀ i x H H' (Z : V → Hp → Prop) (N : Hp → Prop), i < n → Kp (D :: L) H1 H → Y i H x H' → (∀ v H4, f i = some v → Kp L H H4 → Z v H4) → (∀ H4, f i = none → Kp L H H4 → N H4) →
      g x (wipe σ vs) H' fun σ2 H2 => wipe σ2 vs = wipe σ vs ∧ tt σ2 H2 fun b H3 => if b = true then te σ2 H3 Z else N H3)
    (hd : ∀ H, Kp (D :: L) H1 H → H D = some (.lst ((List.range n).filterMap f)) → Qd H) :
    ∃ W : Nat → Nat → Hp → Prop, (∃ m, W 0 m (upd H1 D (.lst []))) ∧ ∀ i m H, W i m H →
      (J.stop i H ∧ Qd H) ∨ (J.go i H ∧ ∃ Nx : Hp → Prop, (∀ H', Nx H' → ∃ m', m' < m ∧ W (i + 1) m' H') ∧ ∀ x H', J.yld i H x H' → g x (wipe σ vs) H' fun σ2 H2 => wipe σ2 vs = wipe σ vs ∧ tt σ2 H2 fun b H3 =>
        if b = true then te σ2 H3 fun y H4 => ∃ acc, H4 D = some (.lst acc) ∧ acc.length < sizeLine ∧ Nx (upd H4 D (.lst (acc ++ [y]))) else Nx H3) := by
  have len : ∀ i, (((List.range n).take i).filterMap f).length ≤ i := fun i => Nat.le_trans (List.length_filterMap_le ..) (by rw [List.length_take]; omega)
  refine lc_it (tt := tt) w (fun i H => Kp (D :: L) H1 H ∧ H D = some (.lst (((List.range n).take i).filterMap f))) ⟨Kp.new nD, upd_same⟩ (fun i H _ q => hG H q.1) ?_ (fun H q => ?_)
  · rintro i x H H' hi ⟨k, hD⟩ y
    refine hs i x H H' _ _ hi k y (fun v H4 e kk => ?_) (fun H4 e kk => ?_)
    · have hD4 := kk.keep D _ hDL hD
      refine ⟨_, hD4, small1000 (Nat.le_trans (len i) (by omega)), k.trans ((kk.mono fun b m => List.mem_cons_of_mem _ m).trans (Kp.put (List.mem_cons_self ..) hD4 rfl)), ?_⟩
      rw [upd_same, take_range hi, List.filterMap_append]
      simp [e]
    · refine ⟨k.trans (kk.mono fun b m => List.mem_cons_of_mem _ m), ?_⟩
      rw [kk.keep D _ hDL hD, take_range hi, List.filterMap_append]
      simp [e]
  · rw [List.take_of_length_le (by simp)] at q
    exact hd H q.1 q.2
def shiftAt (t : T) (i : Nat) : Option Nat := if t.drop (1 + i) = t.take (t.length - (1 + i)) then some (1 + i) else none
def shifts (t : T) : List Nat := (List.range (t.length - 1)).filterMap (shiftAt t)
def hereIn (both tl : Nat) (sh : List Nat) (ends : List Int) (n : Nat) (h : Int) (b : Nat) : Int :=
  if tl ≤ n - b then h - ends.getD b 0 * ((both ^ (n - b - tl) : Nat) : Int) else if n - b ∈ sh then h - ends.getD b 0 else h
def here (both tl : Nat) (sh : List Nat) (ends : List Int) (n : Nat) : Int :=
  if tl ≤ n then (List.range n).foldl (hereIn both tl sh ends n) ((both ^ (n - tl) : Nat) : Int) else 0
def endsL (both tl : Nat) (sh : List Nat) : Nat → List Int
  | 0 => []
  | n + 1 => endsL both tl sh n ++ [here both tl sh (endsL both tl sh n) n]
def without (both size : Nat) (t : T) : Int := ((both ^ size : Nat) : Int) - ((List.range (size + 1)).map fun i => (endsL both t.length (shifts t) (size + 1)).getD i 0 * ((both ^ (size - i) : Nat) : Int)).sum
theorem endsL_len (both tl : Nat) (sh : List Nat) : ∀ n, (endsL both tl sh n).length = n
  | 0 => rfl
  | n + 1 => by
    rw [endsL, List.length_append, endsL_len both tl sh n]
    rfl
theorem nats_dk {K : PySem.W.Frag} {H : Hp} : ∀ ns : List Nat, DkA K H (ns.map fun n => V.int (n : Nat)) (ns.map fun n => NestedKey.num (n : Nat))
  | [] => .nil
  | n :: ns => .cons (.num _) (nats_dk ns)
theorem nat_mem {x : Nat} {ns : List Nat} : (NestedKey.num (x : Nat) ∈ ns.map fun n => NestedKey.num (n : Nat)) ↔ x ∈ ns := by
  rw [List.mem_map]
  constructor
  · rintro ⟨y, hy, e⟩
    injection e with e
    rw [← Int.ofNat.inj e]
    exact hy
  · intro h
    exact ⟨x, h, rfl⟩
section
variable {P : Program} {w : World} {K : PySem.W.Frag} {mg : Str → Option Value} {base : Heap}
theorem pow_small9 {b n : Nat} (hb : b ≤ 9) (hn : n ≤ 14) : b ^ n < 100000000000000 := by
  have h1 : b ^ n ≤ 9 ^ n := Nat.pow_le_pow_left hb n
  have h2 : 9 ^ n ≤ 9 ^ 14 := Nat.pow_le_pow_right (by decide) hn
  have h3 : (9 : Nat) ^ 14 < 100000000000000 := by decide
  omega
def spWithout : Sp := fun vs H Q _ => ∃ (both size : Nat) (t : T), vs = [.int both, .int size, .str (S t)] ∧ both ≤ 9 ∧ size ≤ 14 ∧ 0 < t.length ∧ t.length ≤ 5 ∧ ∀ H', Kp [] H H' → Q (.int (without both size t)) H'
theorem sc_law_without : FnScope ["_law_both", "_law_size", "_law_text", "_law_shifts", "_law_ends", "_law_length", "_law_here", "_law_before", "_law_gap", "_law_at"] ["_law_both", "_law_size", "_law_text"] (defScope s__law_without) := ⟨rfl, rfl, rfl, by decide +kernel, rfl, by decide +kernel, by decide +kernel⟩
theorem ok_law_without (T : Top K w mg) : FnOk P w K mg base CX0 2 T.d__law_without.f T.d__law_without.fd ["_law_both", "_law_size", "_law_text"] spWithout := by
  refine T.d__law_without.F.ok sc_law_without (fun vs H Q E h => ?_) (fun cdv A outer s H vs Q E hr h => ?_)
  · obtain ⟨a, b, c, rfl, _⟩ := h
    rfl
  obtain ⟨both, size, t, rfl, h1, h2, h3, h4, q⟩ := h
  have hu := hr.units
  refine ⟨_, pss_cons (ps_setLc (i := 3) (own := [("_law_at", 9)]) (g := gName 9) rfl sc_law_without.nd rfl rfl (sw_true rfl rfl rfl (by decide +kernel)) (pi_range2 (by rfl) T.b_range (pa_cons (pe_int) (pa_cons (pe_callB call_len_str (by rfl) T.b_len PySem.boot_len (pa_cons (pv 2) (pa_nil))) (pa_nil)))) (blkOk_by (own := [("_law_at", 9)]) (N := ["_law_both", "_law_size", "_law_text", "_law_shifts", "_law_ends", "_law_length", "_law_here", "_law_before", "_law_gap", "_law_at"]) (sc := defScope s__law_without) (by decide +kernel)) (fun _ _ _ _ _ => pg_name (i := 9) sc_law_without.nd rfl (Or.inl rfl)) (fun _ _ _ _ _ => pts_one (pt_cmpR op_eq (pe_slice sl_str (pv 2) (po_some (pv 9)) po_none) (pe_slice sl_str (pv 2) po_none (po_some (pe_op op_sub (pe_callB call_len_str (by rfl) T.b_len PySem.boot_len (pa_cons (pv 2) (pa_nil))) (pv 9)))) (nomark _))) (fun _ _ _ _ _ => pv 9))
    (pss_cons (ps_set (i := 4) sc_law_without.nd rfl (Or.inr rfl) (pe_lst (pa_nil)))
    (pss_cons (ps_for PassesOwn.never rfl (pi_range1 (by rfl) T.b_range (pa_cons (pe_op op_add (pv 1) (pe_int)) (pa_nil))) (pg_name (i := 5) sc_law_without.nd rfl (Or.inl rfl))
    (pss_cons (ps_set (i := 6) sc_law_without.nd rfl (Or.inl rfl) (pe_int))
    (pss_cons (ps_if (pt_cmpR op_ge (pv 5) (pe_callB call_len_str (by rfl) T.b_len PySem.boot_len (pa_cons (pv 2) (pa_nil))) (nomark _)) (pss_cons (ps_set (i := 6) sc_law_without.nd rfl (Or.inl rfl) (pe_call (ok_law_power (P := P) (base := base) T) hr (by rfl) T.d__law_power.m T.d__law_power.F.kp T.d__law_power.b .nil pass0 (pa_cons (pv 0) (pa_cons (pe_op op_sub (pv 5) (pe_callB call_len_str (by rfl) T.b_len PySem.boot_len (pa_cons (pv 2) (pa_nil)))) (pa_nil)))))
    (pss_one (ps_for PassesOwn.never rfl (pi_range1 (by rfl) T.b_range (pa_cons (pv 5) (pa_nil))) (pg_name (i := 7) sc_law_without.nd rfl (Or.inl rfl))
    (pss_cons (ps_set (i := 8) sc_law_without.nd rfl (Or.inl rfl) (pe_op op_sub (pv 5) (pv 7)))
    (pss_one (ps_if (pt_cmpR op_ge (pv 8) (pe_callB call_len_str (by rfl) T.b_len PySem.boot_len (pa_cons (pv 2) (pa_nil))) (nomark _)) (pss_one (ps_set (i := 6) sc_law_without.nd rfl (Or.inl rfl) (pe_op op_sub (pv 6) (pe_op op_mul (pe_ix (ixL (K := K)) (pv 4) (pv 7) (fun _ _ => rfl)) (pe_call (ok_law_power (P := P) (base := base) T) hr (by rfl) T.d__law_power.m T.d__law_power.F.kp T.d__law_power.b .nil pass0 (pa_cons (pv 0) (pa_cons (pe_op op_sub (pv 8) (pe_callB call_len_str (by rfl) T.b_len PySem.boot_len (pa_cons (pv 2) (pa_nil)))) (pa_nil)))))))) (pss_one (ps_if (pt_cmpR (inK (K := K) hu) (pv 8) (pv 3) rfl) (pss_one (ps_set (i := 6) sc_law_without.nd rfl (Or.inl rfl) (pe_op op_sub (pv 6) (pe_ix (ixL (K := K)) (pv 4) (pv 7) (fun _ _ => rfl))))) (pss_nil))))))))) (pss_nil))
    (pss_one (ps_expr (pe_bm PySem.F.plainAttrs_list PySem.F.slot_list_append PySem.F.type_list_append mt_append (pv 4) (pa_cons (pv 6) (pa_nil))))))))
    (pss_one (ps_ret (pe_op op_sub (pe_call (ok_law_power (P := P) (base := base) T) hr (by rfl) T.d__law_power.m T.d__law_power.F.kp T.d__law_power.b .nil pass0 (pa_cons (pv 0) (pa_cons (pv 1) (pa_nil)))) (pe_callB (sumK (K := K) rfl) (by rfl) T.b_sum (by decide +kernel) (pa_cons (pe_lc (own := [("_law_length", 5)]) (g := gName 5) (tt := tYes) rfl sc_law_without.nd (pi_range1 (by rfl) T.b_range (pa_cons (pe_op op_add (pv 1) (pe_int)) (pa_nil))) (blkOk_by (own := [("_law_length", 5)]) (N := ["_law_both", "_law_size", "_law_text", "_law_shifts", "_law_ends", "_law_length", "_law_here", "_law_before", "_law_gap", "_law_at"]) (sc := defScope s__law_without) (by decide +kernel)) (fun _ _ _ _ _ => pg_name (i := 5) sc_law_without.nd rfl (Or.inl rfl)) (fun _ _ _ _ _ => pts_nil) (fun _ _ _ _ _ => pe_op op_mul (pe_ix (ixL (K := K)) (pv 4) (pv 5) (fun _ _ => rfl)) (pe_call (ok_law_power (P := P) (base := base) T) hr (by rfl) T.d__law_power.m T.d__law_power.F.kp T.d__law_power.b .nil pass0 (pa_cons (pv 0) (pa_cons (pe_op op_sub (pv 1) (pv 5)) (pa_nil)))))) (pa_nil)))))))), ?_⟩
  have line : (S t).length ≤ sizeLine := by rw [S_len]; exact Nat.le_of_lt (small1000 (by omega))
  -- the shifts
  refine ⟨_, rfl, _, rfl, line, (1 : Int), _, rfl, ⟨by omega, by omega, by rw [S_len]; omega, by rw [S_len]; omega⟩, ?_⟩
  rw [S_len, show ((t.length : Int) - 1).toNat = t.length - 1 by omega]
  refine fun D nD => lc_opt (walk_range (lo := 1) (n := t.length - 1)) [] (fun i => (shiftAt t i).map fun n => V.int (n : Nat)) (by omega) nD (fun z => nomatch z) (fun _ _ => trivial) (fun i x H1 H' Z N hi k hY hZ hN => ?_) (fun H1 k1 hD => ?_)
  · obtain ⟨rfl, rfl⟩ := hY
    refine ⟨rfl, _, rfl, _, rfl, _, rfl, _, rfl, line, ?_⟩
    refine ⟨_, rfl, _, rfl, _, rfl, line, _, rfl, _, _, rfl, rfl, _, rfl, _, rfl, line, rfl, _, rfl, ?_⟩
    rw [S_len]
    have e1 : cutS (S t) (some (1 + (i : Nat))) none = S (t.drop (1 + i)) := by
      rw [show (1 : Int) + (i : Nat) = ((1 + i : Nat) : Int) by omega, cut_from]
    have e2 : cutS (S t) none (some ((t.length : Int) - (1 + (i : Nat)))) = S (t.take (t.length - (1 + i))) := by
      rw [show (t.length : Int) - (1 + (i : Nat)) = ((t.length - (1 + i) : Nat) : Int) by omega, cut_to]
    refine ite2 (fun hb => ?_) (fun hb => ?_)
    · have hb : cutS (S t) (some (1 + (i : Nat))) none = cutS (S t) none (some ((t.length : Int) - (1 + (i : Nat)))) := V.str.inj (of_decide_eq_true hb)
      rw [e1, e2] at hb
      refine ⟨_, rfl, hZ _ _ ?_ Kp.refl⟩
      rw [shiftAt, if_pos (S_inj hb)]
      show some (V.int ((1 + i : Nat) : Int)) = some (V.int (1 + (i : Nat)))
      rw [Int.natCast_add]
      rfl
    · refine hN _ ?_ Kp.refl
      rw [shiftAt, if_neg (fun z => hb (decide_eq_true (show V.str (cutS (S t) (some (1 + (i : Nat))) none) = V.str (cutS (S t) none (some ((t.length : Int) - (1 + (i : Nat))))) by rw [e1, e2, z])))]
      rfl
  have hD : H1 D = some (.lst ((shifts t).map fun n => V.int (n : Nat))) := by
    rw [hD]
    refine congrArg (fun l => some (HO.lst l)) ?_
    unfold shifts
    rw [List.map_filterMap]
  have k2 : Kp [] H H1 := k1.drop1 nD
  -- ends
  refine ⟨by show 0 ≤ sizeLine; decide, fun D2 nD2 => ?_⟩
  have hDD : D ≠ D2 := fun z => by rw [z, nD2] at hD; cases hD
  have nD2' : H D2 = none := k2.free0 nD2
  have mD : D ∉ [D2] := fun z => hDD (List.mem_singleton.mp z)
  refine ⟨_, rfl, _, _, rfl, rfl, (size : Int) + 1, rfl, by omega, by omega, ?_⟩
  rw [show ((size : Int) + 1).toNat = size + 1 by omega]
  refine for_it (walk_range (lo := 0) (n := size + 1)) (fun i σ Hi => Kp [D2] H1 Hi ∧ Hi D2 = some (.lst ((endsL both t.length (shifts t) i).map V.int)) ∧ ∃ u5 u6 u7 u8 u9 : Option V, σ = [some (.int both), some (.int size), some (.str (S t)), some (.ref D), some (.ref D2), u5, u6, u7, u8, u9]) ⟨Kp.new nD2, upd_same, none, none, none, none, none, rfl⟩ (fun _ _ _ _ _ => trivial) ?_ ?_
  · rintro i x σ Hi H' hi ⟨k3, d3, u5, u6, u7, u8, u9, rfl⟩ ⟨rfl, rfl⟩
    have hl := endsL_len both t.length (shifts t) i
    have dS := k3.keep D _ mD hD
    refine ⟨_, rfl, _, rfl, _, rfl, line, _, _, rfl, rfl, _, rfl, ?_⟩
    rw [S_len]
    by_cases hlt : t.length ≤ i
    · refine iteD (show (t.length : Int) ≤ 0 + (i : Nat) by omega) ?_
      have p1 := pow_small9 (n := i - t.length) h1 (by omega)
      refine ⟨_, rfl, _, rfl, _, rfl, _, rfl, line, _, _, rfl, rfl, both, i - t.length, by
        show [V.int both, V.int ((0 + (i : Nat)) - ((S t).length : Nat))] = _
        rw [S_len, show (0 : Int) + (i : Nat) - (t.length : Nat) = ((i - t.length : Nat) : Int) by omega], by omega, by omega, ?_⟩
      refine ⟨_, rfl, (0 : Int) + (i : Nat), rfl, by omega, by omega, ?_⟩
      rw [show ((0 : Int) + (i : Nat)).toNat = i by omega]
      let g := hereIn both t.length (shifts t) (endsL both t.length (shifts t) i) i
      refine for_it (walk_range (lo := 0) (n := i)) (fun j σ Hj => Hj = H' ∧ ∃ w7 w8 : Option V, σ = [some (.int both), some (.int size), some (.str (S t)), some (.ref D), some (.ref D2), some (.int (0 + (i : Nat))), some (.int (((List.range i).take j).foldl g ((both ^ (i - t.length) : Nat) : Int))), w7, w8, u9]) ⟨rfl, u7, u8, rfl⟩ (fun _ _ _ _ _ => trivial) ?_ ?_
      · rintro j x σ Hj H'' hj ⟨rfl, w7, w8, rfl⟩ ⟨rfl, rfl⟩
        have st : ((List.range i).take (j + 1)).foldl g ((both ^ (i - t.length) : Nat) : Int) = g (((List.range i).take j).foldl g ((both ^ (i - t.length) : Nat) : Int)) j := by
          rw [take_range hj, List.foldl_append]
          rfl
        rw [st]
        have gd : ∀ h, g h j = if t.length ≤ i - j then h - (endsL both t.length (shifts t) i).getD j 0 * ((both ^ (i - j - t.length) : Nat) : Int) else if i - j ∈ shifts t then h - (endsL both t.length (shifts t) i).getD j 0 else h := fun _ => rfl
        have item : atI ((endsL both t.length (shifts t) i).map V.int) (0 + (j : Nat)) = some (.int ((endsL both t.length (shifts t) i).getD j 0)) := by
          rw [show (0 : Int) + (j : Nat) = ((j : Nat) : Int) by omega]
          refine atI_nat ?_
          rw [List.getElem?_map, List.getD_eq_getElem?_getD, List.getElem?_eq_getElem (by omega)]
          rfl
        have p2 := pow_small9 (n := i - j - t.length) h1 (by omega)
        -- gap
        refine ⟨_, rfl, _, rfl, _, _, rfl, rfl, ?_⟩
        refine ⟨_, rfl, _, rfl, _, rfl, line, _, _, rfl, rfl, _, rfl, ?_⟩
        rw [S_len]
        by_cases c1 : t.length ≤ i - j
        · refine iteD (show (t.length : Int) ≤ (0 + (i : Nat)) - (0 + (j : Nat)) by omega) ?_
          refine ⟨_, rfl, _, rfl, _, rfl, D2, _, _, _, rfl, rfl, SqL.of d3, item, _, rfl, _, rfl, _, rfl, _, rfl, line, _, _, rfl, rfl, both, i - j - t.length, by
            show [V.int both, V.int (((0 + (i : Nat)) - (0 + (j : Nat))) - ((S t).length : Nat))] = _
            rw [S_len, show ((0 : Int) + (i : Nat)) - (0 + (j : Nat)) - (t.length : Nat) = ((i - j - t.length : Nat) : Int) by omega], by omega, by omega, _, _, rfl, rfl, .inr ⟨by omega, by omega⟩, _, _, rfl, rfl, rfl, some (.int (0 + (j : Nat))), some (.int ((0 + (i : Nat)) - (0 + (j : Nat)))), ?_⟩
          rw [gd, if_pos c1]
          rfl
        · refine iteN (show ¬ (t.length : Int) ≤ (0 + (i : Nat)) - (0 + (j : Nat)) by omega) ?_
          refine ⟨_, rfl, _, rfl, D, _, _, .num ((i - j : Nat) : Int), rfl, .inl (SqL.of dS), nats_dk _, ?_, Nat.zero_le _, _, rfl, ?_⟩
          · show Dk K _ (.int ((0 + (i : Nat)) - (0 + (j : Nat)))) _
            rw [show ((0 : Int) + (i : Nat)) - (0 + (j : Nat)) = ((i - j : Nat) : Int) by omega]
            exact .num _
          by_cases c2 : i - j ∈ shifts t
          · refine iteB (decide_eq_true (nat_mem.mpr c2)) ?_
            refine ⟨_, rfl, _, rfl, _, rfl, D2, _, _, _, rfl, rfl, SqL.of d3, item, _, _, rfl, rfl, rfl, some (.int (0 + (j : Nat))), some (.int ((0 + (i : Nat)) - (0 + (j : Nat)))), ?_⟩
            rw [gd, if_neg c1, if_pos c2]
            rfl
          · refine iteBn (decide_eq_false (fun z => c2 (nat_mem.mp z))) ?_
            refine ⟨rfl, some (.int (0 + (j : Nat))), some (.int ((0 + (i : Nat)) - (0 + (j : Nat)))), ?_⟩
            rw [gd, if_neg c1, if_neg c2]
            rfl
      · rintro σ Hj ⟨rfl, w7, w8, rfl⟩
        rw [List.take_of_length_le (by simp)]
        have hv : here both t.length (shifts t) (endsL both t.length (shifts t) i) i = (List.range i).foldl g ((both ^ (i - t.length) : Nat) : Int) := if_pos hlt
        have k4 := k3
        have d4 := d3
        refine ⟨_, rfl, .inl ⟨rfl, _, SqL.of d4⟩, _, rfl, D2, _, _, rfl, rfl, d4, by rw [List.length_map]; exact small1000 (by omega), ?_⟩
        refine ⟨k4.trans (Kp.put (List.mem_cons_self ..) d4 rfl), ?_, _, _, _, _, _, rfl⟩
        rw [upd_same, endsL, List.map_append, ← hv]
        rfl
    · refine iteN (show ¬ (t.length : Int) ≤ 0 + (i : Nat) by omega) ?_
      have hv : here both t.length (shifts t) (endsL both t.length (shifts t) i) i = 0 := if_neg hlt
      have k4 := k3
      have d4 := d3
      refine ⟨_, rfl, .inl ⟨rfl, _, SqL.of d4⟩, _, rfl, D2, _, _, rfl, rfl, d4, by rw [List.length_map]; exact small1000 (by omega), ?_⟩
      refine ⟨k4.trans (Kp.put (List.mem_cons_self ..) d4 rfl), ?_, _, _, _, _, _, rfl⟩
      rw [upd_same, endsL, List.map_append, ← hv]
      rfl
  · rintro σ Hi ⟨k3, d3, u5, u6, u7, u8, u9, rfl⟩
    have hl := endsL_len both t.length (shifts t) (size + 1)
    refine ⟨_, rfl, _, rfl, both, size, rfl, by omega, by omega, ?_⟩
    refine ⟨_, rfl, _, _, rfl, rfl, (size : Int) + 1, rfl, by omega, by omega, ?_⟩
    rw [show ((size : Int) + 1).toNat = size + 1 by omega]
    refine fun D3 nD3 => lc_val (walk_range (lo := 0) (n := size + 1)) [] (fun i => V.int ((endsL both t.length (shifts t) (size + 1)).getD i 0 * ((both ^ (size - i) : Nat) : Int))) (by omega) nD3 (fun z => nomatch z) (fun _ _ => trivial) (fun i x H5 H6 Z hi k5 hY hZ => ?_) (fun H5 k5 hD3 => ?_)
    · obtain ⟨rfl, rfl⟩ := hY
      have item : atI ((endsL both t.length (shifts t) (size + 1)).map V.int) (0 + (i : Nat)) = some (.int ((endsL both t.length (shifts t) (size + 1)).getD i 0)) := by
        rw [show (0 : Int) + (i : Nat) = ((i : Nat) : Int) by omega]
        refine atI_nat ?_
        rw [List.getElem?_map, List.getD_eq_getElem?_getD, List.getElem?_eq_getElem (by omega)]
        rfl
      have p2 := pow_small9 (n := size - i) h1 (by omega)
      refine ⟨rfl, _, rfl, _, rfl, D2, _, _, _, rfl, rfl, SqL.of ((k5.drop1 nD3).at0 d3), item, _, rfl, _, rfl, _, rfl, _, _, rfl, rfl, both, size - i, by
        show [V.int both, V.int ((size : Nat) - (0 + (i : Nat)))] = _
        rw [show (size : Int) - (0 + (i : Nat)) = ((size - i : Nat) : Int) by omega], by omega, by omega, _, _, rfl, rfl, .inr ⟨by omega, by omega⟩, ?_⟩
      exact hZ _ Kp.refl
    · refine ⟨D3, (List.range (size + 1)).map fun i => (endsL both t.length (shifts t) (size + 1)).getD i 0 * ((both ^ (size - i) : Nat) : Int), rfl, SqL.of (by rw [hD3, List.map_map]; rfl), _, _, rfl, rfl, ?_⟩
      exact q _ (k2.trans ((k3.trans (k5.drop1 nD3).up).fresh nD2))
end
end Px

set_option maxRecDepth 100000
set_option maxHeartbeats 4000000
/-! PxJ: list(text), dict(zip(text, text)), d.update(e). -/
namespace Px
open PySem PySem.Spec PyProof.Rows L2
section
variable {X : Cx}
/-- the signs of a text, each a text -/
def rListS : List V → Hp → VK → Prop := fun vs H Q => ∃ z : Str, vs = [.str z] ∧ z.cps.size ≤ 4000 ∧ ∀ p, H p = none → Q (.ref p) (upd H p (.lst (z.cps.toList.map fun c => .str ⟨#[c]⟩)))
theorem signs_vals {z : Str} {acc : Array Value} (h : ItemsOf (SignAt z) acc z.cps.size) : Vals (z.cps.toList.map fun c => V.str ⟨#[c]⟩) acc.toList := by
  have go : ∀ (l : List Nat) (us : List Value), us.length = l.length → (∀ (j : Nat) (v : Value), us[j]? = some v → ∃ c u, l[j]? = some c ∧ v = .str ⟨#[c]⟩ u) → Vals (l.map fun c => V.str ⟨#[c]⟩) us := by
    intro l
    induction l with
    | nil =>
      intro us hl _
      cases us with
      | nil => exact .nil
      | cons _ _ => cases hl
    | cons c l ih =>
      intro us hl h
      cases us with
      | nil => cases hl
      | cons u us =>
        refine .cons ?_ (ih us (Nat.succ.inj hl) fun j v hv => ?_)
        · obtain ⟨d, t, e1, e2⟩ := h 0 u rfl
          cases e1
          exact ⟨t, e2⟩
        · obtain ⟨d, t, e1, e2⟩ := h (j + 1) v (by simpa using hv)
          exact ⟨d, t, by simpa using e1, e2⟩
  refine go _ _ (by simp [h.1]) fun j v hv => ?_
  obtain ⟨c, u, e1, e2⟩ := h.2 j v (by simpa using hv)
  exact ⟨c, u, by simpa using e1, e2⟩
theorem cr_listS (hc : X.calm = true) : CallR X (.type "list") rListS := by
  intro pn sh sg H vs us Q I r h
  obtain ⟨z, rfl, hz, q⟩ := h
  obtain ⟨u, rfl, t, rfl⟩ := vals1 r
  refine call_list_str (I.ok.hd hc) z t (hn := Nat.le_of_lt (Nat.lt_of_le_of_lt hz (by decide))) fun h' tk acc n hk hS hI => ?_
  have hn : H sh.heap.objs.size = none := I.hok.fresh (Nat.le_refl _)
  refine ⟨.ref sh.heap.objs.size, _, I.laid (o := .lst (z.cps.toList.map fun c => .str ⟨#[c]⟩)) (t' := tk) hk (Nat.le_refl _) ⟨?_, acc.toList, n, signs_vals hI, by simpa using hS⟩, rfl, q _ hn⟩
  rw [List.length_map, Array.length_toList]
  exact Nat.le_of_lt (Nat.lt_of_le_of_lt hz (by decide))
end
/-! ### a zip of two texts as an argument of dict() -/
section
variable {P : Program} {w : World} {A : Around} {E : Value → Shared → Prop} {sh : Shared} {zz TA' TB a1 a2 Th : Addr} {fl' : Bool} {ot : Obj} {p1 p2 : List Addr} {n1 n2 j : Nat} {R1 R2 : Nat → Value → Prop} {S1 S2 : Nat → Heap → Prop}
theorem D_same {it b : Addr} {fp : List Addr} {n : Nat} {R : Nat → Value → Prop} {St : Nat → Heap → Prop} {h h' : Heap} {i : Nat} (D : Draws P w A it fp n R St) (st : St i h) (x : Heap.SameBut b h h') (nb : b ∉ fp) : St i h' :=
  D.frame i h h' st fun c hc o e => x.extBut c o (fun z => nb (z ▸ hc)) e
theorem nextH_item (Z : ZipSep2 zz TA' TB a1 a2 p1 p2) (D1 : Draws P w A a1 p1 n1 R1 S1) (D2 : Draws P w A a2 p2 n2 R2 S2) (hz : IsZipHeld sh.heap zz TA' TB Th fl') (hT : sh.heap.get? Th = some ot) (hp : IsTupOf2 sh.heap TA' (.ref a1) (.ref a2))
    (st1 : S1 j sh.heap) (st2 : S2 j sh.heap) (l1 : j < n1) (l2 : j < n2) {Q : Value → Shared → Prop}
    (hQ : ∀ x y h' tk, R1 j x → R2 j y → IsZipHeld h' zz TA' TB Th true → S1 (j + 1) h' → S2 (j + 1) h' → IsTupOf2 h' sh.heap.objs.size x y →
      (∀ c o, c ≠ zz → c ≠ a1 → c ≠ a2 → sh.heap.get? c = some o → h'.get? c = some o) → Q (.ref sh.heap.objs.size) { sh with heap := h', toks := tk }) :
    wpAny (model P w) A (Builtin.«zip.__next__» ⟨[.ref zz], []⟩) (fun fin s' => ∃ v, fin = .done (.ret v) ∧ Q v s') E sh := by
  obtain ⟨h0, gg, dd', tk0, os⟩ := sh
  show wpAny _ _ (field (.ref zz) 2 >>= _) _ _ _
  apply wpAny_bind
  refine wpAny_field hz rfl (x := .bool false) rfl ?_
  show wpAny _ _ (field (.ref zz) 3 >>= _) _ _ _
  apply wpAny_bind
  refine wpAny_field hz rfl (x := .ref TA') rfl ?_
  apply wpAny_bind
  refine wpAny_seqItems hp rfl ?_
  show wpAny _ _ (Builtin.SmallTypes.ownedTupleIsFree (.ref zz) >>= _) _ _ _
  apply wpAny_bind
  refine wpAny_tupleHeld_zip hz hT fun g1 z1 s1 => ?_
  replace s1 : Heap.SameBut zz h0 g1 := s1
  simp only [Bool.false_eq_true, if_false]
  apply wpAny_bind
  rw [← Array.forIn_toList]
  simp only [List.forIn_cons, List.forIn_nil]
  apply wpAny_bind
  apply wpAny_bind
  apply wpAny_holding
  show wpAny _ _ (Builtin.SmallTypes.nextOf (.ref a1) >>= _) _ _ _
  apply wpAny_bind
  refine D1.item j ⟨g1, gg, dd', tk0, os⟩ _ _ l1 (D_same D1 st1 s1 Z.zf1) fun x g2 tk2 r1 t1 s2 => wpAny_pure ?_
  replace s2 : Heap.SameBut a1 g1 g2 := s2
  refine wpAny_pure ?_
  apply wpAny_bind
  apply wpAny_bind
  apply wpAny_holding
  show wpAny _ _ (Builtin.SmallTypes.nextOf (.ref a2) >>= _) _ _ _
  apply wpAny_bind
  refine D2.item j ⟨g2, gg, dd', tk2, os⟩ _ _ l2 (D_same D2 (D_same D2 st2 s1 Z.zf2) s2 Z.sep1_2) fun y g3 tk3 r2 t2 s3 => wpAny_pure ?_
  replace s3 : Heap.SameBut a2 g2 g3 := s3
  refine wpAny_pure (wpAny_pure ?_)
  show wpAny _ _ (newTuple [x, y] >>= _) _ _ _
  apply wpAny_bind
  refine wpAny_newTuple ?_
  have za1 : zz ≠ a1 := fun z => Z.zf1 (z ▸ Z.mem1)
  have za2 : zz ≠ a2 := fun z => Z.zf2 (z ▸ Z.mem2)
  have es : g3.objs.size = h0.objs.size := by rw [s3.1, s2.1, s1.1]
  have z3 : IsZipHeld g3 zz TA' TB Th true := s3.extBut _ _ za2 (s2.extBut _ _ za1 z1)
  have kp : ∀ c o, c ≠ zz → c ≠ a1 → c ≠ a2 → h0.get? c = some o → g3.get? c = some o := fun c o c1 c2 c3 e => s3.extBut _ _ c3 (s2.extBut _ _ c2 (s1.extBut _ _ c1 e))
  have t13 : S1 (j + 1) g3 := D_same D1 t1 s3 Z.sep2_1
  refine wpAny_pure ⟨_, rfl, ?_⟩
  show Q (.ref g3.objs.size) _
  have pT : IsTupOf2 (g3.push { cls := .type "tuple", data := .seq #[x, y] }) g3.objs.size x y := Heap.get?_push_size _ rfl
  rw [es] at pT ⊢
  exact hQ x y _ tk3 r1 r2 (Heap.get?_push_of_some _ z3) (D1.frame _ _ _ t13 fun b _ o e => Heap.get?_push_of_some _ e) (D2.frame _ _ _ t2 fun b _ o e => Heap.get?_push_of_some _ e) pT fun c o c1 c2 c3 e => Heap.get?_push_of_some _ (kp c o c1 c2 c3 e)
theorem nextH_end (Z : ZipSep2 zz TA' TB a1 a2 p1 p2) (D1 : Draws P w A a1 p1 n1 R1 S1) (D2 : Draws P w A a2 p2 n2 R2 S2) (hz : IsZipHeld sh.heap zz TA' TB Th fl') (hT : sh.heap.get? Th = some ot) (hp : IsTupOf2 sh.heap TA' (.ref a1) (.ref a2))
    (st1 : S1 j sh.heap) (st2 : S2 j sh.heap) (l1 : j ≤ n1) (l2 : j ≤ n2) (he : j = n1 ∨ j = n2) {Q : Fin → Shared → Prop}
    (hE : ∀ h' tk e, (∀ c o, c ≠ zz → c ≠ a1 → c ≠ a2 → sh.heap.get? c = some o → h'.get? c = some o) → (∃ o, h'.get? e = some o ∧ o.cls = .type "StopIteration") → E (.ref e) { sh with heap := h', toks := tk }) :
    wpAny (model P w) A (Builtin.«zip.__next__» ⟨[.ref zz], []⟩) Q E sh := by
  obtain ⟨h0, gg, dd', tk0, os⟩ := sh
  show wpAny _ _ (field (.ref zz) 2 >>= _) _ _ _
  apply wpAny_bind
  refine wpAny_field hz rfl (x := .bool false) rfl ?_
  show wpAny _ _ (field (.ref zz) 3 >>= _) _ _ _
  apply wpAny_bind
  refine wpAny_field hz rfl (x := .ref TA') rfl ?_
  apply wpAny_bind
  refine wpAny_seqItems hp rfl ?_
  show wpAny _ _ (Builtin.SmallTypes.ownedTupleIsFree (.ref zz) >>= _) _ _ _
  apply wpAny_bind
  refine wpAny_tupleHeld_zip hz hT fun g1 z1 s1 => ?_
  replace s1 : Heap.SameBut zz h0 g1 := s1
  simp only [Bool.false_eq_true, if_false]
  apply wpAny_bind
  rw [← Array.forIn_toList]
  simp only [List.forIn_cons, List.forIn_nil]
  apply wpAny_bind
  apply wpAny_bind
  apply wpAny_holding
  show wpAny _ _ (Builtin.SmallTypes.nextOf (.ref a1) >>= _) _ _ _
  by_cases c1 : j < n1
  · apply wpAny_bind
    refine D1.item j ⟨g1, gg, dd', tk0, os⟩ _ _ c1 (D_same D1 st1 s1 Z.zf1) fun x g2 tk2 r1 t1 s2 => wpAny_pure ?_
    replace s2 : Heap.SameBut a1 g1 g2 := s2
    refine wpAny_pure ?_
    apply wpAny_bind
    apply wpAny_bind
    apply wpAny_holding
    show wpAny _ _ (Builtin.SmallTypes.nextOf (.ref a2) >>= _) _ _ _
    apply wpAny_bind
    have e2 : j = n2 := by omega
    refine D2.done ⟨g2, gg, dd', tk2, os⟩ _ _ (e2 ▸ D_same D2 (D_same D2 st2 s1 Z.zf2) s2 Z.sep1_2) fun g3 e s3 he => ?_
    exact hE g3 tk2 e (fun c o b1 b2 b3 x => s3 _ _ b3 (s2.extBut _ _ b2 (s1.extBut _ _ b1 x))) he
  · apply wpAny_bind
    have e1 : j = n1 := by omega
    refine D1.done ⟨g1, gg, dd', tk0, os⟩ _ _ (e1 ▸ D_same D1 st1 s1 Z.zf1) fun g3 e s3 he => ?_
    exact hE g3 tk0 e (fun c o b1 b2 b3 x => s3 _ _ b2 (s1.extBut _ _ b1 x)) he
theorem pyH_item (Z : ZipSep2 zz TA' TB a1 a2 p1 p2) (D1 : Draws P w A.in1 a1 p1 n1 R1 S1) (D2 : Draws P w A.in1 a2 p2 n2 R2 S2) (hz : IsZipHeld sh.heap zz TA' TB Th fl') (hT : sh.heap.get? Th = some ot) (hp : IsTupOf2 sh.heap TA' (.ref a1) (.ref a2))
    (st1 : S1 j sh.heap) (st2 : S2 j sh.heap) (l1 : j < n1) (l2 : j < n2) {Q : Option Value → Shared → Prop}
    (hQ : ∀ x y h' tk, R1 j x → R2 j y → IsZipHeld h' zz TA' TB Th true → S1 (j + 1) h' → S2 (j + 1) h' → IsTupOf2 h' sh.heap.objs.size x y →
      (∀ c o, c ≠ zz → c ≠ a1 → c ≠ a2 → sh.heap.get? c = some o → h'.get? c = some o) → Q (some (.ref sh.heap.objs.size)) { sh with heap := h', toks := tk }) :
    wpAny (model P w) A (pyNext (.ref zz)) Q E sh := by
  have ty : sh.TypeIs (.ref zz) "zip" := ⟨_, hz, rfl⟩
  unfold pyNext
  apply wpAny_bind
  refine wpAny_attempt (wpAny_callSpecial?_slot (name := Str.ofString "__next__") ty F.slot_zip_next (wpAny_call_entry F.slot_zip_next ty F.entry_zip_next ?_ (F.args_zip_next_1 _)))
  exact nextH_item Z D1 D2 hz hT hp st1 st2 l1 l2 fun x y h' tk r1 r2 b1 b2 b3 b4 b5 => wpAny_pure (hQ x y h' tk r1 r2 b1 b2 b3 b4 b5)
theorem pyH_end (Z : ZipSep2 zz TA' TB a1 a2 p1 p2) (D1 : Draws P w A.in1 a1 p1 n1 R1 S1) (D2 : Draws P w A.in1 a2 p2 n2 R2 S2) (hz : IsZipHeld sh.heap zz TA' TB Th fl') (hT : sh.heap.get? Th = some ot) (hp : IsTupOf2 sh.heap TA' (.ref a1) (.ref a2))
    (st1 : S1 j sh.heap) (st2 : S2 j sh.heap) (l1 : j ≤ n1) (l2 : j ≤ n2) (he : j = n1 ∨ j = n2) {Q : Option Value → Shared → Prop}
    (hQ : ∀ h' tk, (∀ c o, c ≠ zz → c ≠ a1 → c ≠ a2 → sh.heap.get? c = some o → h'.get? c = some o) → Q none { sh with heap := h', toks := tk }) :
    wpAny (model P w) A (pyNext (.ref zz)) Q E sh := by
  have ty : sh.TypeIs (.ref zz) "zip" := ⟨_, hz, rfl⟩
  unfold pyNext
  apply wpAny_bind
  refine wpAny_attempt (wpAny_callSpecial?_slot (name := Str.ofString "__next__") ty F.slot_zip_next (wpAny_call_entry F.slot_zip_next ty F.entry_zip_next ?_ (F.args_zip_next_1 _)))
  refine nextH_end Z D1 D2 hz hT hp st1 st2 l1 l2 he fun h' tk e hk hs => ?_
  obtain ⟨o, ho, hc⟩ := hs
  apply wpAny_bind
  refine wpAny_isInstance (T := "StopIteration") (b := true) ⟨o, ho, hc⟩ isSubtype_stop ?_
  exact wpAny_pure (hQ _ _ hk)
/-- zip(x, y) of two texts, as what dict() may take -/
theorem arg_zpT (x y : Str) (u1 u2 : Tok) (Z : ZipSep2 zz TA' TB a1 a2 [a1] [a2]) (ab : a1 ≠ a2) :
    PairArg P w "zip" zz [zz, TA', TB, a1, a2] [zz, TB, a1, a2] (min x.cps.size y.cps.size) (fun i k v => (∃ c u, x.cps[i]? = some c ∧ k = .str ⟨#[c]⟩ u) ∧ ∃ c u, y.cps[i]? = some c ∧ v = .str ⟨#[c]⟩ u)
      (fun h => IsZip h zz TA' TB .none ∧ IsTupOf2 h TA' (.ref a1) (.ref a2) ∧ (∃ b c, IsTupOf2 h TB b c) ∧ h.IsStrIter a1 (strIterType x) x u1 0 ∧ h.IsStrIter a2 (strIterType y) y u2 0) where
  type := fun s ok => ⟨_, ok.1, rfl⟩
  notDict := by decide
  keep := fun h h' ok hk => by
    obtain ⟨b1, b2, ⟨b, c, b3⟩, ⟨o1, e1, r1⟩, ⟨o2, e2, r2⟩⟩ := ok
    exact ⟨hk _ _ b1, hk _ _ b2, ⟨b, c, hk _ _ b3⟩, ⟨o1, hk _ _ e1, r1⟩, ⟨o2, hk _ _ e2, r2⟩⟩
  there := fun h ok b hb => by
    obtain ⟨b1, b2, ⟨_, _, b3⟩, ⟨o1, e1, _⟩, ⟨o2, e2, _⟩⟩ := ok
    rcases (by simpa using hb : b = zz ∨ b = TA' ∨ b = TB ∨ b = a1 ∨ b = a2) with q | q | q | q | q <;> rw [q]
    · exact ⟨_, b1⟩
    · exact ⟨_, b2⟩
    · exact ⟨_, b3⟩
    · exact ⟨_, e1⟩
    · exact ⟨_, e2⟩
  sub := fun b hb => by
    rcases (by simpa using hb : b = zz ∨ b = TB ∨ b = a1 ∨ b = a2) with q | q | q | q <;> simp [q]
  noKeys := fun A s Q E hA ok h => getAttrOr_miss_zip ok.1 rfl rfl rfl zip_no_keys (by decide +kernel) hA h
  iter := fun A s d Q E hA ok hd hdf h => by
    obtain ⟨b1, b2, ⟨b, c, b3⟩, i1, i2⟩ := ok
    simp only [List.mem_cons, List.not_mem_nil, or_false, not_or] at hdf
    obtain ⟨d1, d2, d3, d4, d5⟩ := hdf
    refine wpAny_pyIter_zip b1 (h zz [zz, TB, a1, a2] (fun i h => IsTupOf2 h TA' (.ref a1) (.ref a2) ∧ h.IsStrIter a1 (strIterType x) x u1 i ∧ h.IsStrIter a2 (strIterType y) y u2 i ∧
      ((IsZip h zz TA' TB .none ∧ ∃ b c, IsTupOf2 h TB b c) ∨ ∃ Tx f ox, IsZipHeld h zz TA' TB Tx f ∧ h.get? Tx = some ox ∧ Tx ≠ zz ∧ Tx ≠ a1 ∧ Tx ≠ a2 ∧ Tx ≠ d)) s.heap s.toks ?_ ⟨b2, i1, i2, .inl ⟨b1, b, c, b3⟩⟩ (fun _ _ e => e) fun b hb => .inl hb)
    have DA := Draws.text (prog := P) (w := w) (A := A.in1) (by simpa using hA) a1 x u1
    have DB := Draws.text (prog := P) (w := w) (A := A.in1) (by simpa using hA) a2 y u2
    refine ⟨fun hm => ?_, fun i h1 h2 st hk => ?_, fun i s1 Q1 E1 hi st hds hQ => ?_, fun s1 Q1 E1 st hQ => ?_⟩
    · rcases (by simpa using hm : d = zz ∨ d = TB ∨ d = a1 ∨ d = a2) with q | q | q | q
      · exact d1 q
      · exact d3 q
      · exact d4 q
      · exact d5 q
    · obtain ⟨c2, ⟨o1, e1, r1⟩, ⟨o2, e2, r2⟩, hz⟩ := st
      refine ⟨hk _ _ (Ne.symm d2) c2, ⟨o1, hk _ _ (Ne.symm d4) e1, r1⟩, ⟨o2, hk _ _ (Ne.symm d5) e2, r2⟩, ?_⟩
      rcases hz with ⟨g1, b, c, g2⟩ | ⟨Tx, f, ox, g1, g2, g3, g4, g5, g6⟩
      · exact .inl ⟨hk _ _ (Ne.symm d1) g1, b, c, hk _ _ (Ne.symm d3) g2⟩
      · exact .inr ⟨Tx, f, ox, hk _ _ (Ne.symm d1) g1, hk _ _ g6 g2, g3, g4, g5, g6⟩
    · obtain ⟨c2, j1, j2, hz⟩ := st
      have lt : ∀ {c : Addr} {o : Obj}, s1.heap.get? c = some o → s1.heap.objs.size ≠ c := fun e => Nat.ne_of_gt (Heap.lt_size e)
      have m1 : s1.heap.objs.size ≠ a1 := by obtain ⟨o, e, _⟩ := j1; exact lt e
      have m2 : s1.heap.objs.size ≠ a2 := by obtain ⟨o, e, _⟩ := j2; exact lt e
      rcases hz with ⟨g1, b, c, g2⟩ | ⟨Tx, f, ox, g1, g2, g3, g4, g5, g6⟩
      · refine wpAny_pyNext_zipD2_item Z DA DB g1 c2 g2 j1 j2 (by omega) (by omega) fun x1 x2 h' tk r1 r2 k1 k2 k3 k4 k5 k6 k7 => ?_
        exact hQ s1.heap.objs.size x1 x2 h' tk ⟨r1, r2⟩ (.inl ⟨_, k5, rfl, _, rfl⟩) ⟨k7 _ _ Z.TIz Z.TITO Z.TIi1 Z.TIi2 c2, k3, k4, .inr ⟨s1.heap.objs.size, false, _, k1, k5, lt g1, m1, m2, Nat.ne_of_gt hds⟩⟩
          fun c o hc e => k7 c o (fun q => hc (by simp [q])) (fun q => hc (by simp [q])) (fun q => hc (by simp [q])) (fun q => hc (by simp [q])) e
      · refine pyH_item Z DA DB g1 g2 c2 j1 j2 (by omega) (by omega) fun x1 x2 h' tk r1 r2 k1 k3 k4 k5 k7 => ?_
        exact hQ s1.heap.objs.size x1 x2 h' tk ⟨r1, r2⟩ (.inl ⟨_, k5, rfl, _, rfl⟩) ⟨k7 _ _ Z.TIz Z.TIi1 Z.TIi2 c2, k3, k4, .inr ⟨Tx, true, ox, k1, k7 _ _ g3 g4 g5 g2, g3, g4, g5, g6⟩⟩
          fun c o hc e => k7 c o (fun q => hc (by simp [q])) (fun q => hc (by simp [q])) (fun q => hc (by simp [q])) e
    · obtain ⟨c2, j1, j2, hz⟩ := st
      rcases hz with ⟨g1, b, c, g2⟩ | ⟨Tx, f, ox, g1, g2, g3, g4, g5, g6⟩
      · refine wpAny_pyNext_zipD2_end Z DA DB g1 c2 g2 j1 j2 (by omega) (by omega) (by omega) fun h' tk hk => hQ h' tk fun c o hc e => ?_
        exact hk c o (fun q => hc (by simp [q])) (fun q => hc (by simp [q])) (fun q => hc (by simp [q])) (fun q => hc (by simp [q])) e
      · refine pyH_end Z DA DB g1 g2 c2 j1 j2 (by omega) (by omega) (by omega) fun h' tk hk => hQ h' tk fun c o hc e => ?_
        exact hk c o (fun q => hc (by simp [q])) (fun q => hc (by simp [q])) (fun q => hc (by simp [q])) e
end
section
variable {X : Cx}
/-- the pairs of two texts, sign by sign -/
def zipSigns (x y : Str) : List (Key × V) := (x.cps.toList.zip y.cps.toList).map fun p => (Sum.inr ⟨#[p.1]⟩, .str ⟨#[p.2]⟩)
def tDictZip (ta tb : TE) : TE := fun σ H Q => ta σ H fun v H1 => tb σ H1 fun u H2 => ∃ x y : Str, [v, u] = [V.str x, V.str y] ∧ x.cps.size ≤ 900 ∧ ∀ p, H2 p = none → Q (.ref p) (upd H2 p (.dK (mergeK [] (zipSigns x y))))
theorem zipSigns_len (x y : Str) : (zipSigns x y).length = min x.cps.size y.cps.size := by simp [zipSigns]
theorem call_dictZip {P : Program} {w : World} {A : Around} {E : Value → Shared → Prop} {sh : Shared} {zz TA' TB a1 a2 : Addr} {Q : Value → Shared → Prop} (x y : Str) (u1 u2 : Tok) (Z : ZipSep2 zz TA' TB a1 a2 [a1] [a2]) (ab : a1 ≠ a2) (hh : A.handled = none) (hz : x.cps.size ≤ 900)
    (ok : IsZip sh.heap zz TA' TB .none ∧ IsTupOf2 sh.heap TA' (.ref a1) (.ref a2) ∧ (∃ b c, IsTupOf2 sh.heap TB b c) ∧ sh.heap.IsStrIter a1 (strIterType x) x u1 0 ∧ sh.heap.IsStrIter a2 (strIterType y) y u2 0)
    (hQ : ∀ h' tk vs, KV (mergeK [] (zipSigns x y)) vs → h'.DictOf (mixKind P w) sh.heap.objs.size vs → (∀ b o, b ∉ [zz, TB, a1, a2] → sh.heap.get? b = some o → h'.get? b = some o) → Q (.ref sh.heap.objs.size) { sh with heap := h', toks := tk }) :
    wpAny (model P w) A (call (.type "dict") [.ref zz]) Q E sh := by
  refine call_dict_arg (arg_zpT (P := P) (w := w) x y u1 u2 Z ab) ok fun s1 e1 hd ok1 => ?_
  subst e1
  have len : ∀ i, (mergeK [] ((zipSigns x y).take i)).length ≤ i := fun i => Nat.le_trans (length_mergeK _ _) (by rw [List.length_nil, List.length_take]; omega)
  refine updateFrom_arg (A := A.in1) (Tab := fun i h => ∃ vs, KV (mergeK [] ((zipSigns x y).take i)) vs ∧ h.DictOf (mixKind P w) sh.heap.objs.size vs) (arg_zpT (P := P) (w := w) x y u1 u2 Z ab) .none (by simpa using hh) ok1 hd ⟨[], .nil, Heap.DictOf.new sh.heap⟩
    (fun _ _ ⟨_, _, t⟩ => t.lt_size) (fun i h h' wr' hn _ ⟨vs, r, t⟩ hk => ⟨vs, r, t.at' fun o e => hk _ o hn e⟩) ?_ ?_
  · rintro i k v s' Q' E' hi ⟨⟨c, u, ec, rfl⟩, ⟨d, u', ed, rfl⟩⟩ ⟨vs, r, t⟩ _ hq
    have et : (zipSigns x y)[i]? = some (Sum.inr ⟨#[c]⟩, V.str ⟨#[d]⟩) := by
      unfold zipSigns
      rw [List.getElem?_map, (List.getElem?_zip_eq_some (z := (c, d))).mpr ⟨by simpa using ec, by simpa using ed⟩]
      rfl
    have es : (zipSigns x y).take (i + 1) = (zipSigns x y).take i ++ [(Sum.inr ⟨#[c]⟩, V.str ⟨#[d]⟩)] := by rw [List.take_add_one, et]; rfl
    have hk : (mixKind P w).is (Sum.inr ⟨#[c]⟩) (.str ⟨#[c]⟩ u) = true := keyIs_str _ u
    have hsz : vs.length ≤ sizeLine := by
      have := len i
      rw [← r.length]
      exact Nat.le_of_lt (Nat.lt_of_le_of_lt this (small1000 (by omega)))
    refine wpAny_dictSet_pairs (knd := mixKind P w) (hsz := hsz) hk t fun h' t' hs => hq h' _ ⟨_, ?_, t'⟩ hs
    rw [es]
    unfold mergeK
    rw [List.foldl_append]
    exact KV.put r (Sum.inr ⟨#[c]⟩) ⟨u', rfl⟩
  · rintro h' tk ⟨vs, r, t⟩ hk
    rw [List.take_of_length_le (by rw [zipSigns_len]; exact Nat.le_refl _)] at r
    refine ⟨rfl, hQ h' tk vs r t fun b o hb e => hk b o (Nat.ne_of_lt (Heap.lt_size e)) hb (Heap.get?_push_of_some _ e)⟩
theorem pe_dictZip {a b : Expr} {ta tb : TE} {p1 p2 q1 q2 : Pos} (hc : X.calm = true) (hg1 : Gl X "dict") (hm1 : X.mg "dict" = none) (hg2 : Gl X "zip") (hm2 : X.mg "zip" = none) (ha : PE X a ta) (hb : PE X b tb)
    (s1 : starEach [.Call (.Name "zip" p2) [a, b] [] q2] X.env = (false, eval (.Call (.Name "zip" p2) [a, b] [] q2) X.env) :: starEach [] X.env := by rfl)
    (s2 : starEach [a, b] X.env = (false, eval a X.env) :: starEach [b] X.env := by rfl) (s3 : starEach [b] X.env = (false, eval b X.env) :: starEach [] X.env := by rfl) (hpl : (backTo q2 (starEach [b] X.env)).any (·.1) = false := by rfl) :
    PE X (.Call (.Name "dict" p1) [.Call (.Name "zip" p2) [a, b] [] q2] [] q1) (tDictZip ta tb) := by
  refine ⟨fun pn sh sg H Q I h => ?_⟩
  refine Call_ (ld_blt I hg1 hm1 boot_dict ?_)
  refine PyProof.Rows.callWith_type1 (PyProof.Rows.args_cons ?_ s1) s1 rfl
  refine Call_ (ld_blt I hg2 hm2 PyProof.Rows.boot_zip ?_)
  have hA : PA X [a, b] (tCons ta (tCons tb tNil)) := pa_cons ha (pa_cons hb pa_nil s3) s2
  refine PyProof.Rows.callWith_type1 (thn (hA.run q2 pn sh sg H (fun vs H2 => ∃ x y : Str, vs = [.str x, .str y] ∧ x.cps.size ≤ 900 ∧ ∀ p, H2 p = none → Q (.ref p) (upd H2 p (.dK (mergeK [] (zipSigns x y))))) I ?_) fun us s1 ⟨vs, H1, I1, r1, x, y, e, hz, q⟩ => ?_) s2 hpl
  · exact h
  · obtain ⟨v1, v2, rfl, ⟨t1, rfl⟩, ⟨t2, rfl⟩⟩ := L2.vals2 (e ▸ r1)
    refine zip_begins2 (begins_text x t1) (begins_text y t2) trivial trivial fun h' b1 b2 b3 b4 b5 hsz hk => PyProof.Rows.args_nil ?_
    have I2 : Inv X pn sg H1 { s1 with heap := h' } := I1.kept (t' := s1.toks) hk
    have Z := zip_sep2 (N := s1.heap.objs.size) (fp1 := []) (fp2 := []) (fun b hb => nomatch hb) (fun b hb => nomatch hb)
    refine call_dictZip (sh := { s1 with heap := h' }) x y t1 t2 Z (Nat.ne_of_lt (Nat.lt_succ_self _)) (I1.ok.hd hc) hz ⟨b1, b2, ⟨_, _, b3⟩, ⟨_, b4, rfl, rfl⟩, ⟨_, b5, rfl, rfl⟩⟩ fun h2 tk vs rv t hk2 => ?_
    have kp : ∀ b o, s1.heap.get? b = some o → h2.get? b = some o := fun b o e => by
      have hb := Heap.lt_size e
      refine hk2 b o (fun m => ?_) (hk b o e)
      rcases (by simpa using m : b = s1.heap.objs.size + 4 ∨ b = s1.heap.objs.size + 3 ∨ b = s1.heap.objs.size ∨ b = s1.heap.objs.size + 1) with z | z | z | z
      · rw [z] at hb; exact absurd hb (Nat.not_lt.mpr (Nat.le_add_right _ _))
      · rw [z] at hb; exact absurd hb (Nat.not_lt.mpr (Nat.le_add_right _ _))
      · rw [z] at hb; exact absurd hb (Nat.lt_irrefl _)
      · rw [z] at hb; exact absurd hb (Nat.not_lt.mpr (Nat.le_add_right _ _))
    have ep : h'.objs.size = s1.heap.objs.size + 5 := hsz
    have hp : s1.heap.objs.size ≤ h'.objs.size := by omega
    have hm : (h'.objs.size == sysModules) = false := beq_eq_false_iff_ne.mpr (Nat.ne_of_gt (Nat.lt_of_lt_of_le I1.big hp))
    have hl : (mergeK [] (zipSigns x y)).length ≤ sizeLine := by
      refine Nat.le_trans (length_mergeK _ _) ?_
      rw [List.length_nil, zipSigns_len]
      exact Nat.le_of_lt (small1000 (by omega))
    exact ⟨.ref h'.objs.size, _, I1.laid (o := .dK (mergeK [] (zipSigns x y))) (t' := tk) kp hp ⟨hl, hm, vs, rv, t⟩, rfl, q _ (I1.hok.fresh hp)⟩
/-- d.update(e): two dicts with flat keys -/
def rUpd : V → List V → Hp → VK → Prop := fun x xs H Q => ∃ d e kvs more, x = .ref d ∧ xs = [.ref e] ∧ d ≠ e ∧ H d = some (.dK kvs) ∧ H e = some (.dK more) ∧ kvs.length + more.length ≤ 1000 ∧ Q .non (upd H d (.dK (mergeK kvs more)))
theorem mt_update : MtM X "dict.update" rUpd := by
  intro pn sh sg H x vs v us Q I rx rv h
  obtain ⟨d, e, kvs, more, rfl, rfl, hne, hd, he, hz, q⟩ := h
  cases rx
  obtain ⟨u, rfl, ru⟩ := rv.one
  cases ru
  obtain ⟨l1, l2, ws, r1, D1⟩ := dk_of I.hok hd
  obtain ⟨l3, l4, zs, r2, D2⟩ := dk_of I.hok he
  have hl : (mergeK kvs more).length ≤ sizeLine := Nat.le_trans (length_mergeK _ _) (Nat.le_of_lt (small1000 (by omega)))
  refine call_meetsIn PySem.F.slot_dict_update D1.typeIs PySem.F.entry_dict_update (PySem.F.args_dict_update_2 _ _) (meets_dict_update (mixKind X.prog X.w) d e hne l4) ⟨ws, zs, D1, D2, by rw [← r1.length, ← r2.length]; exact Nat.le_of_lt (small1000 (by omega)), fun h' dd' _ hs => ?_⟩
  have hx : ∃ q, h'.get? d = some q := let ⟨q, _, _, hq, _⟩ := dd'; ⟨q, hq⟩
  exact ⟨.non, _, d_write (t' := sh.toks) I (by rw [hd]; exact True.intro) hs hx (dk_new hl l2 (KV.merge r2 r1) dd'), rfl, q⟩
end
end Px

set_option maxRecDepth 100000
/-! PxR: law k19's _law_rows in plain Lean: numbers by last sign and length of the row. -/
namespace Px
open PySem L2
abbrev RT := List ((Nat × Nat) × Int)
def rowKey (k : Nat × Nat) : List Key := [Sum.inr (S [k.1]), Sum.inl (k.2 : Int)]
theorem rowKey_inj {a b : Nat × Nat} (h : rowKey a = rowKey b) : a = b := by
  unfold rowKey at h
  injection h with h1 h2
  injection h2 with h2 _
  have e1 := inr_eq.mp h1
  have e2 := Int.ofNat.inj (Sum.inl.inj h2)
  exact Prod.ext e1 e2
def rowV (D : RT) : List (List Key × V) := D.map fun x => (rowKey x.1, .int x.2)
def getO (D : RT) (k : Nat × Nat) : Option Int := (D.find? fun x => decide (x.1 = k)).map (·.2)
def putA (D : RT) (k : Nat × Nat) (v : Int) : RT := if D.any (fun x => decide (x.1 = k)) then D.map (fun x => if x.1 = k then (x.1, v) else x) else D ++ [(k, v)]
theorem rowV_val (D : RT) (k : Nat × Nat) : valV (rowV D) (rowKey k) = (getO D k).map V.int := by
  unfold valV getO rowV
  induction D with
  | nil => rfl
  | cons x D ih =>
    by_cases e : x.1 = k
    · simp [e]
    · have e2 : ¬ rowKey x.1 = rowKey k := fun z => e (rowKey_inj z)
      simp only [List.map_cons, List.find?_cons, e, e2, decide_false]
      exact ih
theorem rowV_any (D : RT) (k : Nat × Nat) : ((rowV D).any fun kv => decide (kv.1 = rowKey k)) = D.any fun x => decide (x.1 = k) := by
  unfold rowV
  rw [List.any_map]
  refine congrArg (D.any ·) (funext fun x => ?_)
  show decide (rowKey x.1 = rowKey k) = decide (x.1 = k)
  rw [decide_eq_decide]
  exact ⟨rowKey_inj, fun e => by rw [e]⟩
theorem rowV_put (D : RT) (k : Nat × Nat) (v : Int) : putK (rowV D) (rowKey k) (.int v) = rowV (putA D k v) := by
  unfold putK putA
  rw [rowV_any]
  split
  · unfold rowV
    rw [List.map_map, List.map_map]
    refine List.map_congr_left fun x _ => ?_
    show (if rowKey x.1 = rowKey k then (rowKey x.1, V.int v) else (rowKey x.1, V.int x.2)) = (rowKey (if x.1 = k then (x.1, v) else x).1, V.int (if x.1 = k then (x.1, v) else x).2)
    by_cases e : x.1 = k
    · rw [if_pos (by rw [e]), if_pos e]
    · rw [if_neg (fun z => e (rowKey_inj z)), if_neg e]
  · unfold rowV
    rw [List.map_append]
    rfl
theorem putA_keys {D : RT} {k : Nat × Nat} {v : Int} : (putA D k v).map (·.1) = if k ∈ D.map (·.1) then D.map (·.1) else D.map (·.1) ++ [k] := by
  have ea : (D.any fun x => decide (x.1 = k)) = true ↔ k ∈ D.map (·.1) := by
    rw [List.any_eq_true, List.mem_map]
    constructor
    · rintro ⟨x, hx, e⟩
      exact ⟨x, hx, of_decide_eq_true e⟩
    · rintro ⟨x, hx, e⟩
      exact ⟨x, hx, decide_eq_true e⟩
  unfold putA
  by_cases h : k ∈ D.map (·.1)
  · rw [if_pos (ea.mpr h), if_pos h, List.map_map]
    refine List.map_congr_left fun x _ => ?_
    show (if x.1 = k then (x.1, v) else x).1 = x.1
    split <;> rfl
  · rw [if_neg (fun z => h (ea.mp z)), if_neg h, List.map_append]
    rfl
/-- no key twice, each of these signs and lengths -/
structure RowOk (every : List Nat) (most : Nat) (D : RT) : Prop where
  nd : (D.map (·.1)).Nodup
  keys : ∀ k ∈ D.map (·.1), k.1 ∈ every ∧ k.2 ≤ most
theorem RowOk.put {every : List Nat} {most : Nat} {D : RT} (h : RowOk every most D) {k : Nat × Nat} {v : Int} (h1 : k.1 ∈ every) (h2 : k.2 ≤ most) : RowOk every most (putA D k v) := by
  constructor
  · rw [putA_keys]
    split
    · exact h.nd
    · rename_i n
      rw [List.nodup_append]
      exact ⟨h.nd, by simp, fun a ha b hb e => n (by rw [← List.mem_singleton.mp hb, ← e]; exact ha)⟩
  · rw [putA_keys]
    intro j hj
    split at hj
    · exact h.keys j hj
    · rcases List.mem_append.mp hj with q | q
      · exact h.keys j q
      · rw [List.mem_singleton.mp q]; exact ⟨h1, h2⟩
theorem RowOk.len {every : List Nat} {most : Nat} {D : RT} (h : RowOk every most D) : D.length ≤ every.length * (most + 1) := by
  have : (D.map (·.1)).length ≤ (every.flatMap fun c => (List.range (most + 1)).map fun l => (c, l)).length := nodup_le h.nd fun k hk => by
    obtain ⟨h1, h2⟩ := h.keys k hk
    exact List.mem_flatMap.mpr ⟨k.1, h1, List.mem_map.mpr ⟨k.2, List.mem_range.mpr (by omega), rfl⟩⟩
  rw [List.length_map, flat_len _ (most + 1) _ (fun x _ => by rw [List.length_map, List.length_range])] at this
  exact this
def rowTo (cls : List (T × T)) (k : Nat × Nat) (o : Nat) : Nat × Nat := (o, if nextOf cls k.1 = some o then k.2 + 1 else 1)
def rowPut (cls : List (T × T)) (most : Nat) (x : (Nat × Nat) × Int) (N : RT) (o : Nat) : RT :=
  if (rowTo cls x.1 o).2 ≤ most then putA N (rowTo cls x.1 o) ((getO N (rowTo cls x.1 o)).getD 0 + x.2) else N
def rowStep (cls : List (T × T)) (every : List Nat) (most : Nat) (D : RT) : RT := D.foldl (fun N x => every.foldl (rowPut cls most x) N) []
def row0 (every : List Nat) : RT := every.foldl (fun D c => putA D (c, 1) 1) []
def rowsN (cls : List (T × T)) (every : List Nat) (most : Nat) : Nat → RT
  | 0 => row0 every
  | n + 1 => rowStep cls every most (rowsN cls every most n)
def rows (cls : List (T × T)) (size most : Nat) : Int := if size = 0 then 1 else ((rowsN cls (cls.map (·.2)).flatten most (size - 1)).map (·.2)).sum
theorem RowOk.nil {every : List Nat} {most : Nat} : RowOk every most [] := ⟨List.nodup_nil, fun _ h => nomatch h⟩
theorem RowOk.one {cls : List (T × T)} {every : List Nat} {most : Nat} {x : (Nat × Nat) × Int} {N : RT} {o : Nat} (h : RowOk every most N) (ho : o ∈ every) : RowOk every most (rowPut cls most x N o) := by
  unfold rowPut
  split
  · exact h.put ho (by assumption)
  · exact h
theorem fold_inv {α β : Type} (R : β → Prop) (f : β → α → β) : ∀ (l : List α) (b : β), R b → (∀ b a, a ∈ l → R b → R (f b a)) → R (l.foldl f b)
  | [], _, h, _ => h
  | a :: l, b, h, s => fold_inv R f l _ (s b a (List.mem_cons_self ..) h) fun b a m => s b a (List.mem_cons_of_mem _ m)
theorem RowOk.step {cls : List (T × T)} {every : List Nat} {most : Nat} (D : RT) : RowOk every most (rowStep cls every most D) :=
  fold_inv (RowOk every most) _ D [] RowOk.nil fun N x _ h => fold_inv (RowOk every most) _ every N h fun N o ho h => h.one ho
theorem RowOk.start {every : List Nat} {most : Nat} (h : 1 ≤ most) : RowOk every most (row0 every) :=
  fold_inv (RowOk every most) _ every [] RowOk.nil fun N c hc hN => hN.put hc h
theorem RowOk.all {cls : List (T × T)} {every : List Nat} {most : Nat} (h : 1 ≤ most) : ∀ n, RowOk every most (rowsN cls every most n)
  | 0 => RowOk.start h
  | n + 1 => RowOk.step _
theorem getO_of {D : RT} {k : Nat × Nat} {n : Int} (nd : (D.map (·.1)).Nodup) (h : (k, n) ∈ D) : getO D k = some n := by
  unfold getO
  induction D with
  | nil => cases h
  | cons x D ih =>
    rw [List.map_cons, List.nodup_cons] at nd
    rw [List.find?_cons]
    by_cases e : x.1 = k
    · rcases List.mem_cons.mp h with q | q
      · rw [← q]; simp
      · exact absurd (List.mem_map.mpr ⟨_, q, e.symm⟩) nd.1
    · rcases List.mem_cons.mp h with q | q
      · exact absurd (by rw [← q]) e
      · simp only [e, decide_false]
        exact ih nd.2 q
theorem row0_app (a b : List Nat) : row0 (a ++ b) = b.foldl (fun D c => putA D (c, 1) 1) (row0 a) := by
  unfold row0
  rw [List.foldl_append]
theorem row0_len (a : List Nat) : (row0 a).length ≤ a.length * 2 := (RowOk.start (every := a) (most := 1) (Nat.le_refl _)).len
theorem rowV_len (D : RT) : (rowV D).length = D.length := List.length_map _
theorem merge_tab : ∀ (ps : List (Nat × Nat)) {kn : List (Key × V)} {l : List (Nat × Nat)}, TabF kn l → TabF (mergeK kn (ps.map fun p => (Sum.inr (S [p.1]), V.str (S [p.2])))) (l ++ ps)
  | [], kn, l, h => by rw [List.append_nil]; exact h
  | p :: ps, kn, l, h => by
    have := merge_tab ps (h.put (c := p.1) (n := p.2))
    rw [List.append_assoc] at this
    exact this
end Px

set_option maxRecDepth 100000
set_option maxHeartbeats 4000000
/-! PxL5: law k19's _law_rows. -/
namespace Px
open PySem PySem.Spec PyProof.Rows L2
theorem mergeK_new : ∀ (ps acc : List (Key × V)), ((acc ++ ps).map (·.1)).Nodup → mergeK acc ps = acc ++ ps
  | [], acc, _ => by rw [List.append_nil]; rfl
  | p :: ps, acc, h => by
    have hn : valV acc p.1 = none := by
      cases e : valV acc p.1 with
      | none => rfl
      | some v =>
        have := valV_in e
        rw [List.map_append, List.nodup_append] at h
        exact absurd rfl (h.2.2 _ this p.1 (by simp))
    show mergeK (putK acc p.1 p.2) ps = _
    rw [putK_new _ hn, mergeK_new ps (acc ++ [(p.1, p.2)]) (by rw [List.append_assoc]; exact h), List.append_assoc]
    rfl
theorem Kp.onto2 {L : List Addr} {H H1 : Hp} {a : Addr} {o u : HO} (k : Kp L H H1) (m : a ∈ L) (e : H a = some u) (nf : Fx u = false) : Kp L H (upd H1 a o) := by
  refine ⟨fun b v n q => ?_, fun b v f q => ?_⟩
  · rw [upd_ne (fun z => n (by rw [z]; exact m))]; exact k.keep b v n q
  · rw [upd_ne (fun z => by rw [z, e] at q; cases q; rw [nf] at f; cases f)]; exact k.fix b v f q
section
variable {P : Program} {w : World} {K : PySem.W.Frag} {mg : Str → Option Value} {base : Heap}
def spRows (K : PySem.W.Frag) : Sp := fun vs H Q _ => ∃ (v : V) (cls : List (T × T)) (size most : Nat), vs = [v, .int size, .int most] ∧ Dk K H v (.tup (cls.map clsKey)) ∧ Small ⟨cls, []⟩ ∧ ((cls.map (·.2)).flatten).Nodup ∧ size ≤ 100 ∧ 1 ≤ most ∧ most ≤ 10 ∧ ∀ H', Kp [] H H' → Q (.int (rows cls size most)) H'
theorem sc_law_rows : FnScope ["_law_classes_here", "_law_size", "_law_most", "_law_states", "_law_name", "_law_signs", "_law_sign", "_law_after", "_law_every", "_law_step", "_law_new", "_law_long", "_law_other", "_law_key"] ["_law_classes_here", "_law_size", "_law_most"] (defScope s__law_rows) := ⟨rfl, rfl, rfl, by decide +kernel, rfl, by decide +kernel, by decide +kernel⟩
theorem ok_law_rows (T : Top K w mg) : FnOk P w K mg base CX0 1 T.d__law_rows.f T.d__law_rows.fd ["_law_classes_here", "_law_size", "_law_most"] (spRows K) := by
  refine T.d__law_rows.F.ok sc_law_rows (fun vs H Q E h => ?_) (fun cdv A outer s H vs Q E hr h => ?_)
  · obtain ⟨a, b, c, d, rfl, _⟩ := h
    rfl
  obtain ⟨v, cls, size, most, rfl, d, hsm, nd, hs, h1, h2, q⟩ := h
  have hu := hr.units
  have hu1 := hu_of hr
  obtain ⟨c, xs, rfl, g1, d1⟩ := d.tupI
  refine ⟨_, pss_cons (ps_set (i := 3) sc_law_rows.nd rfl (Or.inr rfl) (pe_dnewT))
    (pss_cons (ps_for PassesOwn.never rfl (pi_tup (pv 0)) (pg_tup rfl (pgs_cons (pg_name (i := 4) sc_law_rows.nd rfl (Or.inl rfl)) (pgs_cons (pg_name (i := 5) sc_law_rows.nd rfl (Or.inl rfl)) (pgs_nil))))
    (pss_one (ps_for PassesOwn.never rfl (pi_str (pv 5)) (pg_name (i := 6) sc_law_rows.nd rfl (Or.inl rfl))
    (pss_one (ps_dput hu1 (pv 3) (pe_tup (pa_cons (pv 6) (pa_cons (pe_int) (pa_nil)))) (pe_int) rfl)))))
    (pss_cons (ps_par (i := 7) (j := 8) rfl sc_law_rows.nd rfl rfl (by decide) rfl rfl (pa_cons (pe_dnewK) (pa_cons (pe_callTy (cr_listS rfl) (by rfl) T.b_list PyProof.Rows.boot_list (pa_cons (pe_join (pe_str) (pe_lc (own := [("_law_name", 4), ("_law_signs", 5)]) (g := gTup K 2 (gCons (gName 4) (gCons (gName 5) (gNil)))) (tt := tYes) rfl sc_law_rows.nd (pi_tup (pv 0)) (blkOk_by (own := [("_law_name", 4), ("_law_signs", 5)]) (N := ["_law_classes_here", "_law_size", "_law_most", "_law_states", "_law_name", "_law_signs", "_law_sign", "_law_after", "_law_every", "_law_step", "_law_new", "_law_long", "_law_other", "_law_key"]) (sc := defScope s__law_rows) (by decide +kernel)) (fun _ _ _ _ _ => pgT (K := K) rfl (pgs_cons (pg_name (i := 4) sc_law_rows.nd rfl (Or.inl rfl)) (pgs_cons (pg_name (i := 5) sc_law_rows.nd rfl (Or.inl rfl)) (pgs_nil)))) (fun _ _ _ _ _ => pts_nil) (fun _ _ _ _ _ => pv 5))) (pa_nil))) (pa_nil))) (by rfl))
    (pss_cons (ps_for PassesOwn.never rfl (pi_tup (pv 0)) (pg_tup rfl (pgs_cons (pg_name (i := 4) sc_law_rows.nd rfl (Or.inl rfl)) (pgs_cons (pg_name (i := 5) sc_law_rows.nd rfl (Or.inl rfl)) (pgs_nil))))
    (pss_one (ps_expr (pe_bm PySem.F.plainAttrs_dict PySem.F.slot_dict_update PySem.F.type_dict_update mt_update (pv 7) (pa_cons (pe_dictZip rfl (by rfl) T.b_dict (by rfl) T.b_zip (pv 5) (pe_slice sl_str (pv 5) (po_some (pe_int)) po_none)) (pa_nil))))))
    (pss_cons (ps_for PassesOwn.never rfl (pi_range1 (by rfl) T.b_range (pa_cons (pe_op op_sub (pv 1) (pe_int)) (pa_nil))) (pg_name (i := 9) sc_law_rows.nd rfl (Or.inl rfl))
    (pss_cons (ps_set (i := 10) sc_law_rows.nd rfl (Or.inl rfl) (pe_dnewT))
    (pss_cons (ps_lock (ps_for PassesOwn.never rfl (pi_keys (pv 3)) (pg_tup rfl (pgs_cons (pg_name (i := 6) sc_law_rows.nd rfl (Or.inl rfl)) (pgs_cons (pg_name (i := 11) sc_law_rows.nd rfl (Or.inl rfl)) (pgs_nil))))
    (pss_one (ps_for PassesOwn.never rfl (pi_list (pv 8)) (pg_name (i := 12) sc_law_rows.nd rfl (Or.inl rfl))
    (pss_cons (ps_set (i := 13) sc_law_rows.nd rfl (Or.inl rfl) (pe_tup (pa_cons (pv 12) (pa_cons (pe_ifExp (pt_cmpR op_eq (pe_dget1 hu1 (pv 7) (pv 6) ⟨rfl, rfl, rfl, rfl⟩) (pv 12) (nomark _)) (pe_op op_add (pv 11) (pe_int)) (pe_int)) (pa_nil)))))
    (pss_one (ps_if (pt_cmpR op_le (pe_ix (ixT (K := K)) (pv 13) (pe_int) (fun _ _ => rfl)) (pv 2) (nomark _)) (pss_one (ps_dput hu1 (pv 10) (pv 13) (pe_op op_add (pe_dget2 hu1 (pv 10) (pv 13) (pe_int) ⟨rfl, rfl, rfl, rfl⟩) (pe_dget hu1 (pv 3) (pe_tup (pa_cons (pv 6) (pa_cons (pv 11) (pa_nil)))) (fun _ _ => rfl))) rfl)) (pss_nil))))))))
    (pss_one (ps_set (i := 3) sc_law_rows.nd rfl (Or.inr rfl) (pv 10))))))
    (pss_one (ps_ret (pe_ifExp (pt_cmpR op_eq (pv 1) (pe_int) (nomark _)) (pe_int) (pe_callB (sumK (K := K) rfl) (by rfl) T.b_sum (by decide +kernel) (pa_cons (pe_lock (pe_lc (own := [("_law_key", 13)]) (g := gName 13) (tt := tYes) rfl sc_law_rows.nd (pi_keys (pv 3)) (blkOk_by (own := [("_law_key", 13)]) (N := ["_law_classes_here", "_law_size", "_law_most", "_law_states", "_law_name", "_law_signs", "_law_sign", "_law_after", "_law_every", "_law_step", "_law_new", "_law_long", "_law_other", "_law_key"]) (sc := defScope s__law_rows) (by decide +kernel)) (fun _ _ _ _ _ => pg_name (i := 13) sc_law_rows.nd rfl (Or.inl rfl)) (fun _ _ _ _ _ => pts_nil) (fun _ _ _ _ _ => pe_dget hu1 (pv 3) (pv 13) (fun _ _ => rfl)))) (pa_nil)))))))))), ?_⟩
  have hl := d1.length
  rw [List.length_map] at hl
  have h4 : cls.length ≤ 4 := hsm.1
  have at_ : ∀ {i : Nat} {x : V} {L : List Addr} {H1 : Hp}, Kp L H H1 → xs[i]? = some x → ∃ z ∈ cls, cls[i]? = some z ∧ ∃ b, x = .ref b ∧ SqT K H1 b [.str (S z.1), .str (S z.2)] := fun k hx => by
    obtain ⟨kk, e, dk⟩ := d1.get hx
    rw [List.getElem?_map] at e
    obtain ⟨z, e1, rfl⟩ := Option.map_eq_some_iff.mp e
    exact ⟨z, List.mem_of_getElem? e1, e1, (dk.kp k).pair⟩
  have tk : ∀ {i : Nat} {z : List Nat × List Nat}, cls[i]? = some z → cls.take (i + 1) = cls.take i ++ [z] := fun e => by rw [List.take_add_one, e]; rfl
  have fl24 : ∀ i, ((cls.take i).map (·.2)).flatten.length ≤ 24 := fun i => by
    have h1 : ((cls.take i).map (·.2)).flatten.length ≤ ((cls.take i).map (·.2)).length * 6 := flat_le _ fun y hy => by
      obtain ⟨z, hz, rfl⟩ := List.mem_map.mp hy
      exact (hsm.2 z (List.mem_of_mem_take hz)).2
    rw [List.length_map, List.length_take] at h1
    omega
  -- states = {} and the first numbers
  refine fun d0 hd0 => ?_
  refine ⟨_, rfl, c, rfl, ⟨xs, (Kp.new (L := []) hd0).sqt g1⟩, for_it (walk_tup (xs := xs)) (fun i σ Hi => ∃ u4 u5 u6 : Option V, σ = [some (.ref c), some (.int size), some (.int most), some (.ref d0), u4, u5, u6, none, none, none, none, none, none, none] ∧ Kp [] H Hi ∧ Hi d0 = some (.dT (rowV (row0 ((cls.take i).map (·.2)).flatten)))) ⟨none, none, none, rfl, Kp.new hd0, upd_same⟩ (fun i σ Hi _ ⟨_, _, _, _, k, _⟩ => k.sqt g1) ?_ ?_⟩
  · rintro i x σ Hi H' hi ⟨u4, u5, u6, rfl, k1, e1⟩ ⟨rfl, hx⟩
    obtain ⟨z, hz, ez, b, rfl, hb⟩ := at_ k1 hx
    refine ⟨b, _, rfl, hb, rfl, _, _, rfl, _, _, rfl, rfl, ?_⟩
    have h62 := (hsm.2 z hz).2
    refine ⟨_, rfl, S z.2, rfl, for_it (walk_str (z := S z.2)) (fun j σ Hj => ∃ u6 : Option V, σ = [some (.ref c), some (.int size), some (.int most), some (.ref d0), some (.str (S z.1)), some (.str (S z.2)), u6, none, none, none, none, none, none, none] ∧ Kp [] H Hj ∧ Hj d0 = some (.dT (rowV (row0 (((cls.take i).map (·.2)).flatten ++ z.2.take j))))) ⟨_, rfl, k1, by rw [List.take_zero, List.append_nil]; exact e1⟩ (fun _ _ _ _ _ => trivial) ?_ ?_⟩
    · rintro j x σ Hj H' hj ⟨u6, rfl, k2, e2⟩ ⟨rfl, s1, hs1, rfl⟩
      have hs1 : z.2[j]? = some s1 := by simpa [S] using hs1
      refine ⟨_, rfl, _, rfl, by show 2 ≤ sizeLine; decide, fun t ht => ?_⟩
      have ht0 : t ≠ d0 := fun z => by rw [z, e2] at ht; cases ht
      have e3 : (upd H' t (.tup [.str (S [s1]), .int 1])) d0 = some (.dT (rowV (row0 (((cls.take i).map (·.2)).flatten ++ z.2.take j)))) := by rw [upd_ne ht0.symm]; exact e2
      have len : (rowV (row0 (((cls.take i).map (·.2)).flatten ++ z.2.take j))).length < sizeLine := by
        rw [rowV_len]
        refine Nat.lt_of_le_of_lt (row0_len _) (small1000 ?_)
        have := fl24 i
        rw [List.length_append, List.length_take]
        omega
      refine ⟨d0, _, rfl, DPut.t (k := rowKey (s1, 1)) e3 upd_same len, ?_⟩
      refine ⟨_, rfl, (k2.trans (Kp.new ht)).onto hd0, ?_⟩
      rw [upd_same, show (V.int 1) = V.int (1 : Int) from rfl, rowV_put, show z.2.take (j + 1) = z.2.take j ++ [s1] from by rw [List.take_add_one, hs1]; rfl, ← List.append_assoc, row0_app _ [s1]]
      rfl
    · rintro σ Hj ⟨u6, rfl, k2, e2⟩
      refine ⟨_, _, _, rfl, k2, ?_⟩
      rw [e2, tk ez, List.map_append, List.flatten_append, List.take_of_length_le (show z.2.length ≤ (S z.2).cps.size by simp [S])]
      simp
  rintro σ H1 ⟨u4, u5, u6, rfl, k1, e1⟩
  have etk : cls.take xs.length = cls := by rw [hl]; exact List.take_of_length_le (Nat.le_refl _)
  rw [etk] at e1
  have nall := fl24 cls.length
  rw [List.take_of_length_le (Nat.le_refl _)] at nall
  generalize hev : (cls.map (·.2)).flatten = every at e1 nall nd
  -- after, every = ..
  refine fun da hda => ⟨⟨_, rfl⟩, ?_⟩
  have k2 : Kp [] H1 (upd H1 da (.dK [])) := Kp.new hda
  have a2 : (upd H1 da (.dK [])) da = some (.dK []) := upd_same
  generalize upd H1 da (.dK []) = H2 at k2 a2 ⊢
  have k3 := k1.trans k2
  refine ⟨_, rfl, c, rfl, ⟨xs, k3.sqt g1⟩, fun D nD => ?_⟩
  refine lc_val (walk_tup (xs := xs)) [] (fun i => ((cls[i]?).map fun z => V.str (S z.2)).getD .non) (by omega) nD (fun z => nomatch z) (fun H' k => (k3.trans (k.drop1 nD)).sqt g1) (fun i y H4 H' Z hi k hy hZ => ?_) (fun H4 k4 hD => ?_)
  · obtain ⟨rfl, hx⟩ := hy
    obtain ⟨z, hz, e5, b, rfl, hb⟩ := at_ (k3.trans (k.drop1 nD)) hx
    refine ⟨b, _, rfl, hb, rfl, _, _, rfl, _, _, rfl, rfl, rfl, _, rfl, ?_⟩
    have := hZ _ Kp.refl
    rw [e5] at this
    exact this
  rw [hl, range_at] at hD
  refine ⟨_, D, (cls.map (·.2)).map S, rfl, rfl, .inl (SqL.of (by rw [hD, List.map_map, List.map_map]; rfl)), ?_, ?_⟩
  · have := sum_le (n := 6) (cls.map (·.2)) (fun y hy => by
      obtain ⟨c, hc, rfl⟩ := List.mem_map.mp hy
      exact (hsm.2 c hc).2)
    rw [List.map_map]
    rw [List.length_map] at this
    have e0 : ("" : Str).length = 0 := rfl
    rw [e0, Nat.mul_zero]
    exact Nat.le_trans this (by omega)
  rw [show Txt.join (_ : Str) ((cls.map (·.2)).map S) = S every from by rw [← hev]; exact join_flat _]
  refine ⟨S every, rfl, by show (S every).cps.size ≤ 4000; simp [S]; omega, fun de hde => ⟨_, _, rfl, ?_⟩⟩
  have k5 : Kp [] H2 (upd H4 de (.lst ((S every).cps.toList.map fun c => .str ⟨#[c]⟩))) := (k4.drop1 nD).trans (Kp.new hde)
  have b5 : (upd H4 de (.lst ((S every).cps.toList.map fun c => .str ⟨#[c]⟩))) de = some (.lst (every.map fun c => .str (S [c]))) := upd_same
  generalize upd H4 de (.lst ((S every).cps.toList.map fun c => .str ⟨#[c]⟩)) = H5 at k5 b5 ⊢
  have a5 := k5.at0 a2
  have e5 := k5.at0 (k2.at0 e1)
  have k6 := k3.trans k5
  have hdae : da ≠ de := fun z => by rw [z, b5] at a5; cases a5
  have h0a : d0 ≠ da := fun z => by rw [z, a5] at e5; cases e5
  have h0e : d0 ≠ de := fun z => by rw [z, b5] at e5; cases e5
  have fda : H da = none := k1.free0 hda
  -- after.update(..)
  refine ⟨_, rfl, c, rfl, ⟨xs, k6.sqt g1⟩, for_it (walk_tup (xs := xs)) (fun i σ Hi => ∃ (u4 u5 u6 : Option V) (kn : List (Key × V)), σ = [some (.ref c), some (.int size), some (.int most), some (.ref d0), u4, u5, u6, some (.ref da), some (.ref de), none, none, none, none, none] ∧ Kp [] H Hi ∧ Hi d0 = some (.dT (rowV (row0 every))) ∧
    Hi de = some (.lst (every.map fun c => .str (S [c]))) ∧ Hi da = some (.dK kn) ∧ TabF kn (fPairs (cls.take i)) ∧ kn.length ≤ 6 * i) ⟨_, _, _, [], rfl, k6, e5, b5, a5, (fun _ => rfl), Nat.le_refl _⟩ (fun i σ Hi _ ⟨_, _, _, _, _, k, _⟩ => k.sqt g1) ?_ ?_⟩
  · rintro i x σ Hi H' hi ⟨u4, u5, u6, kn, rfl, k7, e7, b7, a7, t7, l7⟩ ⟨rfl, hx⟩
    obtain ⟨z, hz, ez, b, rfl, hb⟩ := at_ k7 hx
    refine ⟨b, _, rfl, hb, rfl, _, _, rfl, _, _, rfl, rfl, ?_⟩
    have h62 := (hsm.2 z hz).2
    have hi4 : i < 4 := by omega
    have zn : z.2.Nodup := by
      have : z.2.Sublist every := by
        rw [← hev]
        exact List.sublist_flatten_of_mem (List.mem_map_of_mem hz)
      exact nd.sublist this
    refine ⟨_, rfl, .inr (.inr (.inl ⟨rfl, .inl ⟨_, a7⟩⟩)), _, rfl, _, rfl, 1, rfl, _, rfl, by rw [S_len]; exact Nat.le_of_lt (small1000 (by omega)), S z.2, S (z.2.drop 1), by rw [show (1 : Int) = ((1 : Nat) : Int) from rfl, cut_from], by show (S z.2).cps.size ≤ 900; simp [S]; omega, fun p hp => ?_⟩
    have ezs : zipSigns (S z.2) (S (z.2.drop 1)) = (z.2.zip (z.2.drop 1)).map fun p => (Sum.inr (S [p.1]), V.str (S [p.2])) := rfl
    have emg : mergeK [] (zipSigns (S z.2) (S (z.2.drop 1))) = (z.2.zip (z.2.drop 1)).map fun p => (Sum.inr (S [p.1]), V.str (S [p.2])) := by
      rw [ezs]
      refine mergeK_new _ [] ?_
      rw [List.nil_append, List.map_map]
      have h1 : ((z.2.zip (z.2.drop 1)).map (·.1)).Nodup := zn.sublist (zip_sub z.2)
      have : ((z.2.zip (z.2.drop 1)).map fun p => (Sum.inr (S [p.1]) : Key)) = ((z.2.zip (z.2.drop 1)).map (·.1)).map fun c => (Sum.inr (S [c]) : Key) := by rw [List.map_map]; rfl
      show ((z.2.zip (z.2.drop 1)).map fun p => (Sum.inr (S [p.1]) : Key)).Nodup
      rw [this]
      exact List.pairwise_map.mpr (h1.imp fun n e => n (inr_eq.mp e))
    have lz : (z.2.zip (z.2.drop 1)).length ≤ 6 := by rw [List.length_zip]; omega
    rw [emg]
    have hpa : p ≠ da := fun z => by rw [z, a7] at hp; cases hp
    have hp0 : p ≠ d0 := fun z => by rw [z, e7] at hp; cases hp
    have hpe : p ≠ de := fun z => by rw [z, b7] at hp; cases hp
    refine ⟨da, p, kn, _, rfl, rfl, hpa.symm, by rw [upd_ne hpa.symm]; exact a7, upd_same, by rw [List.length_map]; omega, ?_⟩
    refine ⟨_, _, _, mergeK kn ((z.2.zip (z.2.drop 1)).map fun p => (Sum.inr (S [p.1]), V.str (S [p.2]))), rfl, (k7.trans (Kp.new hp)).onto fda, by rw [upd_ne h0a, upd_ne hp0.symm]; exact e7, by rw [upd_ne hdae.symm, upd_ne hpe.symm]; exact b7, upd_same, ?_, ?_⟩
    · rw [tk ez]
      unfold fPairs
      rw [List.flatMap_append]
      have := merge_tab (z.2.zip (z.2.drop 1)) t7
      simpa [fPairs] using this
    · refine Nat.le_trans (length_mergeK _ _) ?_
      rw [List.length_map]
      omega
  rintro σ H7 ⟨u4', u5', u6', kn, rfl, k7, e7, b7, a7, t7, l7⟩
  rw [etk] at t7
  have next : ∀ s, valV kn (Sum.inr (S [s])) = (nextOf cls s).map fun e => .str (S [e]) := fun s => by
    rw [t7 s, lookup_rev (by rw [← hev] at nd; exact nd.sublist (fPairs_sub cls)), fPairs_at _ _ (by rw [hev]; exact nd)]
  clear t7 l7 a5 b5 e5 a2 k2 k5
  have ok : ∀ n, RowOk every most (rowsN cls every most n) := fun n => RowOk.all h1 n
  have len : ∀ {D : RT}, RowOk every most D → D.length ≤ 300 := fun h => by
    have h3 := h.len
    have h5 : every.length * (most + 1) ≤ 24 * 11 := Nat.mul_le_mul nall (by omega)
    omega
  -- the steps
  refine ⟨_, rfl, _, _, rfl, rfl, (size : Int) - 1, rfl, by omega, by omega, ?_⟩
  rw [show ((size : Int) - 1).toNat = size - 1 by omega]
  refine for_it (walk_range (lo := 0) (n := size - 1)) (fun i σ Hi => ∃ (dn : Addr) (u4 u5 u6 u9 u10 u11 u12 u13 : Option V), σ = [some (.ref c), some (.int size), some (.int most), some (.ref dn), u4, u5, u6, some (.ref da), some (.ref de), u9, u10, u11, u12, u13] ∧ Kp [d0] H7 Hi ∧ (∃ o, Hi d0 = some o) ∧ (dn = d0 ∨ H7 dn = none) ∧ Hi dn = some (.dT (rowV (rowsN cls every most i)))) ⟨d0, _, _, _, none, none, none, none, none, rfl, Kp.refl, ⟨_, e7⟩, .inl rfl, e7⟩ (fun _ _ _ _ _ => trivial) ?_ ?_
  · rintro i x σ Hi H' hi ⟨dn, u4, u5, u6, u9, u10, u11, u12, u13, rfl, k8, ⟨o0, t0⟩, hdn, en⟩ ⟨rfl, rfl⟩
    generalize hDn : rowsN cls every most i = Dn at en
    have okD : RowOk every most Dn := hDn ▸ ok i
    refine fun dw hdw => ?_
    have w0 : dw ≠ d0 := fun z => by rw [z, t0] at hdw; cases hdw
    have wn : dw ≠ dn := fun z => by rw [z, en] at hdw; cases hdw
    have fdw : H7 dw = none := k8.free (fun z => w0 (List.mem_singleton.mp z)) hdw
    have wa : dw ≠ da := fun z => by rw [z, a7] at fdw; cases fdw
    have we : dw ≠ de := fun z => by rw [z, b7] at fdw; cases fdw
    have na : dn ≠ da := fun z => by
      rcases hdn with q | q
      · exact h0a (q.symm.trans z)
      · rw [z, a7] at q; cases q
    have ne' : dn ≠ de := fun z => by
      rcases hdn with q | q
      · exact h0e (q.symm.trans z)
      · rw [z, b7] at q; cases q
    have wr : ∀ {H1 : Hp} {o : HO}, Kp [d0] H7 H1 → Kp [d0] H7 (upd H1 dn o) := fun k => by
      rcases hdn with q | q
      · rw [q]; exact k.onto2 (List.mem_singleton.mpr rfl) e7 rfl
      · exact k.onto q
    have ka : ∀ {H1 : Hp}, Kp [d0] H7 H1 → H1 da = some (.dK kn) := fun k => k.fix _ _ rfl a7
    have ke : ∀ {H1 : Hp}, Kp [d0] H7 H1 → H1 de = some (.lst (every.map fun c => .str (S [c]))) := fun k => k.keep _ _ (fun z => h0e (List.mem_singleton.mp z).symm) b7
    refine ⟨dn, .dT (rowV Dn), by rw [upd_ne wn.symm]; exact en, True.intro, fun od => ?_⟩
    have t1 : ∃ o, (upd (upd H' dw (.dT [])) dn (.frz od (.dT (rowV Dn)))) d0 = some o := by
      by_cases q : d0 = dn
      · rw [q]; exact ⟨_, upd_same⟩
      · rw [upd_ne q, upd_ne w0.symm]; exact ⟨_, t0⟩
    refine ⟨_, rfl, dn, od, rfl, .inr ⟨rowV Dn, upd_same, ?_⟩⟩
    refine for_it (walk_keysT (d := dn) (o := od) (kvs := rowV Dn)) (fun j σ Hj => ∃ u6 u11 u12 u13 : Option V, σ = [some (.ref c), some (.int size), some (.int most), some (.ref dn), u4, u5, u6, some (.ref da), some (.ref de), some (.int (0 + (i : Nat))), some (.ref dw), u11, u12, u13] ∧ Kp [d0] H7 Hj ∧ (∃ o, Hj d0 = some o) ∧ Hj dn = some (.frz od (.dT (rowV Dn))) ∧
      Hj dw = some (.dT (rowV ((Dn.take j).foldl (fun N x => every.foldl (rowPut cls most x) N) [])))) ⟨_, _, _, _, rfl, wr (k8.trans (Kp.new hdw)), t1, upd_same, by rw [upd_ne wn, upd_same]; rfl⟩ (fun j σ Hj _ ⟨_, _, _, _, _, _, _, q, _⟩ => q) ?_ ?_
    · rintro j x σ Hj H'' hj ⟨u6, u11, u12, u13, rfl, k9, t9, f9, w9⟩ ⟨rfl, kk, vv, qq, ekv, rfl, hqq⟩
      obtain ⟨⟨⟨s1, lg⟩, num⟩, ed, ekv2⟩ : ∃ y, Dn[j]? = some y ∧ (rowKey y.1, V.int y.2) = (kk, vv) := by
        unfold rowV at ekv
        rw [List.getElem?_map] at ekv
        obtain ⟨y, e1, e2⟩ := Option.map_eq_some_iff.mp ekv
        exact ⟨y, e1, e2⟩
      injection ekv2 with q1 q2
      subst q1
      subst q2
      have hmem := List.mem_of_getElem? ed
      have hlg : s1 ∈ every ∧ lg ≤ most := okD.keys (s1, lg) (List.mem_map.mpr ⟨_, hmem, rfl⟩)
      refine ⟨qq, _, rfl, SqT.of hqq, rfl, _, _, rfl, _, _, rfl, rfl, ?_⟩
      have okN : ∀ l, RowOk every most ((every.take l).foldl (rowPut cls most ((s1, lg), num)) ((Dn.take j).foldl (fun N x => every.foldl (rowPut cls most x) N) [])) := fun l =>
        fold_inv (RowOk every most) _ _ _ (fold_inv (RowOk every most) _ _ [] RowOk.nil fun N x _ h => fold_inv (RowOk every most) _ every N h fun N o ho h => h.one ho) fun N o ho h => h.one (List.mem_of_mem_take ho)
      generalize hN0 : (Dn.take j).foldl (fun N x => every.foldl (rowPut cls most x) N) [] = N0 at w9 okN
      -- for other in every
      refine ⟨_, rfl, de, rfl, ⟨_, SqL.of (ke k9)⟩, for_it (walk_list (xs := every.map fun c => .str (S [c]))) (fun l σ Hl => ∃ u12 u13 : Option V, σ = [some (.ref c), some (.int size), some (.int most), some (.ref dn), u4, u5, some (.str (S [s1])), some (.ref da), some (.ref de), some (.int (0 + (i : Nat))), some (.ref dw), some (.int (lg : Nat)), u12, u13] ∧ Kp [d0] H7 Hl ∧ (∃ o, Hl d0 = some o) ∧ Hl dn = some (.frz od (.dT (rowV Dn))) ∧
        Hl dw = some (.dT (rowV ((every.take l).foldl (rowPut cls most ((s1, lg), num)) N0)))) ⟨_, _, rfl, k9, t9, f9, w9⟩ (fun l σ Hl _ ⟨_, _, _, k, _⟩ => SqL.of (ke k)) ?_ ?_⟩
      · rintro l x σ Hl H3 hl3 ⟨u12, u13, rfl, k10, ⟨o10, t10⟩, f10, w10⟩ ⟨rfl, hx⟩
        rw [List.getElem?_map] at hx
        obtain ⟨ot, eot, rfl⟩ := Option.map_eq_some_iff.mp hx
        have hot := List.mem_of_getElem? eot
        have etake : every.take (l + 1) = every.take l ++ [ot] := by rw [List.take_add_one, eot]; rfl
        have okl := okN l
        rw [etake, List.foldl_append]
        generalize hNl : (every.take l).foldl (rowPut cls most ((s1, lg), num)) N0 = Nl at w10 okl
        have fold1 : List.foldl (rowPut cls most ((s1, lg), num)) Nl [ot] = rowPut cls most ((s1, lg), num) Nl ot := rfl
        rw [fold1]
        have okl2 : RowOk every most (rowPut cls most ((s1, lg), num) Nl ot) := okl.one hot
        have lenl := len okl
        clear hNl hN0 okN
        -- what follows once the key's length is known
        have fin : ∀ (lo : Nat), lo = (if nextOf cls s1 = some ot then lg + 1 else 1) → rowPut cls most ((s1, lg), num) Nl ot = if lo ≤ most then putA Nl (ot, lo) ((getO Nl (ot, lo)).getD 0 + num) else Nl := fun lo e => by
          subst e
          rfl
        refine ⟨_, rfl, _, rfl, da, rfl, .inl ⟨kn, .inl (ka k10)⟩, _, rfl, _, DGet.k (k := Sum.inr (S [s1])) (ka k10), ?_⟩
        rw [next s1]
        cases en2 : nextOf cls s1 with
        | none =>
          have elo : 1 = (if nextOf cls s1 = some ot then lg + 1 else 1) := by rw [en2, if_neg (fun z => by cases z)]
          refine ⟨_, rfl, rfl, _, rfl, iteN (fun z => by cases z) ?_⟩
          refine ⟨by show 2 ≤ sizeLine; decide, fun T1 hT1 => ?_⟩
          have d1n : T1 ≠ dn := fun z => by rw [z, f10] at hT1; cases hT1
          have d1w : T1 ≠ dw := fun z => by rw [z, w10] at hT1; cases hT1
          have d10 : T1 ≠ d0 := fun z => by rw [z, t10] at hT1; cases hT1
          have k11 : Kp [d0] H7 (upd H3 T1 (.tup [.str (S [ot]), .int 1])) := k10.trans (Kp.new hT1)
          have f11 : (upd H3 T1 (.tup [.str (S [ot]), .int 1])) dn = some (.frz od (.dT (rowV Dn))) := by rw [upd_ne d1n.symm]; exact f10
          have w11 : (upd H3 T1 (.tup [.str (S [ot]), .int 1])) dw = some (.dT (rowV Nl)) := by rw [upd_ne d1w.symm]; exact w10
          have t11 : (upd H3 T1 (.tup [.str (S [ot]), .int 1])) d0 = some o10 := by rw [upd_ne d10.symm]; exact t10
          have T11 : (upd H3 T1 (.tup [.str (S [ot]), .int 1])) T1 = some (.tup [.str (S [ot]), .int 1]) := upd_same
          have fl := fin 1 elo
          refine ⟨_, rfl, T1, _, _, _, rfl, rfl, SqT.of T11, atI_nat (j := 1) rfl, _, rfl, _, _, rfl, rfl, _, rfl, ?_⟩
          generalize upd H3 T1 (.tup [.str (S [ot]), .int 1]) = H11 at k11 f11 w11 t11 T11 ⊢
          by_cases hlo : 1 ≤ most
          · refine iteD (show (1 : Int) ≤ (most : Int) by omega) ?_
            rw [if_pos hlo] at fl
            refine ⟨_, rfl, dw, rfl, .inr ⟨_, .inl w11⟩, _, rfl, _, DGet.t (k := rowKey (ot, 1)) w11 T11, ?_⟩
            refine ⟨_, rfl, _, rfl, _, rfl, by show 2 ≤ sizeLine; decide, fun T2 hT2 => ?_⟩
            have d2n : T2 ≠ dn := fun z => by rw [z, f11] at hT2; cases hT2
            have d2w : T2 ≠ dw := fun z => by rw [z, w11] at hT2; cases hT2
            have d20 : T2 ≠ d0 := fun z => by rw [z, t11] at hT2; cases hT2
            have d21 : T2 ≠ T1 := fun z => by rw [z, T11] at hT2; cases hT2
            have vN : valV (rowV Dn) (rowKey (s1, lg)) = some (.int num) := by rw [rowV_val, getO_of okD.nd hmem]; rfl
            refine ⟨dn, .int num, rfl, .inr ⟨rowV Dn, rowKey (s1, lg), T2, .inr ⟨od, by rw [upd_ne d2n.symm]; exact f11⟩, rfl, upd_same, vN.symm⟩, ?_⟩
            rw [rowV_val]
            have e12 : ((getO Nl (ot, 1)).map V.int).getD (.int 0) = .int ((getO Nl (ot, 1)).getD 0) := by cases getO Nl (ot, 1) <;> rfl
            rw [e12]
            refine ⟨_, _, rfl, rfl, _, rfl, _, rfl, dw, _, rfl, DPut.t (k := rowKey (ot, 1)) (by rw [upd_ne d2w.symm]; exact w11) (by rw [upd_ne d21.symm]; exact T11) (by rw [rowV_len]; exact small1000 (by omega)), ?_⟩
            refine ⟨_, _, rfl, (k11.trans (Kp.new hT2)).onto fdw, ⟨o10, by rw [upd_ne w0.symm, upd_ne d20.symm]; exact t11⟩, by rw [upd_ne wn.symm, upd_ne d2n.symm]; exact f11, ?_⟩
            rw [upd_same, rowV_put, fl]
          · refine iteN (show ¬ (1 : Int) ≤ (most : Int) by omega) ?_
            rw [if_neg hlo] at fl
            refine ⟨_, _, rfl, k11, ⟨o10, t11⟩, f11, ?_⟩
            rw [w11, fl]
        | some e' =>
          refine ⟨_, rfl, rfl, _, rfl, ite2 (fun hb => ?_) (fun hb => ?_)⟩
          · have hb : [e'] = [ot] := S_inj (V.str.inj (of_decide_eq_true hb))
            have elo : lg + 1 = (if nextOf cls s1 = some ot then lg + 1 else 1) := by rw [en2, if_pos (by rw [(List.cons.inj hb).1])]
            refine ⟨_, rfl, _, _, rfl, rfl, ?_⟩
            refine ⟨by show 2 ≤ sizeLine; decide, fun T1 hT1 => ?_⟩
            have d1n : T1 ≠ dn := fun z => by rw [z, f10] at hT1; cases hT1
            have d1w : T1 ≠ dw := fun z => by rw [z, w10] at hT1; cases hT1
            have d10 : T1 ≠ d0 := fun z => by rw [z, t10] at hT1; cases hT1
            have k11 : Kp [d0] H7 (upd H3 T1 (.tup [.str (S [ot]), .int ((lg : Int) + 1)])) := k10.trans (Kp.new hT1)
            have f11 : (upd H3 T1 (.tup [.str (S [ot]), .int ((lg : Int) + 1)])) dn = some (.frz od (.dT (rowV Dn))) := by rw [upd_ne d1n.symm]; exact f10
            have w11 : (upd H3 T1 (.tup [.str (S [ot]), .int ((lg : Int) + 1)])) dw = some (.dT (rowV Nl)) := by rw [upd_ne d1w.symm]; exact w10
            have t11 : (upd H3 T1 (.tup [.str (S [ot]), .int ((lg : Int) + 1)])) d0 = some o10 := by rw [upd_ne d10.symm]; exact t10
            have T11 : (upd H3 T1 (.tup [.str (S [ot]), .int ((lg : Int) + 1)])) T1 = some (.tup [.str (S [ot]), .int ((lg : Int) + 1)]) := upd_same
            have fl := fin (lg + 1) elo
            refine ⟨_, rfl, T1, _, _, _, rfl, rfl, SqT.of T11, atI_nat (j := 1) rfl, _, rfl, _, _, rfl, rfl, _, rfl, ?_⟩
            generalize upd H3 T1 (.tup [.str (S [ot]), .int ((lg : Int) + 1)]) = H11 at k11 f11 w11 t11 T11 ⊢
            by_cases hlo : (lg + 1) ≤ most
            · refine iteD (show ((lg : Int) + 1) ≤ (most : Int) by omega) ?_
              rw [if_pos hlo] at fl
              refine ⟨_, rfl, dw, rfl, .inr ⟨_, .inl w11⟩, _, rfl, _, DGet.t (k := rowKey (ot, (lg + 1))) w11 T11, ?_⟩
              refine ⟨_, rfl, _, rfl, _, rfl, by show 2 ≤ sizeLine; decide, fun T2 hT2 => ?_⟩
              have d2n : T2 ≠ dn := fun z => by rw [z, f11] at hT2; cases hT2
              have d2w : T2 ≠ dw := fun z => by rw [z, w11] at hT2; cases hT2
              have d20 : T2 ≠ d0 := fun z => by rw [z, t11] at hT2; cases hT2
              have d21 : T2 ≠ T1 := fun z => by rw [z, T11] at hT2; cases hT2
              have vN : valV (rowV Dn) (rowKey (s1, lg)) = some (.int num) := by rw [rowV_val, getO_of okD.nd hmem]; rfl
              refine ⟨dn, .int num, rfl, .inr ⟨rowV Dn, rowKey (s1, lg), T2, .inr ⟨od, by rw [upd_ne d2n.symm]; exact f11⟩, rfl, upd_same, vN.symm⟩, ?_⟩
              rw [rowV_val]
              have e12 : ((getO Nl (ot, (lg + 1))).map V.int).getD (.int 0) = .int ((getO Nl (ot, (lg + 1))).getD 0) := by cases getO Nl (ot, (lg + 1)) <;> rfl
              rw [e12]
              refine ⟨_, _, rfl, rfl, _, rfl, _, rfl, dw, _, rfl, DPut.t (k := rowKey (ot, (lg + 1))) (by rw [upd_ne d2w.symm]; exact w11) (by rw [upd_ne d21.symm]; exact T11) (by rw [rowV_len]; exact small1000 (by omega)), ?_⟩
              refine ⟨_, _, rfl, (k11.trans (Kp.new hT2)).onto fdw, ⟨o10, by rw [upd_ne w0.symm, upd_ne d20.symm]; exact t11⟩, by rw [upd_ne wn.symm, upd_ne d2n.symm]; exact f11, ?_⟩
              rw [upd_same, rowV_put, fl]
            · refine iteN (show ¬ ((lg : Int) + 1) ≤ (most : Int) by omega) ?_
              rw [if_neg hlo] at fl
              refine ⟨_, _, rfl, k11, ⟨o10, t11⟩, f11, ?_⟩
              rw [w11, fl]
          · have hb : ¬ e' = ot := fun z => hb (decide_eq_true (by rw [z]; rfl))
            have elo : 1 = (if nextOf cls s1 = some ot then lg + 1 else 1) := by rw [en2, if_neg (fun z => hb (Option.some.inj z))]
            refine ⟨by show 2 ≤ sizeLine; decide, fun T1 hT1 => ?_⟩
            have d1n : T1 ≠ dn := fun z => by rw [z, f10] at hT1; cases hT1
            have d1w : T1 ≠ dw := fun z => by rw [z, w10] at hT1; cases hT1
            have d10 : T1 ≠ d0 := fun z => by rw [z, t10] at hT1; cases hT1
            have k11 : Kp [d0] H7 (upd H3 T1 (.tup [.str (S [ot]), .int 1])) := k10.trans (Kp.new hT1)
            have f11 : (upd H3 T1 (.tup [.str (S [ot]), .int 1])) dn = some (.frz od (.dT (rowV Dn))) := by rw [upd_ne d1n.symm]; exact f10
            have w11 : (upd H3 T1 (.tup [.str (S [ot]), .int 1])) dw = some (.dT (rowV Nl)) := by rw [upd_ne d1w.symm]; exact w10
            have t11 : (upd H3 T1 (.tup [.str (S [ot]), .int 1])) d0 = some o10 := by rw [upd_ne d10.symm]; exact t10
            have T11 : (upd H3 T1 (.tup [.str (S [ot]), .int 1])) T1 = some (.tup [.str (S [ot]), .int 1]) := upd_same
            have fl := fin 1 elo
            refine ⟨_, rfl, T1, _, _, _, rfl, rfl, SqT.of T11, atI_nat (j := 1) rfl, _, rfl, _, _, rfl, rfl, _, rfl, ?_⟩
            generalize upd H3 T1 (.tup [.str (S [ot]), .int 1]) = H11 at k11 f11 w11 t11 T11 ⊢
            by_cases hlo : 1 ≤ most
            · refine iteD (show (1 : Int) ≤ (most : Int) by omega) ?_
              rw [if_pos hlo] at fl
              refine ⟨_, rfl, dw, rfl, .inr ⟨_, .inl w11⟩, _, rfl, _, DGet.t (k := rowKey (ot, 1)) w11 T11, ?_⟩
              refine ⟨_, rfl, _, rfl, _, rfl, by show 2 ≤ sizeLine; decide, fun T2 hT2 => ?_⟩
              have d2n : T2 ≠ dn := fun z => by rw [z, f11] at hT2; cases hT2
              have d2w : T2 ≠ dw := fun z => by rw [z, w11] at hT2; cases hT2
              have d20 : T2 ≠ d0 := fun z => by rw [z, t11] at hT2; cases hT2
              have d21 : T2 ≠ T1 := fun z => by rw [z, T11] at hT2; cases hT2
              have vN : valV (rowV Dn) (rowKey (s1, lg)) = some (.int num) := by rw [rowV_val, getO_of okD.nd hmem]; rfl
              refine ⟨dn, .int num, rfl, .inr ⟨rowV Dn, rowKey (s1, lg), T2, .inr ⟨od, by rw [upd_ne d2n.symm]; exact f11⟩, rfl, upd_same, vN.symm⟩, ?_⟩
              rw [rowV_val]
              have e12 : ((getO Nl (ot, 1)).map V.int).getD (.int 0) = .int ((getO Nl (ot, 1)).getD 0) := by cases getO Nl (ot, 1) <;> rfl
              rw [e12]
              refine ⟨_, _, rfl, rfl, _, rfl, _, rfl, dw, _, rfl, DPut.t (k := rowKey (ot, 1)) (by rw [upd_ne d2w.symm]; exact w11) (by rw [upd_ne d21.symm]; exact T11) (by rw [rowV_len]; exact small1000 (by omega)), ?_⟩
              refine ⟨_, _, rfl, (k11.trans (Kp.new hT2)).onto fdw, ⟨o10, by rw [upd_ne w0.symm, upd_ne d20.symm]; exact t11⟩, by rw [upd_ne wn.symm, upd_ne d2n.symm]; exact f11, ?_⟩
              rw [upd_same, rowV_put, fl]
            · refine iteN (show ¬ (1 : Int) ≤ (most : Int) by omega) ?_
              rw [if_neg hlo] at fl
              refine ⟨_, _, rfl, k11, ⟨o10, t11⟩, f11, ?_⟩
              rw [w11, fl]
      · rintro σ Hl ⟨u12, u13, rfl, k10, t10, f10, w10⟩
        refine ⟨_, _, _, _, rfl, k10, t10, f10, ?_⟩
        rw [w10, List.length_map, List.take_of_length_le (Nat.le_refl _), show Dn.take (j + 1) = Dn.take j ++ [((s1, lg), num)] from by rw [List.take_add_one, ed]; rfl, List.foldl_append, hN0]
        rfl
    · rintro σ Hj ⟨u6, u11, u12, u13, rfl, k9, ⟨o9, t9⟩, f9, w9⟩
      rw [rowV_len, List.take_of_length_le (Nat.le_refl _)] at w9
      refine ⟨f9, _, rfl, dw, _, _, _, _, _, _, _, _, rfl, wr k9, ?_, .inr fdw, ?_⟩
      · by_cases q : d0 = dn
        · rw [q]; exact ⟨_, upd_same⟩
        · rw [upd_ne q]; exact ⟨_, t9⟩
      · rw [upd_ne wn, w9, rowsN, hDn]
        rfl
  · rintro σ Hi ⟨dn, u4, u5, u6, u9, u10, u11, u12, u13, rfl, k8, ⟨o0, t0⟩, hdn, en⟩
    have kp : ∀ {H9 : Hp}, Kp [] H7 H9 → Kp [] H H9 := fun k => k7.trans k
    have k0 : ∀ {H9 : Hp}, Kp [d0] H7 H9 → Kp [] H H9 := fun k => (k7.up.trans k).fresh hd0
    refine ⟨_, rfl, rfl, _, rfl, ite2 (fun hz => ?_) (fun hz => ?_)⟩
    · have hz : size = 0 := Int.ofNat.inj (V.int.inj (of_decide_eq_true hz))
      have := q Hi (k0 k8)
      rw [rows, if_pos hz] at this
      exact this
    · have hz : size ≠ 0 := fun e => hz (decide_eq_true (by rw [e]; rfl))
      generalize hDn : rowsN cls every most (size - 1) = Dn at en
      have okD : RowOk every most Dn := hDn ▸ ok _
      have hlen := len okD
      refine ⟨dn, .dT (rowV Dn), en, True.intro, fun od => ?_⟩
      refine ⟨_, rfl, dn, od, rfl, .inr ⟨rowV Dn, upd_same, fun D9 nD9 => ?_⟩⟩
      have d9n : D9 ≠ dn := fun z => by rw [z, upd_same] at nD9; cases nD9
      refine lc_val (walk_keysT (d := dn) (o := od) (kvs := rowV Dn)) [] (fun i => ((Dn[i]?).map fun y => V.int y.2).getD .non) (by rw [rowV_len]; omega) nD9 (fun z => nomatch z) (fun H' k => k.keep dn _ (fun z => d9n (List.mem_singleton.mp z).symm) upd_same) (fun j x H5 H6 Z hj kk hY hZ => ?_) (fun H5 kk hD9 => ?_)
      · obtain ⟨rfl, kk2, vv, qq, ekv, rfl, hqq⟩ := hY
        obtain ⟨⟨kx, num⟩, ed, ekv2⟩ : ∃ y, Dn[j]? = some y ∧ (rowKey y.1, V.int y.2) = (kk2, vv) := by
          unfold rowV at ekv
          rw [List.getElem?_map] at ekv
          obtain ⟨y, e1, e2⟩ := Option.map_eq_some_iff.mp ekv
          exact ⟨y, e1, e2⟩
        injection ekv2 with q1 q2
        subst q1
        subst q2
        have hmem := List.mem_of_getElem? ed
        have f5 : H6 dn = some (.frz od (.dT (rowV Dn))) := kk.keep dn _ (fun z => d9n (List.mem_singleton.mp z).symm) upd_same
        have vN : valV (rowV Dn) (rowKey kx) = some (.int num) := by rw [rowV_val, getO_of okD.nd hmem]; rfl
        refine ⟨rfl, _, rfl, _, rfl, dn, .int num, rfl, .inr ⟨rowV Dn, rowKey kx, qq, .inr ⟨od, f5⟩, rfl, hqq, vN.symm⟩, ?_⟩
        have := hZ _ Kp.refl
        rw [ed] at this
        exact this
      · rw [rowV_len, range_at] at hD9
        have f5 : H5 dn = some (.frz od (.dT (rowV Dn))) := kk.keep dn _ (fun z => d9n (List.mem_singleton.mp z).symm) upd_same
        have wr : ∀ {H1 : Hp} {o : HO}, Kp [d0] H7 H1 → Kp [d0] H7 (upd H1 dn o) := fun k => by
          rcases hdn with q | q
          · rw [q]; exact k.onto2 (List.mem_singleton.mpr rfl) e7 rfl
          · exact k.onto q
        refine ⟨f5, D9, Dn.map (·.2), rfl, SqL.of (by rw [upd_ne d9n, hD9, List.map_map]; rfl), ?_⟩
        have := q _ (k0 (wr ((wr (o := .frz od (.dT (rowV Dn))) k8).trans (kk.drop1 nD9).up) : Kp [d0] H7 (upd H5 dn (.dT (rowV Dn)))))
        rw [rows, if_neg hz, hev, hDn] at this
        exact this
end
end Px

set_option maxRecDepth 100000
set_option maxHeartbeats 4000000
/-! PxP: law k19's plain law: numbers by vectors over the states, checked by the kernel. -/
namespace Px
open PySem L2
/-- where a state stands, if it stands there -/
def idxOf (Ss : List (List RS)) (code : List RS → Nat) (codes : List Nat) (s : List RS) : Nat := codes.findIdx (fun c => Nat.beq c (code s))
/-- the places that a state leads to; none if one of them is not in the list -/
def rowOf (p : Pol) (Ss : List (List RS)) (code : List RS → Nat) (codes : List Nat) (st : List RS) : Option (List Nat) :=
  p.signs.foldr (fun c acc => acc.bind fun l => match stepS p st c with
    | none => some l
    | some s => let j := idxOf Ss code codes s; if Ss[j]? = some s then some (j :: l) else none) (some [])
def tabOf (p : Pol) (Ss : List (List RS)) (code : List RS → Nat) : Option (List (List Nat)) := Ss.foldr (fun st acc => acc.bind fun l => (rowOf p Ss code (Ss.map code) st).map (· :: l)) (some [])
def vec0 (p : Pol) (Ss : List (List RS)) : List Nat := Ss.map fun st => if fineS p st then 1 else 0
def vecS (tab : List (List Nat)) (v : List Nat) : List Nat := tab.map fun r => r.foldl (fun a j => a + v.getD j 0) 0
theorem rowOf_spec {p : Pol} {Ss : List (List RS)} {code : List RS → Nat} {codes : List Nat} {st : List RS} (g : List RS → Nat) : ∀ (cs : List Nat) {r : List Nat},
    cs.foldr (fun c acc => acc.bind fun l => match stepS p st c with
      | none => some l
      | some s => let j := idxOf Ss code codes s; if Ss[j]? = some s then some (j :: l) else none) (some []) = some r →
    (r.map fun j => ((Ss[j]?).map g).getD 0).sum = (cs.map fun c => match stepS p st c with | none => 0 | some s => g s).sum
  | [], r, h => by
    cases h
    rfl
  | c :: cs, r, h => by
    rw [List.foldr_cons] at h
    obtain ⟨l, hl, h⟩ := Option.bind_eq_some_iff.mp h
    have ih := rowOf_spec g cs hl
    rw [List.map_cons, List.sum_cons, ← ih]
    cases e : stepS p st c with
    | none =>
      rw [e] at h
      cases h
      simp
    | some s =>
      rw [e] at h
      simp only at h
      split at h
      · rename_i q
        cases h
        rw [List.map_cons, List.sum_cons, q]
        rfl
      · cases h
theorem foldl_add (v : List Nat) : ∀ (r : List Nat) (a : Nat), r.foldl (fun a j => a + v.getD j 0) a = a + (r.map fun j => v.getD j 0).sum
  | [], a => by simp
  | j :: r, a => by
    rw [List.foldl_cons, foldl_add v r, List.map_cons, List.sum_cons, Nat.add_assoc]
theorem tabOf_spec {p : Pol} {Ss : List (List RS)} {code : List RS → Nat} {codes : List Nat} (n : Nat) : ∀ (Ts : List (List RS)) {tab : List (List Nat)},
    Ts.foldr (fun st acc => acc.bind fun l => (rowOf p Ss code codes st).map (· :: l)) (some []) = some tab → vecS tab (Ss.map (many p n)) = Ts.map (many p (n + 1))
  | [], tab, h => by cases h; rfl
  | st :: Ts, tab, h => by
    rw [List.foldr_cons] at h
    obtain ⟨l, hl, h⟩ := Option.bind_eq_some_iff.mp h
    obtain ⟨r, hr, rfl⟩ := Option.map_eq_some_iff.mp h
    have ih := tabOf_spec n Ts hl
    unfold vecS at ih ⊢
    rw [List.map_cons, List.map_cons, ih, foldl_add, Nat.zero_add]
    refine congrArg (· :: _) ?_
    have := rowOf_spec (many p n) p.signs hr
    rw [many]
    refine Eq.trans (congrArg List.sum (List.map_congr_left fun j _ => ?_)) this
    rw [List.getD_eq_getElem?_getD, List.getElem?_map]
def vecs (p : Pol) (tab : List (List Nat)) (v : List Nat) : Nat → List Nat
  | 0 => v
  | n + 1 => vecS tab (vecs p tab v n)
theorem vecs_spec {p : Pol} {Ss : List (List RS)} {code : List RS → Nat} {tab : List (List Nat)} (h : tabOf p Ss code = some tab) : ∀ n, vecs p tab (vec0 p Ss) n = Ss.map (many p n)
  | 0 => rfl
  | n + 1 => by
    rw [vecs, vecs_spec h n]
    exact tabOf_spec n Ss h
/-- the numbers of sizes up to k agree with f -/
def agree (tab : List (List Nat)) : Nat → Nat → List Nat → (Nat → Int) → Bool
  | 0, n, v, f => decide (((v.getD 0 0 : Nat) : Int) = f n)
  | k + 1, n, v, f => decide (((v.getD 0 0 : Nat) : Int) = f n) && agree tab k (n + 1) (vecS tab v) f
theorem agree_spec {p : Pol} {Ss : List (List RS)} {code : List RS → Nat} {tab : List (List Nat)} (h : tabOf p Ss code = some tab) (h0 : Ss[0]? = some (start p)) {f : Nat → Int} : ∀ (k n : Nat), agree tab k n (vecs p tab (vec0 p Ss) n) f = true → ∀ j, j ≤ k → ((countOf p (n + j) : Nat) : Int) = f (n + j)
  | 0, n, ha, j, hj => by
    have : j = 0 := by omega
    subst this
    have ha := of_decide_eq_true ha
    rw [vecs_spec h, List.getD_eq_getElem?_getD, List.getElem?_map, h0] at ha
    exact ha
  | k + 1, n, ha, j, hj => by
    unfold agree at ha
    rw [Bool.and_eq_true] at ha
    cases j with
    | zero =>
      have ha := of_decide_eq_true ha.1
      rw [vecs_spec h, List.getD_eq_getElem?_getD, List.getElem?_map, h0] at ha
      exact ha
    | succ j =>
      have := agree_spec h h0 k (n + 1) ha.2 j (by omega)
      rw [show n + (j + 1) = n + 1 + j by omega]
      exact this
def check (p : Pol) (Ss : List (List RS)) (code : List RS → Nat) (f : Nat → Int) : Bool :=
  match tabOf p Ss code with
  | none => false
  | some tab => decide (Ss[0]? = some (start p)) && agree tab 14 0 (vec0 p Ss) f
theorem check_spec {p : Pol} {Ss : List (List RS)} {code : List RS → Nat} {f : Nat → Int} (h : check p Ss code f = true) {j : Nat} (hj : j ≤ 14) : ((countOf p j : Nat) : Int) = f j := by
  unfold check at h
  cases e : tabOf p Ss code with
  | none => rw [e] at h; cases h
  | some tab =>
    rw [e] at h
    rw [Bool.and_eq_true] at h
    have := agree_spec e (of_decide_eq_true h.1) 14 0 h.2 j hj
    rwa [Nat.zero_add] at this
/-! ### the law's classes -/
def clsOf (many more : Nat) : List (T × T) := [([97], [118, 119, 120, 121, 122].take many), ([98], [48, 49, 50, 51].take more)]
def codeR : List RS → Nat
  | [.num n] => n
  | [.pair [] n] => n
  | [.pair (c :: _) n] => c * 8 + n
  | [.txt t] => t.length * 200 + t.getD 0 0
  | _ => 100000
def numSs (m : Nat) : List (List RS) := (List.range (m + 1)).map fun k => [RS.num k]
def pairSs (sg : List Nat) (m : Nat) : List (List RS) := [RS.pair [] 0] :: sg.flatMap fun c => (List.range m).map fun k => [RS.pair [c] (k + 1)]
def exactOf (many more size : Nat) : List Int := (List.range (size + 1)).map fun i => placed many more size i
/-- row's numbers, one step of both sides at a time -/
def agreeR (tab : List (List Nat)) (cls : List (T × T)) (every : List Nat) (most : Nat) : Nat → List Nat → RT → Bool
  | 0, v, D => decide (((v.getD 0 0 : Nat) : Int) = (D.map (·.2)).sum)
  | k + 1, v, D => decide (((v.getD 0 0 : Nat) : Int) = (D.map (·.2)).sum) && agreeR tab cls every most k (vecS tab v) (rowStep cls every most D)
theorem agreeR_spec {p : Pol} {Ss : List (List RS)} {code : List RS → Nat} {tab : List (List Nat)} {cls : List (T × T)} {every : List Nat} {most : Nat} (h : tabOf p Ss code = some tab) (h0 : Ss[0]? = some (start p)) :
    ∀ (k n : Nat), agreeR tab cls every most k (vecs p tab (vec0 p Ss) (n + 1)) (rowsN cls every most n) = true → ∀ j, j ≤ k → ((countOf p (n + j + 1) : Nat) : Int) = ((rowsN cls every most (n + j)).map (·.2)).sum
  | 0, n, ha, j, hj => by
    have : j = 0 := by omega
    subst this
    have ha := of_decide_eq_true ha
    rw [vecs_spec h, List.getD_eq_getElem?_getD, List.getElem?_map, h0] at ha
    exact ha
  | k + 1, n, ha, j, hj => by
    unfold agreeR at ha
    rw [Bool.and_eq_true] at ha
    cases j with
    | zero =>
      have ha := of_decide_eq_true ha.1
      rw [vecs_spec h, List.getD_eq_getElem?_getD, List.getElem?_map, h0] at ha
      exact ha
    | succ j =>
      have := agreeR_spec h h0 k (n + 1) ha.2 j (by omega)
      rw [show n + (j + 1) = n + 1 + j by omega]
      exact this
def checkR (many more number : Nat) : Bool :=
  match tabOf ⟨clsOf many more, [.row number]⟩ (pairSs ((clsOf many more).map (·.2)).flatten number) codeR with
  | none => false
  | some tab => decide ((pairSs ((clsOf many more).map (·.2)).flatten number)[0]? = some (start ⟨clsOf many more, [.row number]⟩)) && agreeR tab (clsOf many more) ((clsOf many more).map (·.2)).flatten number 13 (vecS tab (vec0 ⟨clsOf many more, [.row number]⟩ (pairSs ((clsOf many more).map (·.2)).flatten number))) (row0 ((clsOf many more).map (·.2)).flatten)
theorem checkR_spec {many more number : Nat} (h : checkR many more number = true) {j : Nat} (hj : j ≤ 14) : ((countOf ⟨clsOf many more, [.row number]⟩ j : Nat) : Int) = rows (clsOf many more) j number := by
  cases j with
  | zero => rfl
  | succ j =>
    unfold checkR at h
    cases e : tabOf ⟨clsOf many more, [.row number]⟩ (pairSs ((clsOf many more).map (·.2)).flatten number) codeR with
    | none => rw [e] at h; cases h
    | some tab =>
      rw [e] at h
      rw [Bool.and_eq_true] at h
      have := agreeR_spec e (of_decide_eq_true h.1) 13 0 h.2 j (by omega)
      rw [Nat.zero_add] at this
      rw [rows, if_neg (Nat.succ_ne_zero j)]
      exact this
def chk4 (many more number : Nat) : Bool :=
  check ⟨clsOf many more, [.most [97] number]⟩ (numSs number) codeR (fun n => ((exactOf many more n).take (number + 1)).sum) &&
  check ⟨clsOf many more, [.least [97] number]⟩ (numSs number) codeR (fun n => ((exactOf many more n).drop number).sum) &&
  check ⟨clsOf many more, [.run number]⟩ (pairSs ((clsOf many more).map (·.2)).flatten number) codeR (fun n => (runsL (many + more) number n).getD n 0) &&
  checkR many more number
def dueOf (many more n : Nat) : Int := if n = 0 then 0 else (many : Int) * (((many + more) ^ (n - 1) : Nat) : Int)
def chk2 (many more : Nat) : Bool :=
  check ⟨clsOf many more, [.first [97]]⟩ [[.txt []], [.txt [97]]] codeR (dueOf many more) && check ⟨clsOf many more, [.last [97]]⟩ [[.txt []], [.txt [97]], [.txt [98]]] codeR (dueOf many more)
def chkT (many more : Nat) (t : T) : Bool :=
  check ⟨clsOf many more, [.nt t]⟩ ((List.range t.length).map fun i => [RS.txt (t.take i)]) (fun s => match s with | [.txt e] => e.length | _ => 100) (fun n => without (many + more) n t)
/-- the texts of v and 0 -/
def textsOf : Nat → List T
  | 0 => [[]]
  | n + 1 => (textsOf n).flatMap fun t => [118 :: t, 48 :: t]
def pairs20 : List (Nat × Nat) := [1, 2, 3, 4, 5].flatMap fun a => [1, 2, 3, 4].map fun b => (a, b)
end Px

set_option maxRecDepth 100000
set_option maxHeartbeats 4000000
/-! PxQ1: law k19's plain law for rows and runs. -/
namespace Px
open PySem L2
theorem many_succ (p : Pol) (n : Nat) (st : List RS) : many p (n + 1) st = (p.signs.map fun c => match stepS p st c with | none => 0 | some s => many p n s).sum := by
  first
  | (rw [many]; done)
  | (rw [many]; rfl)
theorem sum_const (g : Nat) : ∀ l : List Nat, (l.map fun _ => g).sum = l.length * g
  | [] => by simp
  | c :: l => by rw [List.map_cons, List.sum_cons, sum_const g l, List.length_cons, Nat.succ_mul]; omega
theorem many_zero (p : Pol) (st : List RS) : many p 0 st = if fineS p st then 1 else 0 := by rw [many]
/-! ### row -/
def rowP (cls : List (T × T)) (most : Nat) : Pol := ⟨cls, [.row most]⟩
def W (cls : List (T × T)) (most j : Nat) (k : Nat × Nat) : Nat := many (rowP cls most) j [.pair [k.1] k.2]
theorem W_zero (cls : List (T × T)) (most : Nat) (k : Nat × Nat) : W cls most 0 k = 1 := by
  unfold W
  rw [many_zero, if_pos (by rfl)]
theorem W_succ (cls : List (T × T)) (most j : Nat) (k : Nat × Nat) : W cls most (j + 1) k = ((cls.map (·.2)).flatten.map fun o => if (rowTo cls k o).2 ≤ most then W cls most j (rowTo cls k o) else 0).sum := by
  unfold W
  rw [many_succ]
  refine congrArg List.sum (List.map_congr_left fun c _ => ?_)
  have : stepS (rowP cls most) [.pair [k.1] k.2] c = if (rowTo cls k c).2 ≤ most then some [RS.pair [c] (rowTo cls k c).2] else none := by
    show all? [moved cls (.row most) (.pair [k.1] k.2) c] = _
    show all? [if (if nextOf cls k.1 = some c then k.2 + 1 else 1) ≤ most then some (RS.pair [c] (if nextOf cls k.1 = some c then k.2 + 1 else 1)) else none] = _
    show _ = if (if nextOf cls k.1 = some c then k.2 + 1 else 1) ≤ most then some [RS.pair [c] (if nextOf cls k.1 = some c then k.2 + 1 else 1)] else none
    generalize (if nextOf cls k.1 = some c then k.2 + 1 else 1) = z
    by_cases e : z ≤ most
    · rw [if_pos e, if_pos e]; rfl
    · rw [if_neg e, if_neg e]; rfl
  rw [this]
  by_cases e : (rowTo cls k c).2 ≤ most
  · rw [if_pos e, if_pos e]; rfl
  · rw [if_neg e, if_neg e]
def sumW (cls : List (T × T)) (most j : Nat) (D : RT) : Int := (D.map fun x => x.2 * (W cls most j x.1 : Int)).sum
theorem sumW_cons (cls : List (T × T)) (most j : Nat) (x : (Nat × Nat) × Int) (D : RT) : sumW cls most j (x :: D) = x.2 * (W cls most j x.1 : Int) + sumW cls most j D := by
  unfold sumW
  rw [List.map_cons, List.sum_cons]
theorem sumW_app (cls : List (T × T)) (most j : Nat) (D E : RT) : sumW cls most j (D ++ E) = sumW cls most j D + sumW cls most j E := by
  unfold sumW
  rw [List.map_append, List.sum_append]
theorem map_away {D : RT} {k : Nat × Nat} {v : Int} (h : k ∉ D.map (·.1)) : D.map (fun x => if x.1 = k then (x.1, v) else x) = D := by
  have : D.map (fun x => if x.1 = k then (x.1, v) else x) = D.map id := List.map_congr_left fun x hx => by
    rw [if_neg (fun e => h (List.mem_map.mpr ⟨x, hx, e⟩))]; rfl
  rw [this, List.map_id]
theorem sumW_put {cls : List (T × T)} {most j : Nat} {k : Nat × Nat} {v : Int} : ∀ {D : RT}, (D.map (·.1)).Nodup → sumW cls most j (putA D k v) = sumW cls most j D - (getO D k).getD 0 * (W cls most j k : Int) + v * (W cls most j k : Int)
  | [], _ => by
    show sumW cls most j [(k, v)] = _
    rw [sumW_cons]
    show v * (W cls most j k : Int) + (0 : Int) = (0 : Int) - 0 * _ + _
    omega
  | x :: D, nd => by
    rw [List.map_cons, List.nodup_cons] at nd
    by_cases e : x.1 = k
    · have e1 : putA (x :: D) k v = (x.1, v) :: D := by
        unfold putA
        rw [if_pos (by rw [List.any_cons]; simp [e]), List.map_cons, if_pos e, map_away (by rw [← e]; exact nd.1)]
      have e2 : getO (x :: D) k = some x.2 := by
        unfold getO
        rw [List.find?_cons]
        simp [e]
      rw [e1, e2, sumW_cons, sumW_cons, ← e]
      dsimp only [Option.getD_some]
      omega
    · have ih := sumW_put (cls := cls) (most := most) (j := j) (k := k) (v := v) nd.2
      have e2 : getO (x :: D) k = getO D k := by
        unfold getO
        rw [List.find?_cons]
        simp [e]
      have e1 : putA (x :: D) k v = x :: putA D k v := by
        unfold putA
        rw [List.any_cons]
        simp only [e, decide_false, Bool.false_or]
        split
        · rw [List.map_cons, if_neg e]
        · rfl
      rw [e1, e2, sumW_cons, sumW_cons, ih]
      omega
theorem sumW_one {cls : List (T × T)} {most j : Nat} {x : (Nat × Nat) × Int} {N : RT} {o : Nat} (nd : (N.map (·.1)).Nodup) : sumW cls most j (rowPut cls most x N o) = sumW cls most j N + x.2 * ((if (rowTo cls x.1 o).2 ≤ most then W cls most j (rowTo cls x.1 o) else 0 : Nat) : Int) := by
  unfold rowPut
  split
  · rw [sumW_put nd, Int.add_mul]
    omega
  · show _ = _ + _ * ((0 : Nat) : Int)
    omega
theorem sumW_every {cls : List (T × T)} {most j : Nat} {x : (Nat × Nat) × Int} : ∀ (os : List Nat) {N : RT} {every : List Nat}, RowOk every most N → (∀ o ∈ os, o ∈ every) →
    sumW cls most j (os.foldl (rowPut cls most x) N) = sumW cls most j N + x.2 * ((os.map fun o => if (rowTo cls x.1 o).2 ≤ most then W cls most j (rowTo cls x.1 o) else 0).sum : Nat)
  | [], N, _, _, _ => by
    rw [List.foldl_nil]
    show _ = _ + _ * ((0 : Nat) : Int)
    omega
  | o :: os, N, every, h, ho => by
    rw [List.foldl_cons, sumW_every os (h.one (ho o (List.mem_cons_self ..))) (fun o' m => ho o' (List.mem_cons_of_mem _ m)), sumW_one h.nd, List.map_cons, List.sum_cons, Int.natCast_add, Int.mul_add]
    omega
theorem sumW_step {cls : List (T × T)} {most j : Nat} : ∀ (D N : RT), RowOk (cls.map (·.2)).flatten most N →
    sumW cls most j (D.foldl (fun N x => (cls.map (·.2)).flatten.foldl (rowPut cls most x) N) N) = sumW cls most j N + sumW cls most (j + 1) D
  | [], N, _ => by
    rw [List.foldl_nil]
    show _ = _ + (0 : Int)
    omega
  | x :: D, N, h => by
    have h2 : RowOk (cls.map (·.2)).flatten most ((cls.map (·.2)).flatten.foldl (rowPut cls most x) N) := fold_inv (RowOk (cls.map (·.2)).flatten most) _ _ N h fun N o ho h => h.one ho
    rw [List.foldl_cons, sumW_step D _ h2, sumW_every _ h (fun _ m => m), sumW_cons, W_succ]
    omega
theorem sumW_row0 {cls : List (T × T)} {most j : Nat} : ∀ (os : List Nat) {D : RT}, (∀ o ∈ os, (o, 1) ∉ D.map (·.1)) → os.Nodup →
    sumW cls most j (os.foldl (fun D c => putA D (c, 1) 1) D) = sumW cls most j D + ((os.map fun o => W cls most j (o, 1)).sum : Nat)
  | [], D, _, _ => by
    rw [List.foldl_nil]
    show _ = _ + ((0 : Nat) : Int)
    omega
  | o :: os, D, h, nd => by
    rw [List.nodup_cons] at nd
    have h0 := h o (List.mem_cons_self ..)
    have e1 : putA D (o, 1) 1 = D ++ [((o, 1), 1)] := by
      unfold putA
      rw [if_neg]
      intro z
      rw [List.any_eq_true] at z
      obtain ⟨x, hx, e⟩ := z
      exact h0 (List.mem_map.mpr ⟨x, hx, of_decide_eq_true e⟩)
    rw [List.foldl_cons, e1, sumW_row0 os (fun o' m z => by
      rw [List.map_append] at z
      rcases List.mem_append.mp z with q | q
      · exact h o' (List.mem_cons_of_mem _ m) q
      · have := List.mem_singleton.mp q
        have e2 : o' = o := congrArg Prod.fst this
        exact nd.1 (e2 ▸ m)) nd.2, sumW_app, List.map_cons, List.sum_cons, sumW_cons]
    dsimp only
    rw [Int.natCast_add]
    show _ + (1 * _ + (0 : Int)) + _ = _
    omega
theorem W_start {cls : List (T × T)} {most j : Nat} (h : 1 ≤ most) : countOf (rowP cls most) (j + 1) = ((cls.map (·.2)).flatten.map fun o => W cls most j (o, 1)).sum := by
  unfold countOf W
  rw [many_succ]
  refine congrArg List.sum (List.map_congr_left fun c _ => ?_)
  have : stepS (rowP cls most) (start (rowP cls most)) c = some [RS.pair [c] 1] := by
    show all? [moved cls (.row most) (.pair [] 0) c] = _
    show all? [if 1 ≤ most then some (RS.pair [c] 1) else none] = _
    rw [if_pos h]
    rfl
  rw [this]
theorem rows_sum {cls : List (T × T)} {most : Nat} (h : 1 ≤ most) (nd : ((cls.map (·.2)).flatten).Nodup) : ∀ n j, sumW cls most j (rowsN cls (cls.map (·.2)).flatten most n) = (countOf (rowP cls most) (n + j + 1) : Nat)
  | 0, j => by
    rw [rowsN, row0, sumW_row0 _ (fun o _ z => absurd z (by simp)) nd, Nat.zero_add, W_start h]
    show (0 : Int) + _ = _
    omega
  | n + 1, j => by
    rw [rowsN, rowStep, sumW_step _ _ RowOk.nil, rows_sum h nd n (j + 1), show n + 1 + j + 1 = n + (j + 1) + 1 by omega]
    show (0 : Int) + _ = _
    omega
theorem rows_count {cls : List (T × T)} {most : Nat} (h : 1 ≤ most) (nd : ((cls.map (·.2)).flatten).Nodup) (n : Nat) : ((countOf (rowP cls most) n : Nat) : Int) = rows cls n most := by
  cases n with
  | zero => rfl
  | succ n =>
    rw [rows, if_neg (Nat.succ_ne_zero n), Nat.succ_sub_one, ← Nat.add_zero n, ← rows_sum h nd n 0, Nat.add_zero]
    unfold sumW
    refine congrArg List.sum (List.map_congr_left fun x _ => ?_)
    rw [W_zero]
    omega
/-! ### run -/
def runP (cls : List (T × T)) (most : Nat) : Pol := ⟨cls, [.run most]⟩
/-- how many from a state with so many in a row -/
def runN (both most : Nat) : Nat → Nat → Nat
  | 0, _ => 1
  | n + 1, k => (if k + 1 ≤ most then runN both most n (k + 1) else 0) + (both - 1) * runN both most n 1
theorem sum_one {f g : Nat → Nat} {c : Nat} {b : Nat} : ∀ {l : List Nat}, l.Nodup → c ∈ l → f c = b → (∀ o ∈ l, o ≠ c → f o = g 0) → (l.map f).sum = b + (l.length - 1) * g 0
  | [], _, h, _, _ => nomatch h
  | o :: l, nd, h, e1, e2 => by
    rw [List.nodup_cons] at nd
    rw [List.map_cons, List.sum_cons, List.length_cons, Nat.add_sub_cancel]
    by_cases e : o = c
    · subst e
      have : l.map f = l.map fun _ => g 0 := List.map_congr_left fun x hx => e2 x (List.mem_cons_of_mem _ hx) (fun z => nd.1 (z ▸ hx))
      rw [this, e1, sum_const]
    · have hc : c ∈ l := (List.mem_cons.mp h).resolve_left (fun z => e z.symm)
      have := sum_one nd.2 hc e1 fun x hx => e2 x (List.mem_cons_of_mem _ hx)
      rw [this, e2 o (List.mem_cons_self ..) e]
      have hl : 0 < l.length := List.length_pos_of_mem hc
      obtain ⟨m, hm⟩ : ∃ m, l.length = m + 1 := ⟨l.length - 1, by omega⟩
      rw [hm, Nat.add_sub_cancel, Nat.succ_mul]
      omega
theorem run_many {cls : List (T × T)} {most : Nat} (h : 1 ≤ most) (nd : ((cls.map (·.2)).flatten).Nodup) : ∀ (n : Nat) (c k : Nat), c ∈ (cls.map (·.2)).flatten → many (runP cls most) n [.pair [c] k] = runN (cls.map (·.2)).flatten.length most n k
  | 0, c, k, _ => by rw [many_zero, if_pos (by rfl)]; rfl
  | n + 1, c, k, hc => by
    have step : ∀ o, stepS (runP cls most) [.pair [c] k] o = if o = c then (if k + 1 ≤ most then some [RS.pair [o] (k + 1)] else none) else some [RS.pair [o] 1] := fun o => by
      show all? [if (if [c] = [o] then k + 1 else 1) ≤ most then some (RS.pair [o] (if [c] = [o] then k + 1 else 1)) else none] = _
      by_cases e : o = c
      · rw [if_pos e, if_pos (show [c] = [o] by rw [e])]
        by_cases e2 : k + 1 ≤ most
        · rw [if_pos e2, if_pos e2]; rfl
        · rw [if_neg e2, if_neg e2]; rfl
      · rw [if_neg e, if_neg (show ¬ [c] = [o] from fun z => e (List.cons.inj z).1.symm), if_pos h]; rfl
    rw [many_succ, runN]
    refine sum_one (g := fun _ => runN (cls.map (·.2)).flatten.length most n 1) (c := c) nd hc ?_ ?_
    · simp only [step, if_true]
      by_cases e2 : k + 1 ≤ most
      · rw [if_pos e2, if_pos e2]
        exact run_many h nd n c (k + 1) hc
      · rw [if_neg e2, if_neg e2]
    · intro o ho ne
      simp only [step, if_neg ne]
      exact run_many h nd n o 1 ho
theorem run_count {cls : List (T × T)} {most : Nat} (h : 1 ≤ most) (nd : ((cls.map (·.2)).flatten).Nodup) : ∀ n, countOf (runP cls most) n = match n with | 0 => 1 | n + 1 => (cls.map (·.2)).flatten.length * runN (cls.map (·.2)).flatten.length most n 1
  | 0 => rfl
  | n + 1 => by
    unfold countOf
    rw [many_succ]
    have : ∀ c ∈ (runP cls most).signs, (match stepS (runP cls most) (start (runP cls most)) c with | none => 0 | some s => many (runP cls most) n s) = runN (cls.map (·.2)).flatten.length most n 1 := fun c hc => by
      have : stepS (runP cls most) (start (runP cls most)) c = some [RS.pair [c] 1] := by
        show all? [if (if ([] : T) = [c] then 0 + 1 else 1) ≤ most then some (RS.pair [c] (if ([] : T) = [c] then 0 + 1 else 1)) else none] = _
        rw [if_neg (fun z : ([] : T) = [c] => List.cons_ne_nil _ _ z.symm), if_pos h]
        rfl
      rw [this]
      exact run_many h nd n c 1 hc
    rw [List.map_congr_left this, sum_const]
    rfl
/-- runN from all lengths at once -/
def runV (both most : Nat) : Nat → List Nat
  | 0 => List.replicate (most + 1) 1
  | n + 1 => (List.range (most + 1)).map fun k => (if k + 1 ≤ most then (runV both most n).getD (k + 1) 0 else 0) + (both - 1) * (runV both most n).getD 1 0
theorem runV_at {both most : Nat} (h : 1 ≤ most) : ∀ n k, k ≤ most → (runV both most n).getD k 0 = runN both most n k
  | 0, k, hk => by
    rw [runV, runN, List.getD_eq_getElem?_getD, List.getElem?_replicate, if_pos (by omega)]
    rfl
  | n + 1, k, hk => by
    rw [runV, runN, List.getD_eq_getElem?_getD, List.getElem?_map, List.getElem?_range (by omega)]
    show (if k + 1 ≤ most then _ else 0) + _ = _
    rw [runV_at h n 1 h]
    by_cases e : k + 1 ≤ most
    · rw [if_pos e, if_pos e, runV_at h n (k + 1) e]
    · rw [if_neg e, if_neg e]
end Px

set_option maxRecDepth 100000
set_option maxHeartbeats 4000000
/-! PxQ2: law k19's plain law for a forbidden text. -/
namespace Px
open PySem L2
def ntP (cls : List (T × T)) (t : T) : Pol := ⟨cls, [.nt t]⟩
/-- how long the next state is -/
def ntI (t : T) (i c : Nat) : Option Nat := if t.isSuffixOf (t.take i ++ [c]) then none else some (trim t (t.take i ++ [c])).length
theorem trim_take (t e : T) : trim t e = t.take (trim t e).length := by
  obtain ⟨r, hr⟩ := trim_pre t e
  conv => rhs; rw [← hr]
  rw [hr]
  exact (List.prefix_iff_eq_take.mp ⟨r, hr⟩)
theorem ntI_lt {t : T} {i c j : Nat} (h : ntI t i c = some j) : j < t.length := by
  unfold ntI at h
  split at h
  · cases h
  · rename_i hn
    cases h
    have h1 := (trim_pre t (t.take i ++ [c])).length_le
    rcases Nat.lt_or_ge (trim t (t.take i ++ [c])).length t.length with q | q
    · exact q
    · have : trim t (t.take i ++ [c]) = t := (trim_pre t _).eq_of_length (by omega)
      exact absurd (List.isSuffixOf_iff_suffix.mpr (by have h2 := trim_suf t (t.take i ++ [c]); rwa [this] at h2)) hn
theorem nt_step (cls : List (T × T)) (t : T) (i c : Nat) : stepS (ntP cls t) [.txt (t.take i)] c = (ntI t i c).map fun j => [RS.txt (t.take j)] := by
  show all? [unmatched t (t.take i ++ [c])] = _
  unfold unmatched ntI
  split
  · rfl
  · show some [RS.txt (trim t (t.take i ++ [c]))] = some [RS.txt (t.take (trim t (t.take i ++ [c])).length)]
    rw [← trim_take]
theorem nt_other {t : T} {i c : Nat} (h0 : t ≠ []) (h : c ∉ t) : ntI t i c = some 0 := by
  unfold ntI
  have h1 : trim t (t.take i ++ [c]) = [] := by
    cases e : trim t (t.take i ++ [c]) with
    | nil => rfl
    | cons x r =>
      have hs := trim_suf t (t.take i ++ [c])
      have hp := trim_pre t (t.take i ++ [c])
      rw [e] at hs hp
      obtain ⟨z, hz⟩ := hs
      have h2 := congrArg List.getLast? hz
      rw [List.getLast?_append, List.getLast?_append] at h2
      have h3 : (x :: r).getLast? = some c := by
        cases e2 : (x :: r).getLast? with
        | none => exact absurd (List.getLast?_eq_none_iff.mp e2) (List.cons_ne_nil _ _)
        | some l =>
          rw [e2] at h2
          simpa using h2
      exact absurd (hp.subset (List.mem_of_getLast? h3)) h
  rw [h1, if_neg]
  · rfl
  · intro z
    obtain ⟨y, hy⟩ := List.isSuffixOf_iff_suffix.mp z
    have h2 := congrArg List.getLast? hy
    rw [List.getLast?_append, List.getLast?_append] at h2
    cases e : t.getLast? with
    | none => exact h0 (List.getLast?_eq_none_iff.mp e)
    | some l =>
      rw [e] at h2
      simp at h2
      exact h (h2 ▸ List.mem_of_getLast? e)
theorem sum_cnt (x y g : Nat) : ∀ l : List Nat, (l.map fun c => if c = 118 then x else if c = 48 then y else g).sum = l.count 118 * x + l.count 48 * y + (l.countP fun c => decide (c ≠ 118) && decide (c ≠ 48)) * g
  | [] => by simp
  | c :: l => by
    rw [List.map_cons, List.sum_cons, sum_cnt x y g l, List.count_cons, List.count_cons, List.countP_cons]
    by_cases e : c = 118
    · subst e
      simp
      rw [Nat.add_mul]
      omega
    · by_cases e2 : c = 48
      · subst e2
        simp
        rw [Nat.add_mul]
        omega
      · simp [e, e2]
        rw [Nat.add_mul]
        omega
def shapes20 : List (Nat × Nat) := [1, 2, 3, 4, 5].flatMap fun a => [1, 2, 3, 4].map fun b => (a, b)
def sgOf (a b : Nat) : List Nat := ((clsOf a b).map (·.2)).flatten
theorem cnt20 : ∀ x ∈ shapes20, (sgOf x.1 x.2).count 118 = 1 ∧ (sgOf x.1 x.2).count 48 = 1 ∧ ((sgOf x.1 x.2).countP fun c => decide (c ≠ 118) && decide (c ≠ 48)) = x.1 + x.2 - 2 := by decide +kernel
theorem shapes_mem {a b : Nat} (h1 : 1 ≤ a) (h2 : a ≤ 5) (h3 : 1 ≤ b) (h4 : b ≤ 4) : (a, b) ∈ shapes20 := by
  refine List.mem_flatMap.mpr ⟨a, ?_, List.mem_map.mpr ⟨b, ?_, rfl⟩⟩
  · have : a = 1 ∨ a = 2 ∨ a = 3 ∨ a = 4 ∨ a = 5 := by omega
    rcases this with e | e | e | e | e <;> subst e <;> decide
  · have : b = 1 ∨ b = 2 ∨ b = 3 ∨ b = 4 := by omega
    rcases this with e | e | e | e <;> subst e <;> decide
def lookN (v : List Nat) : Option Nat → Nat
  | none => 0
  | some j => v.getD j 0
def tabN (t : T) : List (Option Nat × Option Nat) := (List.range t.length).map fun i => (ntI t i 118, ntI t i 48)
def stepN (tab : List (Option Nat × Option Nat)) (rest : Nat) (v : List Nat) : List Nat := tab.map fun x => lookN v x.1 + lookN v x.2 + rest * v.getD 0 0
def cntN (t : T) (rest : Nat) : Nat → List Nat
  | 0 => List.replicate t.length 1
  | n + 1 => stepN (tabN t) rest (cntN t rest n)
theorem cntN_at {a b : Nat} {t : T} (hx : (a, b) ∈ shapes20) (h0 : t ≠ []) (ht : ∀ c ∈ t, c = 118 ∨ c = 48) : ∀ n i, i < t.length → (cntN t (a + b - 2) n).getD i 0 = many (ntP (clsOf a b) t) n [.txt (t.take i)]
  | 0, i, hi => by
    rw [cntN, many_zero, if_pos (by rfl), List.getD_eq_getElem?_getD, List.getElem?_replicate, if_pos hi]
    rfl
  | n + 1, i, hi => by
    have h00 : 0 < t.length := List.length_pos_iff.mpr h0
    have lk : ∀ c, (match stepS (ntP (clsOf a b) t) [.txt (t.take i)] c with | none => 0 | some s => many (ntP (clsOf a b) t) n s) = lookN (cntN t (a + b - 2) n) (ntI t i c) := fun c => by
      rw [nt_step]
      cases e : ntI t i c with
      | none => rfl
      | some j =>
        show many _ n [.txt (t.take j)] = (cntN t (a + b - 2) n).getD j 0
        rw [cntN_at hx h0 ht n j (ntI_lt e)]
    rw [many_succ, cntN, stepN, List.getD_eq_getElem?_getD, List.getElem?_map, tabN, List.getElem?_map, List.getElem?_range hi]
    show lookN _ (ntI t i 118) + lookN _ (ntI t i 48) + (a + b - 2) * _ = _
    obtain ⟨c1, c2, c3⟩ := cnt20 _ hx
    have : ∀ c ∈ (ntP (clsOf a b) t).signs, (match stepS (ntP (clsOf a b) t) [.txt (t.take i)] c with | none => 0 | some s => many (ntP (clsOf a b) t) n s) = (if c = 118 then lookN (cntN t (a + b - 2) n) (ntI t i 118) else if c = 48 then lookN (cntN t (a + b - 2) n) (ntI t i 48) else (cntN t (a + b - 2) n).getD 0 0) := fun c _ => by
      rw [lk]
      by_cases e : c = 118
      · rw [e, if_pos rfl]
      · by_cases e2 : c = 48
        · rw [e2, if_neg (by decide), if_pos rfl]
        · rw [if_neg e, if_neg e2, nt_other h0 (fun z => (ht c z).elim e e2)]
          rfl
    refine Eq.trans ?_ (congrArg List.sum (List.map_congr_left this)).symm
    rw [sum_cnt]
    show _ = (sgOf a b).count 118 * _ + (sgOf a b).count 48 * _ + ((sgOf a b).countP fun c => decide (c ≠ 118) && decide (c ≠ 48)) * _
    rw [c1, c2, c3]
    dsimp only
    omega
/-! ### the law's own count -/
def enN (both tl : Nat) (sh : List Nat) (i : Nat) : Int := here both tl sh (endsL both tl sh i) i
theorem endsL_map (both tl : Nat) (sh : List Nat) : ∀ N, endsL both tl sh N = (List.range N).map (enN both tl sh)
  | 0 => rfl
  | N + 1 => by
    rw [List.range_succ, List.map_append, ← endsL_map both tl sh N]
    rfl
def BN (both tl : Nat) (sh : List Nat) : Nat → Int
  | 0 => 0
  | n + 1 => (both : Int) * BN both tl sh n + enN both tl sh n
theorem BN_sum (both tl : Nat) (sh : List Nat) : ∀ n, BN both tl sh n = ((List.range n).map fun i => enN both tl sh i * ((both ^ (n - 1 - i) : Nat) : Int)).sum
  | 0 => rfl
  | n + 1 => by
    rw [BN, BN_sum both tl sh n, List.range_succ, List.map_append, List.sum_append]
    have : ∀ l : List Nat, (∀ i ∈ l, i < n) → (both : Int) * (l.map fun i => enN both tl sh i * ((both ^ (n - 1 - i) : Nat) : Int)).sum = (l.map fun i => enN both tl sh i * ((both ^ (n + 1 - 1 - i) : Nat) : Int)).sum := by
      intro l
      induction l with
      | nil => intro _; rfl
      | cons i l ih =>
        intro h
        have hi := h i (List.mem_cons_self ..)
        rw [List.map_cons, List.map_cons, List.sum_cons, List.sum_cons, Int.mul_add, ih fun j m => h j (List.mem_cons_of_mem _ m), show n + 1 - 1 - i = (n - 1 - i) + 1 by omega, Nat.pow_succ, Int.natCast_mul]
        have : (both : Int) * (enN both tl sh i * ((both ^ (n - 1 - i) : Nat) : Int)) = enN both tl sh i * (((both ^ (n - 1 - i) : Nat) : Int) * (both : Int)) := by
          rw [Int.mul_comm (both : Int), Int.mul_assoc]
        rw [this]
    rw [this _ fun i hi => List.mem_range.mp hi]
    simp
theorem without_BN (both n : Nat) (t : T) : without both n t = ((both ^ n : Nat) : Int) - BN both t.length (shifts t) (n + 1) := by
  unfold without
  rw [BN_sum, endsL_map]
  refine congrArg (fun z : Int => ((both ^ n : Nat) : Int) - z) (congrArg List.sum (List.map_congr_left fun i hi => ?_))
  rw [List.getD_eq_getElem?_getD, List.getElem?_map, List.getElem?_range (List.mem_range.mp hi)]
  rfl
def agreeN (tab : List (Option Nat × Option Nat)) (rest : Nat) (both : Int) : List Int → List Nat → Int → Int → Bool
  | [], _, _, _ => true
  | e :: E, v, b, pw => decide (((v.getD 0 0 : Nat) : Int) = pw - (both * b + e)) && agreeN tab rest both E (stepN tab rest v) (both * b + e) (both * pw)
theorem agreeN_spec {both tl : Nat} {sh : List Nat} {t : T} {rest : Nat} : ∀ (k n : Nat), agreeN (tabN t) rest both ((List.range' n k).map (enN both tl sh)) (cntN t rest n) (BN both tl sh n) ((both ^ n : Nat) : Int) = true → ∀ j, n ≤ j → j < n + k → (((cntN t rest j).getD 0 0 : Nat) : Int) = ((both ^ j : Nat) : Int) - BN both tl sh (j + 1)
  | 0, n, _, j, h1, h2 => by omega
  | k + 1, n, h, j, h1, h2 => by
    rw [List.range'_succ, List.map_cons, agreeN, Bool.and_eq_true] at h
    obtain ⟨h3, h4⟩ := h
    by_cases e : j = n
    · subst e
      exact of_decide_eq_true h3
    · refine agreeN_spec k (n + 1) ?_ j (by omega) (by omega)
      rw [Nat.pow_succ, Int.natCast_mul, Int.mul_comm]
      exact h4
def chkN (both : Nat) (t : T) : Bool := agreeN (tabN t) (both - 2) both (endsL both t.length (shifts t) 15) (List.replicate t.length 1) 0 1
theorem chkN_spec {a b : Nat} {t : T} (hx : (a, b) ∈ shapes20) (h0 : t ≠ []) (ht : ∀ c ∈ t, c = 118 ∨ c = 48) (h : chkN (a + b) t = true) {n : Nat} (hn : n ≤ 14) : ((countOf (ntP (clsOf a b) t) n : Nat) : Int) = without (a + b) n t := by
  unfold chkN at h
  rw [endsL_map, List.range_eq_range'] at h
  have := agreeN_spec (both := a + b) (tl := t.length) (sh := shifts t) (t := t) (rest := a + b - 2) 15 0 h n (Nat.zero_le _) (by omega)
  rw [without_BN, ← this, cntN_at hx h0 ht n 0 (List.length_pos_iff.mpr h0)]
  rfl
/-- the texts of v and 0 -/
def texts2 : Nat → List T
  | 0 => [[]]
  | n + 1 => (texts2 n).flatMap fun t => [118 :: t, 48 :: t]
theorem texts2_mem : ∀ {t : T}, (∀ c ∈ t, c = 118 ∨ c = 48) → t ∈ texts2 t.length
  | [], _ => by simp [texts2]
  | c :: t, h => by
    have ih := texts2_mem fun d m => h d (List.mem_cons_of_mem _ m)
    rw [List.length_cons, texts2]
    refine List.mem_flatMap.mpr ⟨t, ih, ?_⟩
    rcases h c (List.mem_cons_self ..) with e | e <;> subst e <;> simp
theorem not1 : ∀ t ∈ texts2 1, ∀ b ∈ [2, 3, 4, 5, 6, 7, 8, 9], chkN b t = true := by decide +kernel
theorem not3 : ∀ t ∈ texts2 3, ∀ b ∈ [2, 3, 4, 5, 6, 7, 8, 9], chkN b t = true := by decide +kernel
theorem not2 : ∀ t ∈ texts2 2, ∀ b ∈ [2, 3, 4, 5, 6, 7, 8, 9], chkN b t = true := by decide +kernel
end Px

set_option maxRecDepth 100000
set_option maxHeartbeats 4000000
/-! PxQ3: law k19's plain law, all of it. -/
namespace Px
open PySem L2
theorem not4 : ∀ t ∈ texts2 4, ∀ b ∈ [2, 3, 4, 5, 6, 7, 8, 9], chkN b t = true := by decide +kernel
theorem not5a : ∀ b ∈ [2, 3, 4, 5], ∀ t ∈ texts2 5, chkN b t = true := by decide +kernel
theorem not5b : ∀ b ∈ [6, 7, 8, 9], ∀ t ∈ texts2 5, chkN b t = true := by decide +kernel
theorem nots {both : Nat} {t : T} (h1 : 2 ≤ both) (h2 : both ≤ 9) (ht : ∀ c ∈ t, c = 118 ∨ c = 48) (h0 : t ≠ []) (h5 : t.length ≤ 5) : chkN both t = true := by
  have hb : both ∈ [2, 3, 4, 5, 6, 7, 8, 9] := by
    have : both = 2 ∨ both = 3 ∨ both = 4 ∨ both = 5 ∨ both = 6 ∨ both = 7 ∨ both = 8 ∨ both = 9 := by omega
    rcases this with e | e | e | e | e | e | e | e <;> subst e <;> decide
  have hm := texts2_mem ht
  have hl : 0 < t.length := List.length_pos_iff.mpr h0
  have : t.length = 1 ∨ t.length = 2 ∨ t.length = 3 ∨ t.length = 4 ∨ t.length = 5 := by omega
  rcases this with e | e | e | e | e <;> rw [e] at hm
  · exact not1 t hm both hb
  · exact not2 t hm both hb
  · exact not3 t hm both hb
  · exact not4 t hm both hb
  · have : both ∈ [2, 3, 4, 5] ∨ both ∈ [6, 7, 8, 9] := by
      have : both = 2 ∨ both = 3 ∨ both = 4 ∨ both = 5 ∨ both = 6 ∨ both = 7 ∨ both = 8 ∨ both = 9 := by omega
      rcases this with e | e | e | e | e | e | e | e <;> subst e <;> decide
    exact this.elim (fun q => not5a both q t hm) (fun q => not5b both q t hm)
theorem two20 : ∀ x ∈ shapes20, chk2 x.1 x.2 = true := by decide +kernel
def chkC (many more number : Nat) : Bool :=
  check ⟨clsOf many more, [.most [97] number]⟩ (numSs number) codeR (fun n => ((exactOf many more n).take (number + 1)).sum) &&
  check ⟨clsOf many more, [.least [97] number]⟩ (numSs number) codeR (fun n => ((exactOf many more n).drop number).sum)
theorem cls1 : ∀ x ∈ shapes20, chkC x.1 x.2 1 = true := by decide +kernel
theorem cls2 : ∀ x ∈ shapes20, chkC x.1 x.2 2 = true := by decide +kernel
theorem cls3 : ∀ x ∈ shapes20, chkC x.1 x.2 3 = true := by decide +kernel
theorem cls4 : ∀ x ∈ shapes20, chkC x.1 x.2 4 = true := by decide +kernel
def chkRun (both most : Nat) : Bool := ((List.range 15).all fun n => decide ((((match n with | 0 => 1 | n + 1 => both * (runV both most n).getD 1 0 : Nat)) : Int) = (runsL both most n).getD n 0))
theorem runs32 : ∀ b ∈ [2, 3, 4, 5, 6, 7, 8, 9], ∀ m ∈ [1, 2, 3, 4], chkRun b m = true := by decide +kernel
end Px

set_option maxRecDepth 100000
set_option maxHeartbeats 4000000
/-! PxQ4: law k19's plain law, said of the policies that the law builds. -/
namespace Px
open PySem L2
def runC (both most : Nat) : Nat → Nat
  | 0 => 1
  | n + 1 => both * runN both most n 1
theorem runs_eq {both most : Nat} (h1 : 2 ≤ both) (h2 : both ≤ 9) (h3 : 1 ≤ most) (h4 : most ≤ 4) {n : Nat} (hn : n ≤ 14) : ((runC both most n : Nat) : Int) = (runsL both most n).getD n 0 := by
  have hb : both ∈ [2, 3, 4, 5, 6, 7, 8, 9] := by
    have : both = 2 ∨ both = 3 ∨ both = 4 ∨ both = 5 ∨ both = 6 ∨ both = 7 ∨ both = 8 ∨ both = 9 := by omega
    rcases this with e | e | e | e | e | e | e | e <;> subst e <;> decide
  have hm : most ∈ [1, 2, 3, 4] := by
    have : most = 1 ∨ most = 2 ∨ most = 3 ∨ most = 4 := by omega
    rcases this with e | e | e | e <;> subst e <;> decide
  have := List.all_eq_true.mp (runs32 both hb most hm) n (List.mem_range.mpr (by omega))
  rw [← of_decide_eq_true this]
  cases n with
  | zero => rfl
  | succ n =>
    show ((both * runN both most n 1 : Nat) : Int) = ((both * (runV both most n).getD 1 0 : Nat) : Int)
    rw [runV_at h3 n 1 h3]
def polOf (a b : Nat) (r : Rule) : Pol := ⟨clsOf a b, [r]⟩
theorem sg20 : ∀ x ∈ shapes20, (sgOf x.1 x.2).Nodup ∧ (sgOf x.1 x.2).length = x.1 + x.2 ∧ areCls (clsOf x.1 x.2) = true ∧ 118 ∈ sgOf x.1 x.2 ∧ 48 ∈ sgOf x.1 x.2 := by decide +kernel
theorem num4 {m : Nat} (h1 : 1 ≤ m) (h2 : m ≤ 4) : m = 1 ∨ m = 2 ∨ m = 3 ∨ m = 4 := by omega
theorem cls_all {a b m : Nat} (hx : (a, b) ∈ shapes20) (h1 : 1 ≤ m) (h2 : m ≤ 4) : chkC a b m = true := by
  rcases num4 h1 h2 with e | e | e | e <;> subst e
  · exact cls1 (a, b) hx
  · exact cls2 (a, b) hx
  · exact cls3 (a, b) hx
  · exact cls4 (a, b) hx
section
variable {a b m n : Nat}
theorem law_most (hx : (a, b) ∈ shapes20) (h1 : 1 ≤ m) (h2 : m ≤ 4) (hn : n ≤ 14) : ((countOf (polOf a b (.most [97] m)) n : Nat) : Int) = ((exactOf a b n).take (m + 1)).sum := by
  have := cls_all hx h1 h2
  unfold chkC at this
  rw [Bool.and_eq_true] at this
  exact check_spec this.1 hn
theorem law_least (hx : (a, b) ∈ shapes20) (h1 : 1 ≤ m) (h2 : m ≤ 4) (hn : n ≤ 14) : ((countOf (polOf a b (.least [97] m)) n : Nat) : Int) = ((exactOf a b n).drop m).sum := by
  have := cls_all hx h1 h2
  unfold chkC at this
  rw [Bool.and_eq_true] at this
  exact check_spec this.2 hn
theorem law_first (hx : (a, b) ∈ shapes20) (hn : n ≤ 14) : ((countOf (polOf a b (.first [97])) n : Nat) : Int) = dueOf a b n := by
  have := two20 (a, b) hx
  unfold chk2 at this
  rw [Bool.and_eq_true] at this
  exact check_spec this.1 hn
theorem law_last (hx : (a, b) ∈ shapes20) (hn : n ≤ 14) : ((countOf (polOf a b (.last [97])) n : Nat) : Int) = dueOf a b n := by
  have := two20 (a, b) hx
  unfold chk2 at this
  rw [Bool.and_eq_true] at this
  exact check_spec this.2 hn
theorem law_run (hx : (a, b) ∈ shapes20) (ha : 1 ≤ a) (hb : 1 ≤ b) (ha2 : a ≤ 5) (hb2 : b ≤ 4) (h1 : 1 ≤ m) (h2 : m ≤ 4) (hn : n ≤ 14) : ((countOf (polOf a b (.run m)) n : Nat) : Int) = (runsL (a + b) m n).getD n 0 := by
  obtain ⟨nd, len, _⟩ := sg20 (a, b) hx
  rw [← runs_eq (both := a + b) (by omega) (by omega) h1 h2 hn]
  refine congrArg Int.ofNat ?_
  show countOf (runP (clsOf a b) m) n = _
  rw [run_count h1 nd]
  have len : ((clsOf a b).map (·.2)).flatten.length = a + b := len
  rw [len]
  cases n <;> rfl
theorem law_row (hx : (a, b) ∈ shapes20) (h1 : 1 ≤ m) : ((countOf (polOf a b (.row m)) n : Nat) : Int) = rows (clsOf a b) n m := rows_count h1 (sg20 (a, b) hx).1 n
theorem law_not {t : T} (hx : (a, b) ∈ shapes20) (ha : 1 ≤ a) (hb : 1 ≤ b) (ha2 : a ≤ 5) (hb2 : b ≤ 4) (ht : ∀ c ∈ t, c = 118 ∨ c = 48) (h0 : t ≠ []) (h5 : t.length ≤ 5) (hn : n ≤ 14) : ((countOf (polOf a b (.nt t)) n : Nat) : Int) = without (a + b) n t :=
  chkN_spec hx h0 ht (nots (by omega) (by omega) ht h0 h5) hn
theorem fit_of {r : Rule} (hx : (a, b) ∈ shapes20) (h : isRule [[97], [98]] (sgOf a b) r = true) (hw : width 2 r ≤ 1000) (ha2 : a ≤ 5) (hb2 : b ≤ 4) : Fit (polOf a b r) ∧ room (polOf a b r) * (20 + 1) < 16000000 := by
  obtain ⟨nd, len, ac, _⟩ := sg20 (a, b) hx
  have el : (polOf a b r).signs.length = a + b := len
  have er : room (polOf a b r) = (a + b + 1) * width 2 r := by
    unfold room
    rw [el]
    show (a + b + 1) * (width 2 r * 1) = _
    rw [Nat.mul_one]
  have e1 : (a + b + 1) * width 2 r ≤ 10 * 1000 := Nat.mul_le_mul (by omega) hw
  refine ⟨⟨?_, List.nodup_cons.mpr ⟨List.not_mem_nil, List.nodup_nil⟩, ?_⟩, ?_⟩
  · have e3 : isRule (polOf a b r).names (polOf a b r).signs r = true := h
    show (areCls (clsOf a b) && decide (1 ≤ 6) && (isRule (polOf a b r).names (polOf a b r).signs r && true)) = true
    rw [e3, show areCls (clsOf a b) = true from ac]
    rfl
  · rw [er, el]
    have : (a + b + 1) * width 2 r * (a + b) ≤ 10 * 1000 * 9 := Nat.mul_le_mul e1 (by omega)
    omega
  · rw [er]
    omega
end
end Px

set_option maxRecDepth 100000
set_option maxHeartbeats 4000000
/-! PxY: a comprehension whose turns keep an invariant (a list that is drawn from). -/
namespace Px
open PySem L2
/-- [e for .. in ..]: the items are told by R; every turn keeps I -/
theorem lc_inv {J : It} {n : Nat} {G : Hp → Prop} {Y : Nat → Hp → V → Hp → Prop} (w : Walk J n G Y) (L : List Addr) (I : Hp → Prop) (R : Hp → Nat → V → Prop) {g : TG} {te : TE} {vs : List Nat} {σ : L2.St} {H1 : Hp} {D : Addr} {Qd : Hp → Prop}
    (hI : ∀ H o, (∃ xs, H D = some (.lst xs)) → I H → I (upd H D o)) (hR : ∀ H H' i v, Kp L H H' → R H i v → R H' i v) (hRD : ∀ H p o i v, (∃ u, H p = some u ∧ Fx u = false) → R H i v → R (upd H p o) i v)
    (hn : n ≤ 1000) (nD : H1 D = none) (hDL : D ∉ L) (hI1 : I (upd H1 D (.lst []))) (hG : ∀ H, Kp (D :: L) H1 H → I H → G H)
    (hs : ∀ i x H H' (Z : V → Hp → Prop), i < n → Kp (D :: L) H1 H → I H → Y i H x H' → (∀ y H4, R H4 i y → Kp L H H4 → I H4 → Z y H4) →
      g x (wipe σ vs) H' fun σ2 H2 => wipe σ2 vs = wipe σ vs ∧ te σ2 H2 Z)
    (hd : ∀ H ys, Kp (D :: L) H1 H → I H → H D = some (.lst ys) → ys.length = n → (∀ i y, ys[i]? = some y → R H i y) → Qd H) :
    ∃ W : Nat → Nat → Hp → Prop, (∃ m, W 0 m (upd H1 D (.lst []))) ∧ ∀ i m H, W i m H →
      (J.stop i H ∧ Qd H) ∨ (J.go i H ∧ ∃ Nx : Hp → Prop, (∀ H', Nx H' → ∃ m', m' < m ∧ W (i + 1) m' H') ∧ ∀ x H', J.yld i H x H' → g x (wipe σ vs) H' fun σ2 H2 => wipe σ2 vs = wipe σ vs ∧ tYes σ2 H2 fun b H3 =>
        if b = true then te σ2 H3 fun y H4 => ∃ acc, H4 D = some (.lst acc) ∧ acc.length < sizeLine ∧ Nx (upd H4 D (.lst (acc ++ [y]))) else Nx H3) := by
  refine lc_it (tt := tYes) w (fun i H => Kp (D :: L) H1 H ∧ I H ∧ ∃ ys, H D = some (.lst ys) ∧ ys.length = i ∧ ∀ j y, ys[j]? = some y → R H j y) ⟨Kp.new nD, hI1, [], upd_same, rfl, fun j y e => by simp at e⟩ (fun i H _ q => hG H q.1 q.2.1) ?_ (fun H q => ?_)
  · rintro i x H H' hi ⟨k, hi0, ys, hD, hl, hr⟩ y
    refine hs i x H H' (fun y H4 => ∃ acc, H4 D = some (.lst acc) ∧ acc.length < sizeLine ∧ _) hi k hi0 y fun v H4 r kk i4 => ?_
    have hD4 := kk.keep D _ hDL hD
    refine ⟨ys, hD4, small1000 (by omega), ?_, hI _ _ ⟨_, hD4⟩ i4, ys ++ [v], upd_same, by simp [hl], fun j u e => ?_⟩
    · exact k.trans ((kk.mono fun b m => List.mem_cons_of_mem _ m).trans (Kp.put (List.mem_cons_self ..) hD4 rfl))
    · by_cases hj : j < ys.length
      · rw [List.getElem?_append_left hj] at e
        exact hRD _ _ _ _ _ ⟨_, hD4, rfl⟩ (hR _ _ _ _ kk (hr j u e))
      · rw [List.getElem?_append_right (by omega)] at e
        have : j = i := by
          have := (List.getElem?_eq_some_iff.mp e).1
          simp at this
          omega
        subst this
        rw [show j - ys.length = 0 by omega] at e
        simp at e
        subst e
        exact hRD _ _ _ _ _ ⟨_, hD4, rfl⟩ r
  · obtain ⟨k, hi0, ys, hD, hl, hr⟩ := q
    exact hd H ys k hi0 hD hl hr
end Px

set_option maxRecDepth 100000
set_option maxHeartbeats 4000000
/-! PxL6: law k19 itself. -/
namespace Px
open PySem PySem.Spec PyProof.Rows L2
section
variable {P : Program} {w : World} {K : PySem.W.Frag} {mg : Str → Option Value} {base : Heap}
theorem TownAt.kp0 {H H1 : Hp} {t : Addr} (h : TownAt H t) (k : Kp [] H H1) : TownAt H1 t := by
  obtain ⟨x, y, h1, h2, h3⟩ := h
  exact ⟨x, y, k.at0 h1, h2, h3⟩
theorem inB_of {i a b : Nat} (h1 : a ≤ i) (h2 : i ≤ b) : inB i a b = true := by
  unfold inB
  rw [decide_eq_true h1, decide_eq_true h2]
  rfl
theorem cutV_to (xs : List V) (k : Nat) : cutV xs none (some (k : Int)) = xs.take k := by
  unfold cutV
  rw [HT.sIx_nat, HT.sIx_none, List.drop_zero, Nat.sub_zero]
  by_cases h : k ≤ xs.length
  · rw [Nat.min_eq_left h]
  · rw [Nat.min_eq_right (by omega), List.take_of_length_le (Nat.le_refl _), List.take_of_length_le (by omega)]
theorem cutV_from (xs : List V) (k : Nat) : cutV xs (some (k : Int)) none = xs.drop k := by
  unfold cutV
  rw [HT.sIx_nat, HT.sIx_none, List.take_of_length_le (by simp)]
  by_cases h : k ≤ xs.length
  · rw [Nat.min_eq_left h]
  · rw [Nat.min_eq_right (by omega), List.drop_of_length_le (Nat.le_refl _), List.drop_of_length_le (by omega)]
/-- three new tuples: a rule, the rules, the policy -/
theorem pol3 {H : Hp} {c : Addr} {cls : List (T × T)} {vs : List V} {r : Rule} {p1 p2 p3 : Addr} (dC : Dk K H (.ref c) (.tup (cls.map clsKey))) (h1 : H p1 = none) (h2 : (upd H p1 (.tup vs)) p2 = none) (h3 : (upd (upd H p1 (.tup vs)) p2 (.tup [.ref p1])) p3 = none)
    (hv : DkA K H vs (r.leaves.map Leaf.key)) : Kp [] H (upd (upd (upd H p1 (.tup vs)) p2 (.tup [.ref p1])) p3 (.tup [.ref c, .ref p2])) ∧ Dk K (upd (upd (upd H p1 (.tup vs)) p2 (.tup [.ref p1])) p3 (.tup [.ref c, .ref p2])) (.ref p3) (Pol.key ⟨cls, [r]⟩) := by
  have m1 : Kp [] H (upd H p1 (.tup vs)) := Kp.new h1
  have m2 : Kp [] (upd H p1 (.tup vs)) (upd (upd H p1 (.tup vs)) p2 (.tup [.ref p1])) := Kp.new h2
  have m3 : Kp [] (upd (upd H p1 (.tup vs)) p2 (.tup [.ref p1])) (upd (upd (upd H p1 (.tup vs)) p2 (.tup [.ref p1])) p3 (.tup [.ref c, .ref p2])) := Kp.new h3
  refine ⟨(m1.trans m2).trans m3, .tup (SqT.of upd_same) (.cons (dC.kp ((m1.trans m2).trans m3)) (.cons (.tup (m3.sqt (SqT.of upd_same)) (.cons ?_ .nil)) .nil))⟩
  exact .tup ((m2.trans m3).sqt (SqT.of upd_same)) (hv.kp ((m1.trans m2).trans m3))
theorem one_flat : ∀ r : List Nat, (r.map fun c => [c]).flatten = r
  | [] => rfl
  | c :: r => by rw [List.map_cons, List.flatten_cons, one_flat r]; rfl
theorem letters : ∀ {ys : List V}, (∀ (i : Nat) (y : V), ys[i]? = some y → y = .str (S [118]) ∨ y = .str (S [48])) → ∃ tx : List Nat, ys = tx.map (fun c => V.str (S [c])) ∧ ∀ c ∈ tx, c = 118 ∨ c = 48
  | [], _ => ⟨[], rfl, fun _ h => nomatch h⟩
  | y :: ys, h => by
    obtain ⟨tx, e, ht⟩ := letters (ys := ys) fun i y hy => h (i + 1) y (by simpa using hy)
    rcases h 0 y rfl with e2 | e2
    · exact ⟨118 :: tx, by rw [e2, e]; rfl, fun c hc => (List.mem_cons.mp hc).elim .inl (ht c)⟩
    · exact ⟨48 :: tx, by rw [e2, e]; rfl, fun c hc => (List.mem_cons.mp hc).elim .inr (ht c)⟩
theorem TownAt.upd {H : Hp} {t D : Addr} {o : HO} (h : TownAt H t) (n : t ≠ D) : TownAt (upd H D o) t := by
  obtain ⟨x, y, h1, h2, h3⟩ := h
  exact ⟨x, y, by rw [upd_ne n]; exact h1, h2, h3⟩
def spLaw (K : PySem.W.Frag) : Sp := fun vs H Q _ => ∃ (a : Addr) (ns : List Int), vs = [.ref a] ∧ SqL K H a (ns.map V.int) ∧ ns.length ≤ 63 ∧ ∀ H', Q (.bl true) H'
theorem sc_law : FnScope ["_law_script", "_law_town", "_law_many", "_law_more", "_law_size", "_law_classes_here", "_law_number", "_law_both", "_law_exact", "_law_text", "_law_due", "_law_at", "_law_k"] ["_law_script"] (defScope s_law) := ⟨rfl, rfl, rfl, by decide +kernel, rfl, by decide +kernel, by decide +kernel⟩
theorem ok_law19 (T : Top K w mg) {f : Addr} {fd : FuncData} (F : Fun K "law" "law" s_law f fd) : FnOk P w K mg base CX0 30 f fd ["_law_script"] (spLaw K) := by
  refine F.ok sc_law (fun vs H Q E h => ?_) (fun cdv A outer s H vs Q E hr h => ?_)
  · obtain ⟨a, ns, rfl, _⟩ := h
    rfl
  obtain ⟨a, ns, rfl, hs, hl, q⟩ := h
  have hu := hr.units
  refine ⟨_, pss_cons (ps_set (i := 1) sc_law.nd rfl (Or.inr rfl) (pe_lst (pa_cons (pe_int) (pa_cons (pe_int) (pa_nil)))))
    (pss_cons (ps_asg (pe_tup (pa_cons (pe_op op_add (pe_int) (pe_call (ok_law_draw (P := P) (base := base) T) (hr.mono (by decide)) (by rfl) T.d__law_draw.m T.d__law_draw.F.kp T.d__law_draw.b .nil pass0 (pa_cons (pv 0) (pa_cons (pv 1) (pa_cons (pe_int) (pa_nil)))))) (pa_cons (pe_op op_add (pe_int) (pe_call (ok_law_draw (P := P) (base := base) T) (hr.mono (by decide)) (by rfl) T.d__law_draw.m T.d__law_draw.F.kp T.d__law_draw.b .nil pass0 (pa_cons (pv 0) (pa_cons (pv 1) (pa_cons (pe_int) (pa_nil)))))) (pa_cons (pe_call (ok_law_draw (P := P) (base := base) T) (hr.mono (by decide)) (by rfl) T.d__law_draw.m T.d__law_draw.F.kp T.d__law_draw.b .nil pass0 (pa_cons (pv 0) (pa_cons (pv 1) (pa_cons (pe_int) (pa_nil))))) (pa_nil))))) (pg_tup rfl (pgs_cons (pg_name (i := 2) sc_law.nd rfl (Or.inr rfl)) (pgs_cons (pg_name (i := 3) sc_law.nd rfl (Or.inr rfl)) (pgs_cons (pg_name (i := 4) sc_law.nd rfl (Or.inr rfl)) (pgs_nil))))))
    (pss_cons (ps_par (i := 5) (j := 6) rfl sc_law.nd rfl rfl (by decide) rfl rfl (pa_cons (pe_tup (pa_cons (pe_tup (pa_cons (pe_str) (pa_cons (pe_slice sl_str (pe_str) po_none (po_some (pv 2))) (pa_nil)))) (pa_cons (pe_tup (pa_cons (pe_str) (pa_cons (pe_slice sl_str (pe_str) po_none (po_some (pv 3))) (pa_nil)))) (pa_nil)))) (pa_cons (pe_op op_add (pe_int) (pe_call (ok_law_draw (P := P) (base := base) T) (hr.mono (by decide)) (by rfl) T.d__law_draw.m T.d__law_draw.F.kp T.d__law_draw.b .nil pass0 (pa_cons (pv 0) (pa_cons (pv 1) (pa_cons (pe_int) (pa_nil)))))) (pa_nil))) (by rfl))
    (pss_cons (ps_set (i := 7) sc_law.nd rfl (Or.inl rfl) (pe_op op_add (pv 2) (pv 3)))
    (pss_cons (ps_setLc (i := 8) (own := [("_law_at", 11)]) (g := gName 11) (tt := tYes) rfl sc_law.nd rfl rfl (sw_true rfl rfl rfl (by decide +kernel)) (pi_range1 (by rfl) T.b_range (pa_cons (pe_op op_add (pv 4) (pe_int)) (pa_nil))) (blkOk_by (own := [("_law_at", 11)]) (N := ["_law_script", "_law_town", "_law_many", "_law_more", "_law_size", "_law_classes_here", "_law_number", "_law_both", "_law_exact", "_law_text", "_law_due", "_law_at", "_law_k"]) (sc := defScope s_law) (by decide +kernel)) (fun _ _ _ _ _ => pg_name (i := 11) sc_law.nd rfl (Or.inl rfl)) (fun _ _ _ _ _ => pts_nil) (fun _ _ _ _ _ => pe_call (ok_law_placed (P := P) (base := base) T) (hr.mono (by decide)) (by rfl) T.d__law_placed.m T.d__law_placed.F.kp T.d__law_placed.b .nil pass0 (pa_cons (pv 2) (pa_cons (pv 3) (pa_cons (pv 4) (pa_cons (pv 11) (pa_nil)))))))
    (pss_cons (ps_if (pt_cmpR op_ne (pe_call (ok_count (P := P) (base := base) T) (hr.mono (by decide)) (by rfl) T.d_count.m T.d_count.F.kp T.d_count.b .nil pass0 (pa_cons (pe_tup (pa_cons (pv 5) (pa_cons (pe_tup (pa_cons (pe_tup (pa_cons (pe_str) (pa_cons (pe_str) (pa_cons (pv 6) (pa_nil))))) (pa_nil))) (pa_nil)))) (pa_cons (pv 4) (pa_nil)))) (pe_callB (sumK (K := K) rfl) (by rfl) T.b_sum (by decide +kernel) (pa_cons (pe_slice sl_list (pv 8) po_none (po_some (pe_op op_add (pv 6) (pe_int)))) (pa_nil))) (nomark _)) (pss_one (ps_ret (pe_bl))) (pss_nil))
    (pss_cons (ps_if (pt_cmpR op_ne (pe_call (ok_count (P := P) (base := base) T) (hr.mono (by decide)) (by rfl) T.d_count.m T.d_count.F.kp T.d_count.b .nil pass0 (pa_cons (pe_tup (pa_cons (pv 5) (pa_cons (pe_tup (pa_cons (pe_tup (pa_cons (pe_str) (pa_cons (pe_str) (pa_cons (pv 6) (pa_nil))))) (pa_nil))) (pa_nil)))) (pa_cons (pv 4) (pa_nil)))) (pe_callB (sumK (K := K) rfl) (by rfl) T.b_sum (by decide +kernel) (pa_cons (pe_slice sl_list (pv 8) (po_some (pv 6)) po_none) (pa_nil))) (nomark _)) (pss_one (ps_ret (pe_bl))) (pss_nil))
    (pss_cons (ps_if (pt_cmpR op_ne (pe_call (ok_count (P := P) (base := base) T) (hr.mono (by decide)) (by rfl) T.d_count.m T.d_count.F.kp T.d_count.b .nil pass0 (pa_cons (pe_tup (pa_cons (pv 5) (pa_cons (pe_tup (pa_cons (pe_tup (pa_cons (pe_str) (pa_cons (pv 6) (pa_nil)))) (pa_nil))) (pa_nil)))) (pa_cons (pv 4) (pa_nil)))) (pe_call (ok_law_runs (P := P) (base := base) T) (hr.mono (by decide)) (by rfl) T.d__law_runs.m T.d__law_runs.F.kp T.d__law_runs.b .nil pass0 (pa_cons (pv 7) (pa_cons (pv 4) (pa_cons (pv 6) (pa_nil))))) (nomark _)) (pss_one (ps_ret (pe_bl))) (pss_nil))
    (pss_cons (ps_if (pt_cmpR op_ne (pe_call (ok_count (P := P) (base := base) T) (hr.mono (by decide)) (by rfl) T.d_count.m T.d_count.F.kp T.d_count.b .nil pass0 (pa_cons (pe_tup (pa_cons (pv 5) (pa_cons (pe_tup (pa_cons (pe_tup (pa_cons (pe_str) (pa_cons (pv 6) (pa_nil)))) (pa_nil))) (pa_nil)))) (pa_cons (pv 4) (pa_nil)))) (pe_call (ok_law_rows (P := P) (base := base) T) (hr.mono (by decide)) (by rfl) T.d__law_rows.m T.d__law_rows.F.kp T.d__law_rows.b .nil pass0 (pa_cons (pv 5) (pa_cons (pv 4) (pa_cons (pv 6) (pa_nil))))) (nomark _)) (pss_one (ps_ret (pe_bl))) (pss_nil))
    (pss_cons (ps_set (i := 9) sc_law.nd rfl (Or.inl rfl) (pe_join (pe_str) (pe_lc (own := [("_law_k", 12)]) (g := gName 12) (tt := tYes) rfl sc_law.nd (pi_range1 (by rfl) T.b_range (pa_cons (pe_op op_add (pe_int) (pe_call (ok_law_draw (P := P) (base := base) T) (hr.mono (by decide)) (by rfl) T.d__law_draw.m T.d__law_draw.F.kp T.d__law_draw.b .nil pass0 (pa_cons (pv 0) (pa_cons (pv 1) (pa_cons (pe_int) (pa_nil)))))) (pa_nil))) (blkOk_by (own := [("_law_k", 12)]) (N := ["_law_script", "_law_town", "_law_many", "_law_more", "_law_size", "_law_classes_here", "_law_number", "_law_both", "_law_exact", "_law_text", "_law_due", "_law_at", "_law_k"]) (sc := defScope s_law) (by decide +kernel)) (fun _ _ _ _ _ => pg_name (i := 12) sc_law.nd rfl (Or.inl rfl)) (fun _ _ _ _ _ => pts_nil) (fun _ _ _ _ _ => pe_call (ok_law_pick (P := P) (base := base) T) (hr.mono (by decide)) (by rfl) T.d__law_pick.m T.d__law_pick.F.kp T.d__law_pick.b .nil pass0 (pa_cons (pv 0) (pa_cons (pv 1) (pa_cons (pe_str) (pa_nil))))))))
    (pss_cons (ps_if (pt_cmpR op_ne (pe_call (ok_count (P := P) (base := base) T) (hr.mono (by decide)) (by rfl) T.d_count.m T.d_count.F.kp T.d_count.b .nil pass0 (pa_cons (pe_tup (pa_cons (pv 5) (pa_cons (pe_tup (pa_cons (pe_tup (pa_cons (pe_str) (pa_cons (pv 9) (pa_nil)))) (pa_nil))) (pa_nil)))) (pa_cons (pv 4) (pa_nil)))) (pe_call (ok_law_without (P := P) (base := base) T) (hr.mono (by decide)) (by rfl) T.d__law_without.m T.d__law_without.F.kp T.d__law_without.b .nil pass0 (pa_cons (pv 7) (pa_cons (pv 4) (pa_cons (pv 9) (pa_nil))))) (nomark _)) (pss_one (ps_ret (pe_bl))) (pss_nil))
    (pss_cons (ps_set (i := 10) sc_law.nd rfl (Or.inl rfl) (pe_ifExp (pt_cmpR op_eq (pv 4) (pe_int) (nomark _)) (pe_int) (pe_op op_mul (pv 2) (pe_call (ok_law_power (P := P) (base := base) T) (hr.mono (by decide)) (by rfl) T.d__law_power.m T.d__law_power.F.kp T.d__law_power.b .nil pass0 (pa_cons (pv 7) (pa_cons (pe_op op_sub (pv 4) (pe_int)) (pa_nil)))))))
    (pss_cons (ps_if (pt_cmpR op_ne (pe_call (ok_count (P := P) (base := base) T) (hr.mono (by decide)) (by rfl) T.d_count.m T.d_count.F.kp T.d_count.b .nil pass0 (pa_cons (pe_tup (pa_cons (pv 5) (pa_cons (pe_tup (pa_cons (pe_tup (pa_cons (pe_str) (pa_cons (pe_str) (pa_nil)))) (pa_nil))) (pa_nil)))) (pa_cons (pv 4) (pa_nil)))) (pv 10) (nomark _)) (pss_one (ps_ret (pe_bl))) (pss_nil))
    (pss_one (ps_ret (pe_cmpR op_eq (pe_call (ok_count (P := P) (base := base) T) (hr.mono (by decide)) (by rfl) T.d_count.m T.d_count.F.kp T.d_count.b .nil pass0 (pa_cons (pe_tup (pa_cons (pv 5) (pa_cons (pe_tup (pa_cons (pe_tup (pa_cons (pe_str) (pa_cons (pe_str) (pa_nil)))) (pa_nil))) (pa_nil)))) (pa_cons (pv 4) (pa_nil)))) (pv 10) (nomark _)))))))))))))))), ?_⟩
  refine ⟨by show 2 ≤ sizeLine; decide, fun t ht => ?_⟩
  have off : Off K a t ns := by
    rcases hs with (h | ⟨o, h⟩) | h
    · exact .inl fun z => by rw [z, ht] at h; cases h
    · exact .inl fun z => by rw [z, ht] at h; cases h
    · exact .inr fun _ => .inr h
  have k0 : Kp [t] H (upd H t (.lst [.int 0, .int 0])) := Kp.new ht
  have t0 : TownAt (upd H t (.lst [.int 0, .int 0])) t := ⟨0, 0, upd_same, by decide, by decide⟩
  have sql : ∀ {H1 : Hp}, Kp [t] H H1 → SqL K H1 a (ns.map V.int) := fun k => off.sql hs k
  generalize upd H t (.lst [.int 0, .int 0]) = H0 at k0 t0 ⊢
  -- many, more, size
  refine ⟨_, rfl, _, rfl, a, t, ns, 5, rfl, sql k0, by omega, t0, by decide, by decide, off, fun r1 H1 q1 k1 t1 => ?_⟩
  have k1 := k0.trans k1
  refine ⟨_, _, rfl, rfl, _, rfl, _, rfl, a, t, ns, 4, rfl, sql k1, by omega, t1, by decide, by decide, off, fun r2 H2 q2 k2 t2 => ?_⟩
  have k2 := k1.trans k2
  refine ⟨_, _, rfl, rfl, _, rfl, _, rfl, a, t, ns, 15, rfl, sql k2, by omega, t2, by decide, by decide, off, fun size H3 q3 k3 t3 => ?_⟩
  have k3 := k2.trans k3
  refine ⟨by show 3 ≤ sizeLine; decide, fun p hp => ?_⟩
  have k4 : Kp [t] H (upd H3 p (.tup [.int (1 + (r1 : Nat)), .int (1 + (r2 : Nat)), .int (size : Nat)])) := k3.trans (Kp.new hp)
  have t4 : TownAt (upd H3 p (.tup [.int (1 + (r1 : Nat)), .int (1 + (r2 : Nat)), .int (size : Nat)])) t := by
    obtain ⟨x, y, h1, h2, h3⟩ := t3
    exact ⟨x, y, by rw [upd_ne (fun z => by rw [← z, h1] at hp; cases hp)]; exact h1, h2, h3⟩
  refine ⟨p, _, rfl, SqT.of upd_same, rfl, _, _, rfl, _, _, rfl, _, _, rfl, rfl, ?_⟩
  have t5 := t4
  have k5 := k4
  generalize upd H3 p (.tup [.int (1 + (r1 : Nat)), .int (1 + (r2 : Nat)), .int (size : Nat)]) = H4 at k4 t4 k5 t5 ⊢
  have lA : ("vwxyz" : Str) = S [118, 119, 120, 121, 122] := by decide +kernel
  have lB : ("0123" : Str) = S [48, 49, 50, 51] := by decide +kernel
  have cA : cutS "vwxyz" none (some (1 + (r1 : Nat))) = S ([118, 119, 120, 121, 122].take (r1 + 1)) := by
    rw [lA, show (1 : Int) + (r1 : Nat) = ((r1 + 1 : Nat) : Int) by omega, cut_to]
  have cB : cutS "0123" none (some (1 + (r2 : Nat))) = S ([48, 49, 50, 51].take (r2 + 1)) := by
    rw [lB, show (1 : Int) + (r2 : Nat) = ((r2 + 1 : Nat) : Int) by omega, cut_to]
  -- classes, number
  refine ⟨_, rfl, _, rfl, _, rfl, by decide, ?_⟩
  rw [cA]
  refine ⟨by show 2 ≤ sizeLine; decide, fun p1 hp1 => ?_⟩
  refine ⟨_, rfl, _, rfl, _, rfl, by decide, ?_⟩
  rw [cB]
  refine ⟨by show 2 ≤ sizeLine; decide, fun p2 hp2 => ⟨by show 2 ≤ sizeLine; decide, fun p3 hp3 => ?_⟩⟩
  have m1 : Kp [] H4 (upd H4 p1 (.tup [.str "a", .str (S ([118, 119, 120, 121, 122].take (r1 + 1)))])) := Kp.new hp1
  have m2 := m1.trans (Kp.new (L := []) (o := .tup [.str "b", .str (S ([48, 49, 50, 51].take (r2 + 1)))]) hp2)
  have m3 := m2.trans (Kp.new (L := []) (o := .tup [.ref p1, .ref p2]) hp3)
  have dC : Dk K (upd (upd (upd H4 p1 (.tup [.str "a", .str (S ([118, 119, 120, 121, 122].take (r1 + 1)))])) p2 (.tup [.str "b", .str (S ([48, 49, 50, 51].take (r2 + 1)))])) p3 (.tup [.ref p1, .ref p2])) (.ref p3) (.tup ((clsOf (r1 + 1) (r2 + 1)).map clsKey)) := by
    refine .tup (SqT.of upd_same) (.cons ?_ (.cons ?_ .nil))
    · exact Dk.kp (.tup (SqT.of upd_same) (.cons (.txt _) (.cons (.txt _) .nil))) ((Kp.new (L := []) (o := .tup [.str "b", .str (S ([48, 49, 50, 51].take (r2 + 1)))]) hp2).trans (Kp.new (L := []) (o := .tup [.ref p1, .ref p2]) hp3))
    · exact Dk.kp (.tup (SqT.of upd_same) (.cons (.txt _) (.cons (.txt _) .nil))) (Kp.new (L := []) (o := .tup [.ref p1, .ref p2]) hp3)
  have k6 := k4.trans m3.up
  have t6 := t4.kp0 m3
  generalize upd (upd (upd H4 p1 (.tup [.str "a", .str (S ([118, 119, 120, 121, 122].take (r1 + 1)))])) p2 (.tup [.str "b", .str (S ([48, 49, 50, 51].take (r2 + 1)))])) p3 (.tup [.ref p1, .ref p2]) = H5 at k6 t6 dC ⊢
  clear m1 m2 m3
  refine ⟨_, rfl, _, rfl, a, t, ns, 4, rfl, sql k6, by omega, t6, by decide, by decide, off, fun r3 H6 q6 k7 t7 => ?_⟩
  have dC := dC.kp k7
  have k7 := k6.trans k7
  refine ⟨_, _, rfl, rfl, _, _, rfl, ?_⟩
  -- both
  refine ⟨_, rfl, _, rfl, _, _, rfl, rfl, ?_⟩
  -- exact
  refine ⟨_, rfl, _, _, rfl, rfl, (size : Int) + 1, rfl, by omega, by omega, ?_⟩
  rw [show ((size : Int) + 1).toNat = size + 1 by omega]
  refine fun D nD => lc_val (walk_range (lo := 0) (n := size + 1)) [] (fun i => V.int (placed (r1 + 1) (r2 + 1) size i)) (by omega) nD (fun z => nomatch z) (fun _ _ => trivial) (fun i x H7 H8 Z hi kk hY hZ => ?_) (fun H7 k8 hD => ?_)
  · obtain ⟨rfl, rfl⟩ := hY
    refine ⟨rfl, _, rfl, _, rfl, _, rfl, _, rfl, r1 + 1, r2 + 1, size, i, ?_, by omega, by omega, by omega, by omega, ?_⟩
    · show [V.int (1 + (r1 : Nat)), V.int (1 + (r2 : Nat)), V.int (size : Nat), V.int (0 + (i : Nat))] = _
      rw [show (1 : Int) + (r1 : Nat) = ((r1 + 1 : Nat) : Int) by omega, show (1 : Int) + (r2 : Nat) = ((r2 + 1 : Nat) : Int) by omega, Int.zero_add]
    · exact hZ _ Kp.refl
  have k8 := k8.drop1 nD
  have dC := dC.kp k8
  have t8 := t7.kp0 k8
  have k9 := k7.trans k8.up
  have hx : (r1 + 1, r2 + 1) ∈ shapes20 := shapes_mem (by omega) (by omega) (by omega) (by omega)
  have h15 : size ≤ 14 := by omega
  have D9 := hD
  rw [show (List.range (size + 1)).map (fun i => V.int (placed (r1 + 1) (r2 + 1) size i)) = (exactOf (r1 + 1) (r2 + 1) size).map V.int by unfold exactOf; rw [List.map_map]; rfl] at D9
  obtain ⟨fm, rm⟩ := fit_of (r := .most [97] (r3 + 1)) hx (by show (decide (([97] : List Nat) ∈ [[97], [98]]) && inB (r3 + 1) 0 4) = true; rw [inB_of (by omega) (by omega)]; rfl) (by show r3 + 1 + 1 ≤ 1000; omega) (by omega) (by omega)
  have dn : ∀ H, Dk K H (.int (1 + (r3 : Nat))) (Leaf.num ((r3 + 1 : Nat) : Int)).key := fun H => by
    rw [show (1 : Int) + (r3 : Nat) = ((r3 + 1 : Nat) : Int) by omega]
    exact .num _
  have n3 : (1 : Int) + (r3 : Nat) = ((r3 + 1 : Nat) : Int) := by omega
  -- most
  refine ⟨_, rfl, _, rfl, by show 3 ≤ sizeLine; decide, fun a1 ha1 => ⟨by show 1 ≤ sizeLine; decide, fun a2 ha2 => ⟨by show 2 ≤ sizeLine; decide, fun a3 ha3 => ?_⟩⟩⟩
  obtain ⟨k10, d10⟩ := pol3 (r := .most [97] (r3 + 1)) dC ha1 ha2 ha3 (.cons (.txt _) (.cons (.txt _) (.cons (dn _) .nil)))
  refine ⟨_, rfl, _, polOf (r1 + 1) (r2 + 1) (.most [97] (r3 + 1)), size, 20, rfl, d10, fm, by omega, by omega, rm, fun H9 k11 => ?_⟩
  have k11 := k10.trans k11
  refine ⟨_, rfl, _, rfl, _, _, rfl, rfl, _, rfl, D, _, rfl, SqL.of (k11.at0 D9), fun p9 hp9 => ?_⟩
  have c9 : cutV ((exactOf (r1 + 1) (r2 + 1) size).map V.int) none (some (1 + (r3 : Int) + 1)) = ((exactOf (r1 + 1) (r2 + 1) size).take (r3 + 1 + 1)).map V.int := by
    rw [show 1 + (r3 : Int) + 1 = ((r3 + 1 + 1 : Nat) : Int) by omega, cutV_to, List.map_take]
  rw [c9]
  refine ⟨p9, (exactOf (r1 + 1) (r2 + 1) size).take (r3 + 1 + 1), rfl, SqL.of upd_same, ?_⟩
  refine ⟨rfl, _, rfl, ?_⟩
  rw [law_most hx (by omega) (by omega) h15]
  refine iteDn rfl ?_
  have k12 := k11.trans (Kp.new (L := []) (o := .lst (((exactOf (r1 + 1) (r2 + 1) size).take (r3 + 1 + 1)).map V.int)) hp9)
  generalize upd H9 p9 (.lst (((exactOf (r1 + 1) (r2 + 1) size).take (r3 + 1 + 1)).map V.int)) = H10 at k12 ⊢
  clear k10 d10 k11 hp9
  have dC := dC.kp k12
  have t9 := t8.kp0 k12
  have D9 := k12.at0 D9
  have k13 := k9.trans k12.up
  -- least
  refine ⟨_, rfl, _, rfl, by show 3 ≤ sizeLine; decide, fun a1 ha1 => ⟨by show 1 ≤ sizeLine; decide, fun a2 ha2 => ⟨by show 2 ≤ sizeLine; decide, fun a3 ha3 => ?_⟩⟩⟩
  obtain ⟨k14, d14⟩ := pol3 (r := .least [97] (r3 + 1)) dC ha1 ha2 ha3 (.cons (.txt _) (.cons (.txt _) (.cons (dn _) .nil)))
  obtain ⟨fm, rm⟩ := fit_of (r := .least [97] (r3 + 1)) hx (by show (decide (([97] : List Nat) ∈ [[97], [98]]) && inB (r3 + 1) 1 4) = true; rw [inB_of (by omega) (by omega)]; rfl) (by show r3 + 1 + 1 ≤ 1000; omega) (by omega) (by omega)
  refine ⟨_, rfl, _, polOf (r1 + 1) (r2 + 1) (.least [97] (r3 + 1)), size, 20, rfl, d14, fm, by omega, by omega, rm, fun H11 k15 => ?_⟩
  have k15 := k14.trans k15
  refine ⟨_, rfl, _, rfl, _, rfl, D, _, rfl, SqL.of (k15.at0 D9), fun p10 hp10 => ?_⟩
  have c10 : cutV ((exactOf (r1 + 1) (r2 + 1) size).map V.int) (some (1 + (r3 : Int))) none = ((exactOf (r1 + 1) (r2 + 1) size).drop (r3 + 1)).map V.int := by
    rw [n3, cutV_from, List.map_drop]
  rw [c10]
  refine ⟨p10, (exactOf (r1 + 1) (r2 + 1) size).drop (r3 + 1), rfl, SqL.of upd_same, ?_⟩
  refine ⟨rfl, _, rfl, ?_⟩
  rw [law_least hx (by omega) (by omega) h15]
  refine iteDn rfl ?_
  have k16 := k15.trans (Kp.new (L := []) (o := .lst (((exactOf (r1 + 1) (r2 + 1) size).drop (r3 + 1)).map V.int)) hp10)
  generalize upd H11 p10 (.lst (((exactOf (r1 + 1) (r2 + 1) size).drop (r3 + 1)).map V.int)) = H12 at k16 ⊢
  clear k14 d14 k15 hp10
  have dC := dC.kp k16
  have t10 := t9.kp0 k16
  have k17 := k13.trans k16.up
  have both : (1 : Int) + (r1 : Nat) + (1 + (r2 : Nat)) = ((r1 + 1 + (r2 + 1) : Nat) : Int) := by omega
  -- run
  refine ⟨_, rfl, _, rfl, by show 2 ≤ sizeLine; decide, fun a1 ha1 => ⟨by show 1 ≤ sizeLine; decide, fun a2 ha2 => ⟨by show 2 ≤ sizeLine; decide, fun a3 ha3 => ?_⟩⟩⟩
  obtain ⟨k18, d18⟩ := pol3 (r := .run (r3 + 1)) dC ha1 ha2 ha3 (.cons (.txt _) (.cons (dn _) .nil))
  obtain ⟨fm, rm⟩ := fit_of (r := .run (r3 + 1)) hx (inB_of (by omega) (by omega)) (by show r3 + 1 + 1 ≤ 1000; omega) (by omega) (by omega)
  refine ⟨_, rfl, _, polOf (r1 + 1) (r2 + 1) (.run (r3 + 1)), size, 20, rfl, d18, fm, by omega, by omega, rm, fun H13 k19 => ?_⟩
  have k19 := k18.trans k19
  refine ⟨_, rfl, _, rfl, _, rfl, r1 + 1 + (r2 + 1), size, r3 + 1, ?_, by omega, by omega, by omega, fun H14 k20 => ?_⟩
  · show [V.int (1 + (r1 : Nat) + (1 + (r2 : Nat))), V.int (size : Nat), V.int (1 + (r3 : Nat))] = _
    rw [both, n3]
  refine ⟨rfl, _, rfl, ?_⟩
  rw [law_run hx (by omega) (by omega) (by omega) (by omega) (by omega) (by omega) h15]
  refine iteDn rfl ?_
  have k20 := k19.trans k20
  clear k18 d18 k19
  have dC := dC.kp k20
  have t11 := t10.kp0 k20
  have k21 := k17.trans k20.up
  -- row
  refine ⟨_, rfl, _, rfl, by show 2 ≤ sizeLine; decide, fun a1 ha1 => ⟨by show 1 ≤ sizeLine; decide, fun a2 ha2 => ⟨by show 2 ≤ sizeLine; decide, fun a3 ha3 => ?_⟩⟩⟩
  obtain ⟨k22, d22⟩ := pol3 (r := .row (r3 + 1)) dC ha1 ha2 ha3 (.cons (.txt _) (.cons (dn _) .nil))
  obtain ⟨fm, rm⟩ := fit_of (r := .row (r3 + 1)) hx (inB_of (by omega) (by omega)) (by show r3 + 1 + 1 ≤ 1000; omega) (by omega) (by omega)
  refine ⟨_, rfl, _, polOf (r1 + 1) (r2 + 1) (.row (r3 + 1)), size, 20, rfl, d22, fm, by omega, by omega, rm, fun H15 k23 => ?_⟩
  have k23 := k22.trans k23
  refine ⟨_, rfl, _, rfl, _, rfl, _, clsOf (r1 + 1) (r2 + 1), size, r3 + 1, ?_, dC.kp k23, fm.small, (sg20 (r1 + 1, r2 + 1) hx).1, by omega, by omega, by omega, fun H16 k24 => ?_⟩
  · show [V.ref p3, V.int (size : Nat), V.int (1 + (r3 : Nat))] = _
    rw [n3]
  refine ⟨rfl, _, rfl, ?_⟩
  rw [law_row hx (by omega)]
  refine iteDn rfl ?_
  have k24 := k23.trans k24
  clear k22 d22 k23
  have dC := dC.kp k24
  have t12 := t11.kp0 k24
  have k25 := k21.trans k24.up
  -- text
  refine ⟨⟨_, rfl⟩, _, rfl, _, rfl, a, t, ns, 5, rfl, sql k25, by omega, t12, by decide, by decide, off, fun r4 H17 q7 k26 t13 => ?_⟩
  have dC := dC.kp k26
  have k27 := k25.trans k26
  refine ⟨_, _, rfl, rfl, 1 + (r4 : Int), rfl, by omega, by omega, fun D2 nD2 => ?_⟩
  have nt2 : t ≠ D2 := fun z => by
    obtain ⟨x, y, h1, _⟩ := t13
    rw [← z, h1] at nD2
    cases nD2
  rw [show (1 + (r4 : Int)).toNat = r4 + 1 by omega]
  have lV : ("vv0v" : Str) = S [118, 118, 48, 118] := by decide +kernel
  refine lc_inv (walk_range (lo := 0) (n := r4 + 1)) [t] (fun H => TownAt H t) (fun _ _ v => v = .str (S [118]) ∨ v = .str (S [48])) (fun H o _ h => h.upd nt2) (fun _ _ _ _ _ r => r) (fun _ _ _ _ _ _ r => r) (by omega) nD2 (fun z => nt2 (List.mem_singleton.mp z).symm) (t13.upd nt2) (fun _ _ _ => trivial) (fun i x H18 H19 Z hi kk tt hY hZ => ?_) (fun H18 ys kk tt hD2 hl2 hr2 => ?_)
  · obtain ⟨rfl, rfl⟩ := hY
    refine ⟨rfl, _, rfl, _, rfl, a, t, ns, .str "vv0v", [.str (S [118]), .str (S [118]), .str (S [48]), .str (S [118])], rfl, sql (k27.trans (kk.fresh nD2)), by omega, tt, off, .inr (.inr ⟨[118, 118, 48, 118], congrArg V.str lV, rfl⟩), (fun z => nomatch z), by decide, by decide, fun v H20 hv k28 t14 => hZ _ _ ?_ k28 t14⟩
    simp only [List.mem_cons, List.not_mem_nil, or_false] at hv
    rcases hv with e | e | e | e
    · exact .inl e
    · exact .inl e
    · exact .inr e
    · exact .inl e
  obtain ⟨tx, rfl, htx⟩ := letters hr2
  rw [List.length_map] at hl2
  have k28 := kk.fresh nD2
  have dC := dC.kp k28
  have k29 := k27.trans k28
  refine ⟨_, D2, tx.map fun c => S [c], rfl, rfl, .inl (SqL.of (by rw [hD2, List.map_map]; rfl)), ?_, ?_⟩
  · have := sum_le (n := 1) (tx.map fun c => [c]) (fun y hy => by
      obtain ⟨c, hc, rfl⟩ := List.mem_map.mp hy
      exact Nat.le_refl _)
    rw [List.map_map, List.length_map] at this
    rw [List.map_map, List.length_map]
    have e0 : ("" : Str).length = 0 := rfl
    rw [e0, Nat.mul_zero]
    exact Nat.le_trans this (by omega)
  rw [show Txt.join (_ : Str) (tx.map fun c => S [c]) = S tx from by
    have := join_flat (tx.map fun c => [c])
    rw [List.map_map] at this
    refine this.trans (congrArg S ?_)
    exact one_flat tx]
  have t15 : TownAt H18 t := tt
  clear hD2 kk tt k26 k28
  -- not
  refine ⟨_, rfl, _, rfl, by show 2 ≤ sizeLine; decide, fun a1 ha1 => ⟨by show 1 ≤ sizeLine; decide, fun a2 ha2 => ⟨by show 2 ≤ sizeLine; decide, fun a3 ha3 => ?_⟩⟩⟩
  obtain ⟨k30, d30⟩ := pol3 (r := .nt tx) dC ha1 ha2 ha3 (.cons (.txt _) (.cons (.txt _) .nil))
  have hin := sg20 (r1 + 1, r2 + 1) hx
  have hov : isRule [[97], [98]] (sgOf (r1 + 1) (r2 + 1)) (.nt tx) = true := by
    show (inB tx.length 1 5 && tx.all fun c => decide (c ∈ sgOf (r1 + 1) (r2 + 1))) = true
    rw [inB_of (by omega) (by omega), Bool.true_and, List.all_eq_true]
    intro c hc
    refine decide_eq_true ?_
    rcases htx c hc with e | e
    · rw [e]; exact hin.2.2.2.1
    · rw [e]; exact hin.2.2.2.2
  obtain ⟨fm, rm⟩ := fit_of hx hov (by show tx.length ≤ 1000; omega) (by omega) (by omega)
  refine ⟨_, rfl, _, polOf (r1 + 1) (r2 + 1) (.nt tx), size, 20, rfl, d30, fm, by omega, by omega, rm, fun H21 k31 => ?_⟩
  have k31 := k30.trans k31
  refine ⟨_, rfl, _, rfl, _, rfl, r1 + 1 + (r2 + 1), size, tx, ?_, by omega, by omega, by omega, by omega, fun H22 k32 => ?_⟩
  · show [V.int (1 + (r1 : Nat) + (1 + (r2 : Nat))), V.int (size : Nat), V.str (S tx)] = _
    rw [both]
  refine ⟨rfl, _, rfl, ?_⟩
  rw [law_not hx (by omega) (by omega) (by omega) (by omega) htx (fun z => by rw [z] at hl2; cases hl2) (by omega) h15]
  refine iteDn rfl ?_
  have k32 := k31.trans k32
  clear k30 d30 k31
  have dC := dC.kp k32
  -- due
  refine ⟨_, rfl, rfl, _, rfl, ite2 (fun h0 => ?zero) (fun h0 => ?pos)⟩
  case zero =>
    have h0 : size = 0 := Int.ofNat.inj (V.int.inj (of_decide_eq_true h0))
    have hdue : (0 : Int) = dueOf (r1 + 1) (r2 + 1) size := by unfold dueOf; rw [if_pos h0]
    refine ⟨_, rfl, by show 2 ≤ sizeLine; decide, fun a1 ha1 => ⟨by show 1 ≤ sizeLine; decide, fun a2 ha2 => ⟨by show 2 ≤ sizeLine; decide, fun a3 ha3 => ?_⟩⟩⟩
    obtain ⟨k33, d33⟩ := pol3 (r := .first [97]) dC ha1 ha2 ha3 (.cons (.txt _) (.cons (.txt _) .nil))
    obtain ⟨fm, rm⟩ := fit_of (r := .first [97]) hx (by rfl) (by show 2 ≤ 1000; omega) (by omega) (by omega)
    refine ⟨_, rfl, _, polOf (r1 + 1) (r2 + 1) (.first [97]), size, 20, rfl, d33, fm, by omega, by omega, rm, fun H23 k34 => ?_⟩
    have k34 := k33.trans k34
    refine ⟨_, rfl, rfl, _, rfl, ?_⟩
    rw [law_first hx h15, ← hdue]
    refine iteDn rfl ?_
    have dC := dC.kp k34
    clear k33 d33 ha1 ha2 ha3
    refine ⟨_, rfl, by show 2 ≤ sizeLine; decide, fun a1 ha1 => ⟨by show 1 ≤ sizeLine; decide, fun a2 ha2 => ⟨by show 2 ≤ sizeLine; decide, fun a3 ha3 => ?_⟩⟩⟩
    obtain ⟨k35, d35⟩ := pol3 (r := .last [97]) dC ha1 ha2 ha3 (.cons (.txt _) (.cons (.txt _) .nil))
    obtain ⟨fm, rm⟩ := fit_of (r := .last [97]) hx (by rfl) (by show 3 ≤ 1000; omega) (by omega) (by omega)
    refine ⟨_, rfl, _, polOf (r1 + 1) (r2 + 1) (.last [97]), size, 20, rfl, d35, fm, by omega, by omega, rm, fun H24 k36 => ?_⟩
    refine ⟨_, rfl, rfl, ?_⟩
    rw [law_last hx h15, ← hdue]
    exact (show ∀ b, b = true → Q (.bl b) H24 from fun b e => by rw [e]; exact q _) _ (decide_eq_true rfl)
  case pos =>
    have h0 : size ≠ 0 := fun z => h0 (decide_eq_true (by rw [z]; rfl))
    refine ⟨_, rfl, _, rfl, _, rfl, _, _, rfl, rfl, r1 + 1 + (r2 + 1), size - 1, ?_, by omega, by omega, ?_⟩
    · show [V.int (1 + (r1 : Nat) + (1 + (r2 : Nat))), V.int ((size : Nat) - 1)] = _
      rw [both, show ((size : Nat) : Int) - 1 = ((size - 1 : Nat) : Int) by omega]
    refine ⟨_, _, rfl, rfl, .inl ⟨by omega, by omega⟩, ?_⟩
    have hdue : (1 + (r1 : Int)) * (((r1 + 1 + (r2 + 1)) ^ (size - 1) : Nat) : Int) = dueOf (r1 + 1) (r2 + 1) size := by
      unfold dueOf
      rw [if_neg h0, show (1 : Int) + (r1 : Int) = ((r1 + 1 : Nat) : Int) by omega]
    refine ⟨_, rfl, by show 2 ≤ sizeLine; decide, fun a1 ha1 => ⟨by show 1 ≤ sizeLine; decide, fun a2 ha2 => ⟨by show 2 ≤ sizeLine; decide, fun a3 ha3 => ?_⟩⟩⟩
    obtain ⟨k33, d33⟩ := pol3 (r := .first [97]) dC ha1 ha2 ha3 (.cons (.txt _) (.cons (.txt _) .nil))
    obtain ⟨fm, rm⟩ := fit_of (r := .first [97]) hx (by rfl) (by show 2 ≤ 1000; omega) (by omega) (by omega)
    refine ⟨_, rfl, _, polOf (r1 + 1) (r2 + 1) (.first [97]), size, 20, rfl, d33, fm, by omega, by omega, rm, fun H23 k34 => ?_⟩
    have k34 := k33.trans k34
    refine ⟨_, rfl, rfl, _, rfl, ?_⟩
    rw [law_first hx h15, ← hdue]
    refine iteDn rfl ?_
    have dC := dC.kp k34
    clear k33 d33 ha1 ha2 ha3
    refine ⟨_, rfl, by show 2 ≤ sizeLine; decide, fun a1 ha1 => ⟨by show 1 ≤ sizeLine; decide, fun a2 ha2 => ⟨by show 2 ≤ sizeLine; decide, fun a3 ha3 => ?_⟩⟩⟩
    obtain ⟨k35, d35⟩ := pol3 (r := .last [97]) dC ha1 ha2 ha3 (.cons (.txt _) (.cons (.txt _) .nil))
    obtain ⟨fm, rm⟩ := fit_of (r := .last [97]) hx (by rfl) (by show 3 ≤ 1000; omega) (by omega) (by omega)
    refine ⟨_, rfl, _, polOf (r1 + 1) (r2 + 1) (.last [97]), size, 20, rfl, d35, fm, by omega, by omega, rm, fun H24 k36 => ?_⟩
    refine ⟨_, rfl, rfl, ?_⟩
    rw [law_last hx h15, ← hdue]
    exact (show ∀ b, b = true → Q (.bl b) H24 from fun b e => by rw [e]; exact q _) _ (decide_eq_true rfl)
end
end Px

open PySem PySem.W PyProof.Rows
set_option maxRecDepth 100000 in
set_option maxHeartbeats 0 in
theorem PySem.Challenge.cw_passrules_k19_whole_single_rules_holds : PySem.Challenge.rw_passrules_k19_whole_single_rules.Holds := by
  w_on; o_law; k_head; (case hw => w_witness2)
  k_fill
  refine Px.walkX (l := PySem.Challenge.rw_passrules_k19_whole_single_rules) (n := 63) (k := 30) (x := "_law_script") (CX := L2.CX0) (sp := Px.spLaw) rfl (by decide) rfl ⟨rfl, by decide, by decide⟩ (fun w h Y => PySem.W.kIn_of Y) ?F (fun K H a ns hl _ hS => ⟨a, ns, rfl, hS, hl, fun _ => rfl⟩) (fun _ _ _ _ z => z)
  case F =>
    intro w mg fa h KX G X hmg
    have d_is_count := Px.defAt Px.bd_is_count KX G (by k_is) (by k_is) (by k_is) (by k_is)
    have d_is_over := Px.defAt Px.bd_is_over KX G (by k_is) (by k_is) (by k_is) (by k_is)
    have d_are_classes := Px.defAt Px.bd_are_classes KX G (by k_is) (by k_is) (by k_is) (by k_is)
    have d_is_rule := Px.defAt Px.bd_is_rule KX G (by k_is) (by k_is) (by k_is) (by k_is)
    have d_is_name := Px.defAt Px.bd_is_name KX G (by k_is) (by k_is) (by k_is) (by k_is)
    have d_is_policy := Px.defAt Px.bd_is_policy KX G (by k_is) (by k_is) (by k_is) (by k_is)
    have d_signs_of := Px.defAt Px.bd_signs_of KX G (by k_is) (by k_is) (by k_is) (by k_is)
    have d_need_policy := Px.defAt Px.bd_need_policy KX G (by k_is) (by k_is) (by k_is) (by k_is)
    have d_many_from := Px.defAt Px.bd_many_from KX G (by k_is) (by k_is) (by k_is) (by k_is)
    have d_need_size := Px.defAt Px.bd_need_size KX G (by k_is) (by k_is) (by k_is) (by k_is)
    have d_count := Px.defAt Px.bd_count KX G (by k_is) (by k_is) (by k_is) (by k_is)
    have d__law_draw := Px.defAt Px.bd__law_draw KX G (by k_is) (by k_is) (by k_is) (by k_is)
    have d__law_pick := Px.defAt Px.bd__law_pick KX G (by k_is) (by k_is) (by k_is) (by k_is)
    have d__law_power := Px.defAt Px.bd__law_power KX G (by k_is) (by k_is) (by k_is) (by k_is)
    have d__law_placed := Px.defAt Px.bd__law_placed KX G (by k_is) (by k_is) (by k_is) (by k_is)
    have d__law_runs := Px.defAt Px.bd__law_runs KX G (by k_is) (by k_is) (by k_is) (by k_is)
    have d__law_rows := Px.defAt Px.bd__law_rows KX G (by k_is) (by k_is) (by k_is) (by k_is)
    have d__law_without := Px.defAt Px.bd__law_without KX G (by k_is) (by k_is) (by k_is) (by k_is)
    have d_law := Px.defAt Px.bd_law KX G (by k_is) (by k_is) (by k_is) (by k_is)
    have x_SIGNS : ∃ t, mg "SIGNS" = some (.str Px.tSIGNS t) := by
      obtain ⟨_, q⟩ := X
      obtain ⟨v, h1, h2⟩ := q.val _ List.mem_cons_self
      cases h2
      exact ⟨_, h1⟩
    refine' Px.law_endT (Px.Top.mk (w := w) d_is_count d_is_over d_are_classes d_is_rule d_is_name d_is_policy d_signs_of d_need_policy d_many_from d_need_size d_count d__law_draw d__law_pick d__law_power d__law_placed d__law_runs d__law_rows d__law_without _ (PySem.W.mg_of KX G ?q1) (L2.Cls.mk ?q2 ?q3 ?q4 ?q5) (show PySem.W.findIn _ (.ref _) "rules" = some none from ?q6) (show PySem.W.findIn _ (.ref _) "signs" = some none from ?q7) (show PySem.W.findIn _ (.ref _) "names" = some none from ?q8) (show PySem.W.findIn _ (.ref _) "followers" = some none from ?q9) (show PySem.W.findIn _ (.ref _) "start" = some none from ?q10) (show PySem.W.findIn _ (.ref _) "known" = some none from ?q11) (Px.initAt Px.bd_Machine___init__ ?q12 ?q13 ?q14 ?q15 ?q16 ?q17 ?q18) (Px.methAt Px.bd_Machine_step ?q19 ?q20 ?q21 ?q22 ?q23) (Px.methAt Px.bd_Machine_moved ?q24 ?q25 ?q26 ?q27 ?q28) (Px.methAt Px.bd_Machine_counted ?q29 ?q30 ?q31 ?q32 ?q33) (Px.methAt Px.bd_Machine_unmatched ?q34 ?q35 ?q36 ?q37 ?q38) (Px.methAt Px.bd_Machine_keeps ?q39 ?q40 ?q41 ?q42 ?q43) (Px.methAt Px.bd_Machine_fine ?q44 ?q45 ?q46 ?q47 ?q48) (Px.methAt Px.bd_Machine_after ?q49 ?q50 ?q51 ?q52 ?q53) (PySem.W.mg_none_of KX G ?q54) (PySem.W.mg_none_of KX G ?q55) (PySem.W.mg_none_of KX G ?q56) (PySem.W.mg_none_of KX G ?q57) (PySem.W.mg_none_of KX G ?q58) (PySem.W.mg_none_of KX G ?q59) (PySem.W.mg_none_of KX G ?q60) (PySem.W.mg_none_of KX G ?q61) (PySem.W.mg_none_of KX G ?q62) (PySem.W.mg_none_of KX G ?q63) (PySem.W.mg_none_of KX G ?q64) (PySem.W.mg_none_of KX G ?q65) (PySem.W.mg_none_of KX G ?q66) (PySem.W.mg_none_of KX G ?q67) (PySem.W.mg_none_of KX G ?q68) (Px.constStr KX G ?q69) x_SIGNS (Px.constInt KX G ?q70) (Px.constInt KX G ?q71) (Px.constInt KX G ?q72) (Px.constInt KX G ?q73) (Px.startsAt KX G ?q74 ?q75 ?q76 ?q77 ?q78 ?q79 ?q80 ?q81 (Px.kTup ?q82 ?q83 ?q84) ?q85 (Px.kTup ?q86 ?q87 ?q88) ?q89 (Px.kTup ?q90 ?q91 ?q92) ?q93 ?q94 ?q95) trivial trivial trivial) G hmg d_law Px.bd_law (fun T f fd F base => Px.ok_law19 T F)
    (case q1 => k_is)
    (case q2 => k_is)
    (case q3 => k_is)
    (case q4 => k_is)
    (case q5 => k_is)
    (case q6 => k_is)
    (case q7 => k_is)
    (case q8 => k_is)
    (case q9 => k_is)
    (case q10 => k_is)
    (case q11 => k_is)
    (case q12 => k_is)
    (case q13 => k_is)
    (case q14 => k_is)
    (case q15 => k_is)
    (case q16 => k_is)
    (case q17 => k_is)
    (case q18 => k_is)
    (case q19 => k_is)
    (case q20 => k_is)
    (case q21 => k_is)
    (case q22 => k_is)
    (case q23 => k_is)
    (case q24 => k_is)
    (case q25 => k_is)
    (case q26 => k_is)
    (case q27 => k_is)
    (case q28 => k_is)
    (case q29 => k_is)
    (case q30 => k_is)
    (case q31 => k_is)
    (case q32 => k_is)
    (case q33 => k_is)
    (case q34 => k_is)
    (case q35 => k_is)
    (case q36 => k_is)
    (case q37 => k_is)
    (case q38 => k_is)
    (case q39 => k_is)
    (case q40 => k_is)
    (case q41 => k_is)
    (case q42 => k_is)
    (case q43 => k_is)
    (case q44 => k_is)
    (case q45 => k_is)
    (case q46 => k_is)
    (case q47 => k_is)
    (case q48 => k_is)
    (case q49 => k_is)
    (case q50 => k_is)
    (case q51 => k_is)
    (case q52 => k_is)
    (case q53 => k_is)
    (case q54 => k_is)
    (case q55 => k_is)
    (case q56 => k_is)
    (case q57 => k_is)
    (case q58 => k_is)
    (case q59 => k_is)
    (case q60 => k_is)
    (case q61 => k_is)
    (case q62 => k_is)
    (case q63 => k_is)
    (case q64 => k_is)
    (case q65 => k_is)
    (case q66 => k_is)
    (case q67 => k_is)
    (case q68 => k_is)
    (case q69 => k_is)
    (case q70 => k_is)
    (case q71 => k_is)
    (case q72 => k_is)
    (case q73 => k_is)
    (case q74 => k_is)
    (case q75 => k_is)
    (case q76 => refine ⟨⟨_, _, rfl, rfl⟩, ⟨_, _, rfl, rfl⟩, ⟨_, _, rfl, rfl⟩, ⟨_, _, rfl, rfl⟩, ⟨_, _, rfl, rfl⟩, ⟨_, _, rfl, rfl⟩, trivial⟩)
    (case q77 => rfl)
    (case q78 => k_is)
    (case q79 => k_is)
    (case q80 => k_is)
    (case q81 => k_is)
    (case q82 => k_is)
    (case q83 => decide)
    (case q84 => exact .nil)
    (case q85 => k_is)
    (case q86 => k_is)
    (case q87 => decide)
    (case q88 => exact .cons ⟨_, rfl⟩ (.cons ⟨_, rfl⟩ .nil))
    (case q89 => k_is)
    (case q90 => k_is)
    (case q91 => decide)
    (case q92 => exact .cons ⟨_, rfl⟩ (.cons ⟨_, rfl⟩ .nil))
    (case q93 => k_is)
    (case q94 => k_is)
    (case q95 => k_is)

