import PyProof.Rows.All
import HandS.Dict
import HandS.Iter
import HandS.Conv
import KE.KDictKeyed
import KE.KDictCopyH
import KE.KDictWalk
import KE.KDictList
import HandS.Walk
import HandS.Zip
import KE.GoesEnum
import KE.GoesMore
import KE.DataMinMax
import HandS.Deep
import HandS.ForMost
import HandS.Defaults
import HandS.IsInst
import HandS.Flow
import HandS.Style
import HandS.Wide
import HandS.TupAny
import HandS.WideBits
import HandS.Sort
import HandS.NoneIn
import Wide.All
import OpenK.AllK
import Wide.FinOn
import KE.KStateDown
import HandS.Ends
import HandS.More
import HandS.Words
import HandS.WordsExc
import HandS.Head0
import HandS.Head1
import HandS.Head2
import HandS.HeadEnd
import HandS.HeadHook1
import HandS.HeadHook2
import PySem.Challenge.RW_surepilot_k01_whole_regions_are_sets
section
set_option Elab.async false
set_option linter.all false
namespace Py
open PySem L2
/-! ### dicts whose keys are tuples of tuples -/
mutual
inductive NKey (K : PySem.W.Frag) (H : Hp) : NestedKey → V → Prop
  | none : NKey K H .none .non
  | num (i : Int) : NKey K H (.num i) (.int i)
  | text (x : Str) : NKey K H (.text x) (.str x)
  | tup {a : Addr} {vs : List V} {ks : List NestedKey} : SqT K H a vs → NKeys K H ks vs → NKey K H (.tup ks) (.ref a)
inductive NKeys (K : PySem.W.Frag) (H : Hp) : List NestedKey → List V → Prop
  | nil : NKeys K H [] []
  | cons {k : NestedKey} {v : V} {ks : List NestedKey} {vs : List V} : NKey K H k v → NKeys K H ks vs → NKeys K H (k :: ks) (v :: vs)
end
mutual
theorem NKey.is {X : Cx} {pins : List (Addr × Obj)} {σ : L2.St} {H : Hp} {s : Shared} (I : Inv X pins σ H s) : ∀ (k : NestedKey) (v : V) (u : Value), NKey X.K H k v → RelV v u → NestedIs s.heap k u
  | .none, _, u, h, r => by cases h; cases (show u = Value.none from r); exact .none
  | .num i, _, u, h, r => by
    cases h
    obtain ⟨t, rfl⟩ := r
    exact .int i t
  | .text x, _, u, h, r => by
    cases h
    obtain ⟨t, rfl⟩ := r
    exact .text x t
  | .tup ks, _, u, h, r => by
    cases h with
    | tup h1 h2 =>
      rename_i a vs
      cases (show u = Value.ref a from r)
      obtain ⟨its, q1, ⟨o, q2, q3, n, q4⟩, _⟩ := I.tuple h1
      exact .tup q2 q3 q4 (NKeys.are I ks vs its h2 q1)
theorem NKeys.are {X : Cx} {pins : List (Addr × Obj)} {σ : L2.St} {H : Hp} {s : Shared} (I : Inv X pins σ H s) : ∀ (ks : List NestedKey) (vs : List V) (us : List Value), NKeys X.K H ks vs → Vals vs us → NestedAll s.heap ks us
  | [], _, _, h, r => by cases h; cases r; exact .nil
  | k :: ks, _, _, h, r => by
    cases h with
    | cons h1 h2 =>
      cases r with
      | cons r1 r2 => exact .cons (NKey.is I k _ _ h1 r1) (NKeys.are I ks _ _ h2 r2)
end

abbrev NE := NestedKey × Addr × V
abbrev KH : List NE → List (NestedKey × Addr × Value) → Prop := Paired fun p q => p.1 = q.1 ∧ p.2.1 = q.2.1 ∧ RelV p.2.2 q.2.2
def dnP (P : Program) (w : World) (a : Addr) (kvs : List NE) (h : Heap) : Prop := (a == sysModules) = false ∧ kvs.length ≤ sizeLine ∧ ∃ xs, KH kvs xs ∧
  ∃ o es ep, h.get? a = some o ∧ o.ExactDict ∧ o.data = .dict es ep ∧ es.toList = xs.map (entryOfKey (nestedKind P w)) ∧ (xs.map (·.1)).Nodup
def dnO (P : Program) (w : World) (a : Addr) (kvs : List NE) : HO := .ext (dnP P w a kvs)
/-- the value at a key -/
def nAt (kvs : List NE) (k : NestedKey) : Option V := (kvs.find? fun x => decide (x.1 = k)).map (·.2.2)
def nPut (kvs : List NE) (k : NestedKey) (b : Addr) (v : V) : List NE := if (nAt kvs k).isSome then kvs.map fun x => if x.1 = k then (x.1, x.2.1, v) else x else kvs ++ [(k, b, v)]
theorem KH.at_ : ∀ {kvs : List NE} {xs : List (NestedKey × Addr × Value)}, KH kvs xs → ∀ k, RelO (nAt kvs k) ((atKey xs k).map (·.2))
  | _, _, .nil, k => True.intro
  | _, _, .cons (a := p) (b := q) (l₁ := ps) (l₂ := qs) h t, k => by
    by_cases e : p.1 = k
    · have e2 : q.1 = k := h.1 ▸ e
      simp [nAt, atKey, e, e2]
      exact h.2.2
    · have e2 : ¬ q.1 = k := fun z => e (h.1.trans z)
      have := KH.at_ t k
      simpa [nAt, atKey, e, e2] using this
theorem KH.map_ {k : NestedKey} {v : V} {u : Value} (r : RelV v u) : ∀ {kvs : List NE} {xs : List (NestedKey × Addr × Value)}, KH kvs xs → KH (kvs.map fun x => if x.1 = k then (x.1, x.2.1, v) else x) (xs.map (putAt k u))
  | _, _, .nil => .nil
  | _, _, .cons (a := p) (b := q) h t => by
    refine .cons ?_ (KH.map_ r t)
    by_cases e : p.1 = k
    · have e2 : q.1 = k := h.1 ▸ e
      simp only [if_pos e, putAt, if_pos e2]
      exact ⟨h.1, h.2.1, r⟩
    · have e2 : ¬ q.1 = k := fun z => e (h.1.trans z)
      simp only [if_neg e, putAt, if_neg e2]
      exact h
theorem KH.snoc : ∀ {kvs : List NE} {xs : List (NestedKey × Addr × Value)} {p : NE} {q : NestedKey × Addr × Value}, KH kvs xs → (p.1 = q.1 ∧ p.2.1 = q.2.1 ∧ RelV p.2.2 q.2.2) → KH (kvs ++ [p]) (xs ++ [q])
  | _, _, _, _, .nil, h => .cons h .nil
  | _, _, _, _, .cons h t, r => .cons h (KH.snoc t r)
theorem KH.put {k : NestedKey} {b : Addr} {v : V} {u : Value} (r : RelV v u) {kvs : List NE} {xs : List (NestedKey × Addr × Value)} (h : KH kvs xs) : KH (nPut kvs k b v) (storedH xs k b u) := by
  unfold nPut storedH
  have e : (nAt kvs k).isSome = (atKey xs k).isSome := by
    rw [RelO.isSome_eq (h.at_ k), Option.isSome_map]
  rw [e]
  split
  · exact KH.map_ r h
  · exact KH.snoc h ⟨rfl, rfl, r⟩
theorem kh_get : ∀ {kvs : List NE} {xs : List (NestedKey × Addr × Value)} {j : Nat} {p : NE} {q : NestedKey × Addr × Value}, KH kvs xs → kvs[j]? = some p → xs[j]? = some q → RelV p.2.2 q.2.2
  | _, _, 0, _, _, .cons h _, e1, e2 => by cases e1; cases e2; exact h.2.2
  | _, _, j + 1, _, _, .cons _ t, e1, e2 => kh_get t (by simpa using e1) (by simpa using e2)
  | _, _, _, _, _, .nil, e1, _ => by simp at e1
theorem nPut_len (kvs : List NE) (k : NestedKey) (b : Addr) (v : V) : (nPut kvs k b v).length ≤ kvs.length + 1 := by
  unfold nPut
  split <;> simp
section
variable {X : Cx} {pins : List (Addr × Obj)} {σ : L2.St} {H : Hp} {s : Shared} {a b : Addr} {kvs : List NE} {k : NestedKey} {A : Around} {E : Value → Shared → Prop}
theorem dn_of (I : Inv X pins σ H s) (e : H a = some (dnO X.prog X.w a kvs)) (hk : ∀ x ∈ kvs, NKey X.K H x.1 (.ref x.2.1)) (h8 : ∀ x ∈ kvs, x.1.depth ≤ 8) :
    (a == sysModules) = false ∧ kvs.length ≤ sizeLine ∧ ∃ xs, KH kvs xs ∧ s.heap.DictOfH (nestedKind X.prog X.w) a xs := by
  obtain ⟨⟨h1, h2, xs, h3, o, es, ep, h4, h5, h6, h7, h9⟩, _, _⟩ := (show ObjOk X.prog X.w H s.heap a (dnO X.prog X.w a kvs) from I.hok a _ e)
  refine ⟨h1, h2, xs, h3, o, es, ep, h4, h5, h6, h7, ?_, h9⟩
  have all : ∀ {l : List NE} {m : List (NestedKey × Addr × Value)}, KH l m → (∀ x ∈ l, NKey X.K H x.1 (.ref x.2.1)) → (∀ x ∈ l, x.1.depth ≤ 8) → ∀ x ∈ m, (nestedKind X.prog X.w).is s.heap x.1 x.2.1 := by
    intro l m q
    induction q with
    | nil => intro _ _ x hx; exact nomatch hx
    | @cons p q ps qs hq t ih =>
      intro g1 g2 x hx
      rcases List.mem_cons.mp hx with e | hx
      · subst e
        have z := NKey.is I _ _ _ (g1 p (by simp)) (rfl : RelV (.ref p.2.1) (.ref p.2.1))
        rw [hq.1, hq.2.1] at z
        exact ⟨z, by rw [← hq.1]; exact g2 p (by simp)⟩
      · exact ih (fun y hy => g1 y (by simp [hy])) (fun y hy => g2 y (by simp [hy])) x hx
  exact all h3 hk h8
theorem dn_ok {P : Program} {w : World} {H' : Hp} {h' : Heap} {xs : List (NestedKey × Addr × Value)} (h1 : (a == sysModules) = false) (h2 : kvs.length ≤ sizeLine) (h3 : KH kvs xs) (d : h'.DictOfH (nestedKind P w) a xs) : ObjOk P w H' h' a (dnO P w a kvs) := by
  obtain ⟨o, es, ep, h4, h5, h6, h7, _, h9⟩ := d
  exact ⟨⟨h1, h2, xs, h3, o, es, ep, h4, h5, h6, h7, h9⟩, ⟨o, h4⟩, fun g1 g2 ⟨y1, y2, ys, y3, o', es', ep', y4, y5, y6, y7, y9⟩ hg => ⟨y1, y2, ys, y3, o', es', ep', hg _ y4, y5, y6, y7, y9⟩⟩
theorem n_getItem {v : V} {Q : Value → Shared → Prop} (hu : A.in1.units + 8 < cLine) (I : Inv X pins σ H s) (e : H a = some (dnO X.prog X.w a kvs)) (hk : ∀ x ∈ kvs, NKey X.K H x.1 (.ref x.2.1)) (h8 : ∀ x ∈ kvs, x.1.depth ≤ 8)
    (kk : NKey X.K H k (.ref b)) (k8 : k.depth ≤ 8) (g : nAt kvs k = some v) (h : ∀ w' s', Inv X pins σ H s' → RelV v w' → Q w' s') : wpAny (model X.prog X.w) A (getItem (.ref a) (.ref b)) Q E s := by
  obtain ⟨hd, z, xs, rel, dd⟩ := dn_of I e hk h8
  obtain ⟨w', hw, rw'⟩ := RelO.some_of (v := v) (o := (atKey xs k).map (·.2)) (by rw [← g]; exact rel.at_ k)
  obtain ⟨p, hp, hp2⟩ := Option.map_eq_some_iff.mp hw
  refine wpAny_getItem_heap (knd := nestedKind X.prog X.w) hu ⟨NKey.is I _ _ _ kk rfl, k8⟩ dd hp ?_
  rw [hp2]
  exact h w' _ (I.tok _) rw'
theorem n_in {Q : Value → Shared → Prop} (hu : A.in1.units + 8 < cLine) (I : Inv X pins σ H s) (e : H a = some (dnO X.prog X.w a kvs)) (hk : ∀ x ∈ kvs, NKey X.K H x.1 (.ref x.2.1)) (h8 : ∀ x ∈ kvs, x.1.depth ≤ 8)
    (kk : NKey X.K H k (.ref b)) (k8 : k.depth ≤ 8) (h : ∀ s', Inv X pins σ H s' → Q (.bool (nAt kvs k).isSome) s') : wpAny (model X.prog X.w) A (compareOp .In (.ref b) (.ref a)) Q E s := by
  obtain ⟨hd, z, xs, rel, dd⟩ := dn_of I e hk h8
  refine wpAny_in_heap (knd := nestedKind X.prog X.w) hu ⟨NKey.is I _ _ _ kk rfl, k8⟩ hd dd ?_
  have q := RelO.isSome_eq (rel.at_ k)
  rw [Option.isSome_map] at q
  rw [← q]
  exact h _ (I.tok _)
theorem n_notIn {Q : Value → Shared → Prop} (hu : A.in1.units + 8 < cLine) (I : Inv X pins σ H s) (e : H a = some (dnO X.prog X.w a kvs)) (hk : ∀ x ∈ kvs, NKey X.K H x.1 (.ref x.2.1)) (h8 : ∀ x ∈ kvs, x.1.depth ≤ 8)
    (kk : NKey X.K H k (.ref b)) (k8 : k.depth ≤ 8) (h : ∀ s', Inv X pins σ H s' → Q (.bool (!(nAt kvs k).isSome)) s') : wpAny (model X.prog X.w) A (compareOp .NotIn (.ref b) (.ref a)) Q E s := by
  obtain ⟨hd, z, xs, rel, dd⟩ := dn_of I e hk h8
  refine notIn_keyed (knd := nestedKind X.prog X.w) hu ⟨NKey.is I _ _ _ kk rfl, k8⟩ hd ⟨xs, dd, rfl⟩ ?_
  have q := RelO.isSome_eq (rel.at_ k)
  rw [Option.isSome_map] at q
  rw [valueAt_pairsH, Option.isSome_map, ← q]
  exact h _ (I.tok _)
theorem n_setItem {v : V} {r : Value} {Q : Unit → Shared → Prop} (hu : A.in1.units + 8 < cLine) (I : Inv X pins σ H s) (e : H a = some (dnO X.prog X.w a kvs)) (hk : ∀ x ∈ kvs, NKey X.K H x.1 (.ref x.2.1)) (h8 : ∀ x ∈ kvs, x.1.depth ≤ 8)
    (kk : NKey X.K H k (.ref b)) (k8 : k.depth ≤ 8) (hl : kvs.length < sizeLine) (rv : RelV v r) (h : ∀ s', Inv X pins σ (upd H a (dnO X.prog X.w a (nPut kvs k b v))) s' → Q () s') : wpAny (model X.prog X.w) A (setItem (.ref a) (.ref b) r) Q E s := by
  obtain ⟨hd, z, xs, rel, dd⟩ := dn_of I e hk h8
  have hz : xs.length ≤ sizeLine := by rw [← Paired.length rel]; exact z
  have hl' : (nPut kvs k b v).length ≤ sizeLine := by have := nPut_len kvs k b v; omega
  refine wpAny_setItem_heap (knd := nestedKind X.prog X.w) (hsz := hz) hu ⟨NKey.is I _ _ _ kk rfl, k8⟩ dd fun h' dd' hs => h _ ?_
  have he : ∃ q, h'.get? a = some q := let ⟨q, _, _, hq, _⟩ := dd'; ⟨q, hq⟩
  exact d_write I (by rw [e]; exact True.intro) hs he (dn_ok hd hl' (rel.put rv) dd')
end

/-! readings of expressions -/
section
variable {X : Cx} {o i e value : Expr} {pos pos' apos cpos : Pos} {td ty tv : TE}
def NOk (K : PySem.W.Frag) (H : Hp) (kvs : List NE) : Prop := (∀ x ∈ kvs, NKey K H x.1 (.ref x.2.1)) ∧ ∀ x ∈ kvs, x.1.depth ≤ 8
theorem dn_typeIs {pins : List (Addr × Obj)} {σ : L2.St} {H : Hp} {s : Shared} {a : Addr} {kvs : List NE} (I : Inv X pins σ H s) (e : H a = some (dnO X.prog X.w a kvs)) (ok : NOk X.K H kvs) : s.TypeIs (.ref a) "dict" := by
  obtain ⟨_, _, xs, _, dd⟩ := dn_of I e ok.1 ok.2
  exact dd.typeIs
def tNGet (td ty : TE) : TE := fun σ H Q => td σ H fun x H1 => ty σ H1 fun y H2 => ∃ a b kvs k v P w, x = .ref a ∧ y = .ref b ∧ P = X.prog ∧ w = X.w ∧ H2 a = some (dnO P w a kvs) ∧ NOk X.K H2 kvs ∧ NKey X.K H2 k (.ref b) ∧ k.depth ≤ 8 ∧ nAt kvs k = some v ∧ Q v H2
def tNIn (f : Bool → Bool) (ty td : TE) : TE := fun σ H Q => ty σ H fun y H1 => td σ H1 fun x H2 => ∃ a b kvs k P w, x = .ref a ∧ y = .ref b ∧ P = X.prog ∧ w = X.w ∧ H2 a = some (dnO P w a kvs) ∧ NOk X.K H2 kvs ∧ NKey X.K H2 k (.ref b) ∧ k.depth ≤ 8 ∧ Q (.bl (f (nAt kvs k).isSome)) H2
def sNPut (td ty tv : TE) : TS := fun D σ H => tv σ H fun v H1 => td σ H1 fun x H2 => ty σ H2 fun y H3 => ∃ a b kvs k P w, x = .ref a ∧ y = .ref b ∧ P = X.prog ∧ w = X.w ∧ H3 a = some (dnO P w a kvs) ∧ NOk X.K H3 kvs ∧ NKey X.K H3 k (.ref b) ∧ k.depth ≤ 8 ∧ kvs.length < sizeLine ∧ D.nx σ (upd H3 a (dnO P w a (nPut kvs k b v)))
theorem pe_nget (hu : X.A.units + 16 < cLine) (ho : PE X o td) (hi : PE X i ty) (hs : NoSl i) : PE X (.Subscript o i pos) (tNGet (X := X) td ty) := by
  refine ⟨fun pins s σ H Q I h => ?_⟩
  refine subD_of PySem.F.slot_dict_getitem.lookup hs (thn (ho.run pins s σ H _ I h) fun u s1 ⟨x, H1, I1, rx, q1⟩ => thn (hi.run pins s1 σ H1 _ I1 q1) fun iv s2 ⟨y, H2, I2, ry, a, b, kvs, k, v, P, w, ex, ey, eP, ew, e, ok, kk, k8, g, q2⟩ => ?_)
  subst ex ey eP ew
  obtain rfl : u = Value.ref a := rx
  obtain rfl : iv = Value.ref b := ry
  exact ⟨dn_typeIs I2 e ok, n_getItem (by show X.A.units + 1 + 8 < cLine; omega) I2 e ok.1 ok.2 kk k8 g fun w' s3 I3 rw' => ⟨v, H2, I3, rw', q2⟩⟩
theorem pc_nin (hu : X.A.units + 16 < cLine) (hi : PE X i ty) (ho : PE X o td) : PC X .In i o (tNIn (X := X) (fun b => b) ty td) := by
  refine ⟨fun pins s σ H Q I h => ?_⟩
  refine thn (hi.run pins s σ H _ I h) fun iv s1 ⟨y, H1, I1, ry, q1⟩ => thn (ho.run pins s1 σ H1 _ I1 q1) fun u s2 ⟨x, H2, I2, rx, a, b, kvs, k, P, w, ex, ey, eP, ew, e, ok, kk, k8, q2⟩ => ?_
  subst ex ey eP ew
  obtain rfl : u = Value.ref a := rx
  obtain rfl : iv = Value.ref b := ry
  exact n_in (by show X.A.units + 1 + 8 < cLine; omega) I2 e ok.1 ok.2 kk k8 fun s3 I3 => ⟨.bl (nAt kvs k).isSome, H2, I3, rfl, q2⟩
theorem pc_nnotin (hu : X.A.units + 16 < cLine) (hi : PE X i ty) (ho : PE X o td) : PC X .NotIn i o (tNIn (X := X) (fun b => !b) ty td) := by
  refine ⟨fun pins s σ H Q I h => ?_⟩
  refine thn (hi.run pins s σ H _ I h) fun iv s1 ⟨y, H1, I1, ry, q1⟩ => thn (ho.run pins s1 σ H1 _ I1 q1) fun u s2 ⟨x, H2, I2, rx, a, b, kvs, k, P, w, ex, ey, eP, ew, e, ok, kk, k8, q2⟩ => ?_
  subst ex ey eP ew
  obtain rfl : u = Value.ref a := rx
  obtain rfl : iv = Value.ref b := ry
  exact n_notIn (by show X.A.units + 1 + 8 < cLine; omega) I2 e ok.1 ok.2 kk k8 fun s3 I3 => ⟨.bl (!(nAt kvs k).isSome), H2, I3, rfl, q2⟩
theorem ps_nput (hu : X.A.units + 16 < cLine) (ho : PE X o td) (hi : PE X i ty) (hv : PE X value tv) (hs : swapsWith value (some (.Subscript o i pos')) pos.line X.env = pure false) :
    PS X (.Assign [.Subscript o i pos'] value pos) (sNPut (X := X) td ty tv) := by
  refine ⟨fun pins s σ H D I h => ?_⟩
  refine wpAny_Assign_Subscript (thn (hv.run pins s σ H _ I h) fun r s1 ⟨v, H1, I1, rv, q1⟩ => thn (ho.run pins s1 σ H1 _ I1 q1) fun u s2 ⟨x, H2, I2, rx, q2⟩ => thn (hi.run pins s2 σ H2 _ I2 q2) fun iv s3 ⟨y, H3, I3, ry, a, b, kvs, k, P, w, ex, ey, eP, ew, e, ok, kk, k8, hl, q3⟩ => ?_) hs
  subst ex ey eP ew
  obtain rfl : u = Value.ref a := rx
  obtain rfl : iv = Value.ref b := ry
  exact n_setItem (by show X.A.units + 1 + 8 < cLine; omega) I3 e ok.1 ok.2 kk k8 hl rv fun s4 I4 => ⟨σ, _, I4, q3⟩
theorem dn_empty {P : Program} {w : World} {H : Hp} (h : Heap) (hb : sysModules < h.objs.size) : ObjOk P w H (h.push { cls := .type "dict", data := .dict #[] }) h.objs.size (dnO P w h.objs.size []) :=
  dn_ok (xs := []) (beq_eq_false_iff_ne.mpr (Ne.symm (Nat.ne_of_lt hb))) (Nat.zero_le _) .nil (Heap.DictOfH.new h)
def tNNew : TE := fun _ H Q => ∀ p, H p = none → Q (.ref p) (upd H p (dnO X.prog X.w p []))
theorem pe_nnew : PE X (.Dict [] [] pos) (tNNew (X := X)) := ⟨fun pins s σ H Q I h =>
  wpAny_Dict_empty ⟨.ref s.heap.objs.size, _, I.laid (a := s.heap.objs.size) (o := dnO X.prog X.w s.heap.objs.size []) (t' := s.toks) (fun _ _ q => Heap.get?_push_of_some _ q) (Nat.le_refl _) (dn_empty s.heap I.big), rfl, h _ (I.hok.fresh (Nat.le_refl _))⟩⟩
/-! list(d.values()) -/
def nvO (p a : Addr) : HO := .ext (fun h => h.get? p = some { cls := .type "dict_values", data := .fields #[.ref a] })
theorem nvO_ok {P : Program} {w : World} {H : Hp} {h : Heap} {p a : Addr} (e : h.get? p = some { cls := .type "dict_values", data := .fields #[.ref a] }) : ObjOk P w H h p (nvO p a) := ⟨e, ⟨_, e⟩, fun h1 h2 q k => k _ q⟩
def tNVals (td : TE) : TE := fun σ H Q => td σ H fun x H1 => ∃ a kvs P w, x = .ref a ∧ P = X.prog ∧ w = X.w ∧ H1 a = some (dnO P w a kvs) ∧ NOk X.K H1 kvs ∧ ∀ p, H1 p = none → Q (.ref p) (upd H1 p (nvO p a))
theorem pe_nvals (he : PE X e td) (hbase : attributeBase e "values" X.env (eval e X.env) = eval e X.env := by rfl) (hline : (apos.endLine == cpos.line) = true := by rfl) : PE X (.Call (.Attribute e "values" apos) [] [] cpos) (tNVals (X := X) td) := by
  refine ⟨fun pins s σ H R I h => ?_⟩
  refine wpAny_Call_method (T := "dict") (id := "dict.values") hbase rfl hline F.plainAttrs_dict F.slot_dict_values F.type_dict_values (thn (he.run pins s σ H _ I h) fun u s1 ⟨x, H1, I1, rx, a, kvs, P, w, ex, eP, ew, e0, ok, q⟩ => ?_)
  subst ex eP ew
  obtain rfl : u = Value.ref a := rx
  obtain ⟨hd, z, xs, rel, dd⟩ := dn_of I1 e0 ok.1 ok.2
  obtain ⟨es, ep, hraw, hsz, _⟩ := dd.raw
  refine ⟨dd.typeIs, fun b q => ?_, ?_⟩
  · cases q
    obtain ⟨ob, _, _, h1, h2, _⟩ := dd
    exact ⟨ob, h1, h2.2.1⟩
  show wpAny _ _ (callWith cpos (.builtin "dict.values") [.ref a] [] []) _ X.xe s1
  exact method_meetsIn F.slot_dict_values F.entry_dict_values rfl (PySem.evalArgs_none ⟨rfl, dd.typeIs, F.args_dict_values_1 _, _, meets_dict_values_raw a hd, ⟨es, ep, hraw⟩,
    ⟨.ref s1.heap.objs.size, _, I1.laid (t' := s1.toks) (fun b o q => Heap.get?_push_of_some _ q) (Nat.le_refl _) (nvO_ok (Heap.get?_push_size _ rfl)), rfl, q _ (I1.hok.fresh (Nat.le_refl _))⟩⟩)
theorem call_listN (hc : X.calm = true) : CallR X (.type "list") (fun xs H Q => ∃ r a kvs P w, xs = [V.ref r] ∧ P = X.prog ∧ w = X.w ∧ H r = some (nvO r a) ∧ H a = some (dnO P w a kvs) ∧ NOk X.K H kvs ∧ ∀ p, H p = none → Q (.ref p) (upd H p (.lst (kvs.map (·.2.2))))) := by
  intro pins s σ H xs us Q I r h
  obtain ⟨rr, a, kvs, P, w, rfl, eP, ew, hv, e0, ok, q⟩ := h
  subst eP ew
  obtain ⟨u, rfl, rx⟩ := r.one
  cases rx
  obtain ⟨hd, z, xs, rel, dd⟩ := dn_of I e0 ok.1 ok.2
  obtain ⟨es, ep, hraw, hsz, hent⟩ := dd.raw
  have hv' : s.heap.get? rr = some { cls := .type "dict_values", data := .fields #[.ref a] } := (show ObjOk X.prog X.w H s.heap rr (nvO rr a) from I.hok rr _ hv).1
  have hlen : kvs.length = xs.length := Paired.length rel
  refine PySem.W.kdl_call (KdlSrc.rawValues (r := rr) (d := a) (es := es) (ep := ep)) (I.ok.hd hc) ⟨⟨_, hv', rfl, rfl⟩, hraw⟩ (by omega) fun h' tk acc' c' kp e it => ?_
  have hl : acc'.toList.length = es.size := by rw [Array.length_toList, it.1]
  have rv : Vals (kvs.map (·.2.2)) acc'.toList := by
    refine vals_of_at (by rw [List.length_map, hl, hsz, hlen]) fun j x u hx hu => ?_
    rw [List.getElem?_map] at hx
    obtain ⟨ne, hne, rfl⟩ := Option.map_eq_some_iff.mp hx
    obtain ⟨hi, rfl⟩ := it.2 j u (by rw [← Array.getElem?_toList]; exact hu)
    obtain ⟨y, hy, _, hv2, _⟩ := hent j hi
    rw [hv2]
    exact kh_get rel hne hy
  exact ⟨.ref s.heap.objs.size, _, I.laid (t' := tk) (o := .lst (kvs.map (·.2.2))) kp (Nat.le_refl _) ⟨by rw [List.length_map]; omega, acc'.toList, c', rv, by rw [Array.toArray_toList]; exact e⟩, rfl, q _ (I.hok.fresh (Nat.le_refl _))⟩
end

/-! keys without texts: the same in each world -/
mutual
def nNum : NestedKey → Bool
  | .none => true
  | .num _ => true
  | .text _ => false
  | .tup ks => nNums ks
def nNums : List NestedKey → Bool
  | [] => true
  | k :: ks => nNum k && nNums ks
end
mutual
theorem hash_num (w w' : World) : ∀ k : NestedKey, nNum k = true → k.hash w = k.hash w'
  | .none, _ => rfl
  | .num _, _ => rfl
  | .text _, h => by cases h
  | .tup ks, h => by
    rw [nNum] at h
    rw [NestedKey.hash, NestedKey.hash, hashes_num w w' ks h]
theorem hashes_num (w w' : World) : ∀ ks : List NestedKey, nNums ks = true → NestedKey.hashes w ks = NestedKey.hashes w' ks
  | [], _ => rfl
  | k :: ks, h => by
    rw [nNums, Bool.and_eq_true] at h
    rw [NestedKey.hashes, NestedKey.hashes, hash_num w w' k h.1, hashes_num w w' ks h.2]
end
theorem kh_num : ∀ {kvs : List NE} {xs : List (NestedKey × Addr × Value)}, KH kvs xs → (∀ x ∈ kvs, nNum x.1 = true) → ∀ x ∈ xs, nNum x.1 = true
  | _, _, .nil, _ => fun _ h => by cases h
  | _, _, .cons h t, a => fun x hx => by
    rcases List.mem_cons.mp hx with e | hx
    · subst e; rw [← h.1]; exact a _ (by simp)
    · exact kh_num t (fun y hy => a y (by simp [hy])) x hx
theorem dnO_eq {P P' : Program} {w w' : World} {a : Addr} {kvs : List NE} (h : ∀ x ∈ kvs, nNum x.1 = true) : dnO P w a kvs = dnO P' w' a kvs := by
  have key : ∀ (P P' : Program) (w w' : World) h0, dnP P w a kvs h0 → dnP P' w' a kvs h0 := by
    rintro P P' w w' h0 ⟨h1, h2, xs, h3, o, es, ep, h4, h5, h6, h7, h9⟩
    refine ⟨h1, h2, xs, h3, o, es, ep, h4, h5, h6, ?_, h9⟩
    rw [h7]
    refine List.map_congr_left fun x hx => ?_
    show (⟨x.1.hash w, .ref x.2.1, x.2.2⟩ : DictEntry) = ⟨x.1.hash w', .ref x.2.1, x.2.2⟩
    rw [hash_num w w' _ (kh_num h3 h x hx)]
  unfold dnO
  congr 1
  funext h0
  exact propext ⟨key _ _ _ _ h0, key _ _ _ _ h0⟩
end Py
end
section
set_option Elab.async false
set_option linter.all false
set_option maxRecDepth 100000
/-! enumerate over a tuple -/
namespace Py
open PySem L2 PyProof.Rows
set_option maxHeartbeats 1000000 in
theorem meets_enumerate_newT (l : Addr) (items : Array Value) :
    Meets (Builtin.«enumerate.__new__» ⟨[.type "enumerate", .ref l], []⟩) (fun _ R s => s.heap.IsTuple l items ∧
      R (.ok (.ret (.ref (s.heap.push { cls := .type "tuple_iterator", data := .fields #[.ref l, .int 0 0] }).objs.size)))
        { s with heap := (s.heap.push { cls := .type "tuple_iterator", data := .fields #[.ref l, .int 0 0] }).push { cls := .type "enumerate", data := .fields #[.none, .bool false, .ref s.heap.objs.size, rawInt 0, .none, .none] } }) :=
  .of_wp fun prog w A R s h => by
    obtain ⟨hp, g, d, tk, os⟩ := s; obtain ⟨h1, h⟩ := h
    have hsub := sub_enumerate
    have q1 : ∀ {A' : Around} {E : Value → Shared → Prop} {Q : Value → Shared → Prop}, Q (.ref hp.objs.size) ⟨hp.push { cls := .type "tuple_iterator", data := .fields #[.ref l, .int 0 0] }, g, d, tk, os⟩ → wpAny (model prog w) A' (pyIter (.ref l)) Q E ⟨hp, g, d, tk, os⟩ :=
      fun q => wpAny_pyIter_tuple h1 q
    wp_walk using q1
    refine wpAny_stack_any fun st => wpAny_pure ?_
    split
    · rename_i c _ _ _ _ _
      cases (c == Value.type "enumerate")
      · wp_walk using q1
        exact ⟨_, rfl, h⟩
      · wp_walk using q1
        exact ⟨_, rfl, h⟩
    · wp_walk using q1
      exact ⟨_, rfl, h⟩
theorem call_enumerate_tuple {prog : Program} {w : World} {A : Around} {E : Value → Shared → Prop} {s : Shared} {l : Addr} {items : Array Value} {Q : Value → Shared → Prop} (hL : s.heap.IsTuple l items)
    (h : ∀ h', IsEnum h' (s.heap.objs.size + 1) s.heap.objs.size 0 .none → h'.IsTupleIter s.heap.objs.size l 0 → h'.objs.size = s.heap.objs.size + 2 →
      (∀ b o, s.heap.get? b = some o → h'.get? b = some o) → Q (.ref (s.heap.objs.size + 1)) { s with heap := h' }) :
    wpAny (model prog w) A (call (.type "enumerate") [.ref l]) Q E s := by
  refine callType_new F.called_enumerate (by decide) (F.typeCall_enumerate_1 _) (F.newCall_enumerate_1 _) (fun obj => F.args_object_init_2 obj _) F.entry_enumerate_new
    (meets_enumerate_newT l items) ⟨hL, ?_⟩
  have hz : (s.heap.push { cls := .type "tuple_iterator", data := .fields #[.ref l, .int 0 0] }).objs.size = s.heap.objs.size + 1 := Heap.size_push ..
  show _ ∧ _
  rw [hz]
  have he : IsEnum ((s.heap.push { cls := .type "tuple_iterator", data := .fields #[.ref l, .int 0 0] }).push
      { cls := .type "enumerate", data := .fields #[.none, .bool false, .ref s.heap.objs.size, rawInt 0, .none, .none] }) (s.heap.objs.size + 1) s.heap.objs.size 0 .none := by
    have := Heap.get?_push_size (s.heap.push { cls := .type "tuple_iterator", data := .fields #[.ref l, .int 0 0] })
      (o := { cls := .type "enumerate", data := .fields #[.none, .bool false, .ref s.heap.objs.size, rawInt 0, .none, .none] }) rfl
    rw [hz] at this; exact this
  refine ⟨⟨_, he, rfl⟩, h _ he ⟨_, Heap.get?_push_of_some _ (Heap.get?_push_size _ rfl), rfl, rfl⟩ (by rw [Heap.size_push, hz]) fun b o x => Heap.get?_push_of_some _ (Heap.get?_push_of_some _ x)⟩
theorem enum_endT {prog : Program} {w : World} {A : Around} {E : Value → Shared → Prop} {s : Shared} {e it l : Addr} {i : Nat} {items : Array Value} {old : Value} {Q : Option Value → Shared → Prop} (hh : A.handled = none)
    (he : IsEnum s.heap e it i old) (hit : s.heap.IsTupleIter it l i) (hl : s.heap.IsTuple l items) (hx : items[i]? = none)
    (hQ : ∀ h', Heap.ExtBut it s.heap h' → Q none { s with heap := h' }) : wpAny (model prog w) A (pyNext (.ref e)) Q E s := by
  have hT : s.TypeIs (.ref e) "enumerate" := ⟨_, he, rfl⟩
  unfold pyNext
  refine wpAny_bind (wpAny_attempt (wpAny_callSpecial?_slot (name := Str.ofString "__next__") hT F.slot_enumerate_next
    (wpAny_call_entry F.slot_enumerate_next hT F.entry_enumerate_next ?_ (F.args_enumerate_next_1 _))))
  show wpAny _ _ (field (.ref e) 2 >>= _) _ _ _
  refine wpAny_bind (wpAny_field he rfl (x := .ref it) rfl ?_)
  refine wpAny_bind (wpAny_nextOf_tuple_end (A := A.in1) hh hit hl hx fun h' x he' hx' => ?_)
  obtain ⟨o, ho, hc⟩ := hx'
  refine wpAny_bind (wpAny_isInstance (T := "StopIteration") (b := true) ⟨o, ho, hc⟩ isSubtype_stop ?_)
  exact wpAny_pure (hQ _ he')
def IteT (K : PySem.W.Frag) (a : Addr) : It :=
  ⟨fun i H => ∃ (xs : List V) (x : V), SqT K H a xs ∧ xs[i]? = some x, fun i H v H' => ∃ T x, v = .ref T ∧ H T = none ∧ H' = upd H T (.tup [.int (i : Nat), x]) ∧ ∀ xs, SqT K H a xs → xs[i]? = some x, fun i H => ∃ xs : List V, SqT K H a xs ∧ xs.length ≤ i⟩
theorem turn_enumT {P : Program} {w : World} {K : PySem.W.Frag} {elts : List Expr} {kk : Nat} {tpos : Pos} (a e it : Addr) (hat : a ≠ it) (hae : a ≠ e) :
    Turn P w K (.Tuple elts kk tpos) (IteT K a) [e, it] e (fun i h => (∃ old, IsEnum h e it ((i : Nat) : Int) old) ∧ h.IsTupleIter it a i ∧ e ≠ it) where
  mem := by simp
  obj := fun i h st b hb => by
    obtain ⟨⟨old, he⟩, ⟨o, ho, hc, hd⟩, _⟩ := st
    have e' : b = e ∨ b = it := by simpa using hb
    rcases e' with z | z
    · rw [z]; exact ⟨_, he, fun v q => nomatch q⟩
    · rw [z]; exact ⟨o, ho, fun v q => by rw [hd] at q; cases q⟩
  keep := fun i h h' st k => let ⟨⟨old, he⟩, hi, hne⟩ := st; ⟨⟨old, k e (by simp) _ he⟩, hi.at fun o q => k it (by simp) o q, hne⟩
  item := by
    intro X hP hw hK hc i pins s σ H E I hf st hg
    subst hP hw hK
    obtain ⟨⟨old, he⟩, hit, hne⟩ := st
    obtain ⟨xs, x, hq, hx⟩ := hg
    obtain ⟨its, rv, p, hz⟩ := I.tuple hq
    obtain ⟨u, hu, ru⟩ := rv.get hx
    have hel : e < s.heap.objs.size := Heap.lt_size he
    have hil : it < s.heap.objs.size := by obtain ⟨_, q, _⟩ := hit; exact Heap.lt_size q
    have hlt : i < its.toArray.size := by
      have := (List.getElem?_eq_some_iff.mp hu).1
      simpa using this
    refine wpAny_pyNext_enum_itemD (A := X.A) (Draws.tuple (A := X.A.in1) (I.ok.hd hc) it a hat its.toArray) he ⟨hit, p⟩ hlt hne (by simp; exact ⟨hne, fun z => hae z.symm⟩) fun x' h' tk hPx ho hst hT hsz hk => ?_
    obtain rfl : x' = u := by
      have : some x' = some u := by rw [← hPx, ← hu]; simp
      exact Option.some.inj this
    obtain ⟨hit', _⟩ := hst
    refine ⟨_, rfl, wpAny_letOwnedTupleGo_enum (s := { s with heap := h', toks := tk + 1 }) ho fun h'' he' sb => ?_⟩
    have hT2 : h''.get? s.heap.objs.size = some { cls := .type "tuple", data := .seq #[.int i tk, x'] } := (sb.2 _ (Nat.ne_of_gt hel)).trans hT
    have new : ObjOk X.prog X.w (upd H s.heap.objs.size (.tup [.int (i : Nat), x])) h'' s.heap.objs.size (.tup [.int (i : Nat), x]) :=
      ⟨by show 2 ≤ sizeLine; decide, [.int i tk, x'], .cons ⟨_, rfl⟩ (.cons ru .nil), ⟨_, hT2, rfl, _, rfl⟩⟩
    have I1 : Inv X pins σ (upd H s.heap.objs.size (.tup [.int (i : Nat), x])) { s with heap := h'', toks := tk + 1 } :=
      I.turnedNew (ch := [e, it]) (fun b ob hb q => (sb.2 b (fun z => hb (by simp [z]))).trans (hk b ob (fun z => hb (by simp [z])) (fun z => hb (by simp [z])) q)) hf (Nat.le_refl _) new
    refine ⟨.ref s.heap.objs.size, _, I1, rfl, ⟨_, x, rfl, I.hok.fresh (Nat.le_refl _), rfl, fun ys hy => by rw [I.tuple_inj hy hq]; exact hx⟩, ⟨⟨x', ?_⟩, hit'.at fun o q => (sb.2 it (Ne.symm hne)).trans q, hne⟩, fun b hb => ?_⟩
    · have e1 : ((i + 1 : Nat) : Int) = (i : Int) + 1 := by omega
      rw [e1]; exact he'
    · have hb' : b < s.heap.objs.size := by
        have e' : b = e ∨ b = it := by simpa using hb
        rcases e' with z | z
        · rw [z]; exact hel
        · rw [z]; exact hil
      rw [upd_ne (Nat.ne_of_lt hb')]
      exact (hf b hb).1
  done := by
    intro X hP hw hK hc i pins s σ H E I hf st hg
    subst hP hw hK
    obtain ⟨⟨old, he⟩, hit, hne⟩ := st
    obtain ⟨xs, hq, hx⟩ := hg
    obtain ⟨its, rv, p, hz⟩ := I.tuple hq
    obtain ⟨f0, f1, f2, f3, f4, f5⟩ := hf it (by simp)
    have hl := rv.length
    exact enum_endT (I.ok.hd hc) he hit p (by simp; omega) fun h' eb => ⟨rfl, I.turned (t' := s.toks) (fun b o hb q => eb b o hb q) f0 f1 f3 f4 f5⟩
  self := fun A i s Q E st h => let ⟨⟨_, he⟩, _⟩ := st; wpAny_pyIter_enum he h
def iEnumT (K : PySem.W.Frag) (ta : TA) : TI := fun σ H R => ta σ H fun vs H1 => ∃ a xs, vs = [.ref a] ∧ ((SqL K H1 a xs ∧ R (Ite K a) H1) ∨ (SqT K H1 a xs ∧ R (IteT K a) H1))

theorem pi_enumT {X : Cx} {e : Expr} {ta : TA} {p pos tpos : Pos} {elts : List Expr} {kk : Nat} (hg : Gl X "enumerate") (hm : X.mg "enumerate" = none) (ha : PA X [e] ta) (hs : starEach [e] X.env = [(false, eval e X.env)] := by rfl) :
    PI X (.Tuple elts kk tpos) (.Call (.Name "enumerate" p) [e] [] pos) (iEnumT X.K ta) := by
  refine ⟨fun pins s σ H R I h => ?_⟩
  refine Call_ (ld_blt I hg hm boot_enumerate (PyProof.Rows.callWith_type1 (thn (ha.run pos pins s σ H _ I h) fun us s1 ⟨vs, H1, I1, r1, q1⟩ => ?_) hs rfl))
  obtain ⟨a, xs, ex, q1⟩ := q1
  subst ex
  cases r1 with
  | cons r rr =>
    cases rr
    cases r
    have own : ∀ (b : Addr), (b = s1.heap.objs.size + 1 ∨ b = s1.heap.objs.size) → s1.heap.objs.size ≤ b := fun b e' => by
      rcases e' with z | z
      · rw [z]; exact Nat.le_add_right _ _
      · rw [z]; exact Nat.le_refl _
    rcases q1 with ⟨hq, q⟩ | ⟨hq, q⟩
    · obtain ⟨its, rv, p', hz⟩ := I1.list hq
      refine call_enumerate_list p'.isList fun h' he hit hsz hk => wpAny_pyIter_enum he ?_
      have I2 : Inv X pins σ H1 { s1 with heap := h' } := I1.kept (t' := s1.toks) hk
      refine ⟨s1.heap.objs.size + 1, [s1.heap.objs.size + 1, s1.heap.objs.size], _, _, H1, rfl, I2, turn_enum a (s1.heap.objs.size + 1) s1.heap.objs.size, ⟨⟨.none, he⟩, hit, Nat.succ_ne_self _⟩, fun b hb => ?_, q⟩
      have hle := own b (by simpa using hb)
      exact I1.fpOk hle (I1.hok.fresh hle)
    · obtain ⟨its, rv, p', hz⟩ := I1.tuple hq
      have hlt : a < s1.heap.objs.size := p'.lt
      refine call_enumerate_tuple p' fun h' he hit hsz hk => wpAny_pyIter_enum he ?_
      have I2 : Inv X pins σ H1 { s1 with heap := h' } := I1.kept (t' := s1.toks) hk
      refine ⟨s1.heap.objs.size + 1, [s1.heap.objs.size + 1, s1.heap.objs.size], _, _, H1, rfl, I2, turn_enumT a (s1.heap.objs.size + 1) s1.heap.objs.size (Nat.ne_of_lt hlt) (Nat.ne_of_lt (Nat.lt_succ_of_lt hlt)), ⟨⟨.none, he⟩, hit, Nat.succ_ne_self _⟩, fun b hb => ?_, q⟩
      have hle := own b (by simpa using hb)
      exact I1.fpOk hle (I1.hok.fresh hle)
theorem walk_enumT {K : PySem.W.Frag} {a : Addr} {xs : List V} : Walk (IteT K a) xs.length (fun H => SqT K H a xs) (YPair (fun i => some (.int (i : Nat))) (fun i => xs[i]?)) := by
  refine ⟨fun i _ hi q => ⟨xs, xs[i], q, by simp [hi]⟩, fun _ q => ⟨xs, q, Nat.le_refl _⟩, fun i H v H' _ q y => ?_⟩
  obtain ⟨T, x, h1, h2, h3, h4⟩ := y
  exact ⟨T, .int (i : Nat), x, h1, h2, h3, rfl, h4 xs q⟩
end Py
end
section
set_option linter.all false
namespace Py
open PySem L2 PySem.W PyProof.Rows
def ltP (p q : Int × Int) : Bool := decide (p.1 < q.1) || (decide (p.1 = q.1) && decide (p.2 < q.2))
def pD (p : Int × Int) : PyData := .tuple [.int p.1, .int p.2]
theorem dataLt_pair (p q : Int × Int) : dataLt (pD p) (pD q) = ltP p q := by
  have b : ∀ i j : Int, itemOrd.blt (.inl i) (.inl j) = decide (i < j) := fun _ _ => rfl
  show lexLt itemOrd [.inl 1, .inl p.1, .inl 1, .inl p.2, .inl 0] [.inl 1, .inl q.1, .inl 1, .inl q.2, .inl 0] = ltP p q
  unfold ltP
  have c : ∀ i j : Int, itemLt (.inl i) (.inl j) = decide (i < j) := fun _ _ => rfl
  simp only [PyProof.Rows.lexLt, c]
  by_cases h1 : p.1 < q.1
  · simp [h1, c]
  · by_cases h2 : q.1 < p.1
    · have : ¬ p.1 = q.1 := by omega
      simp [h1, h2, this, c]
    · have e : p.1 = q.1 := by omega
      by_cases h3 : p.2 < q.2 <;> simp [e, h3, c]
theorem alike_pair (p q : Int × Int) : alike (pD p) (pD q) = true := by
  simp [pD, alike, alikeAll]

def minP : Int × Int → List (Int × Int) → Int × Int
  | p, ps => ps.foldl (fun a y => if ltP y a then y else a) p
theorem minD_pairs (p : Int × Int) : ∀ ps : List (Int × Int), minD (pD p) (ps.map pD) = pD (minP p ps) := by
  intro ps
  unfold minD minP
  induction ps generalizing p with
  | nil => rfl
  | cons q qs ih =>
    simp only [List.map_cons, List.foldl_cons, dataLt_pair]
    by_cases h : ltP q p
    · simp only [if_pos h]; exact ih q
    · simp only [if_neg h]; exact ih p
theorem pD_inj {p q : Int × Int} (h : pD p = pD q) : p = q := by
  unfold pD at h
  injection h with h
  injection h with h1 h2
  injection h2 with h2 _
  injection h1 with h1
  injection h2 with h2
  exact Prod.ext h1 h2
theorem alikeAll_pairs (ps : List (Int × Int)) : AlikeAll (ps.map pD) := by
  refine ⟨fun x hx y hy => ?_, fun x hx => ?_⟩
  · obtain ⟨p, _, rfl⟩ := List.mem_map.mp hx
    obtain ⟨q, _, rfl⟩ := List.mem_map.mp hy
    exact alike_pair p q
  · obtain ⟨p, _, rfl⟩ := List.mem_map.mp hx
    unfold pD; exact fun h => nomatch h
theorem depth_pairs : ∀ ps : List (Int × Int), PyData.depthAll (ps.map pD) ≤ 3
  | [] => by simp [PyData.depthAll]
  | p :: ps => by
    have := depth_pairs ps
    simp only [List.map_cons, PyData.depthAll, pD, PyData.depth] at this ⊢
    omega
def PairsV (K : PySem.W.Frag) (H : Hp) : List V → List (Int × Int) → Prop := Paired fun v p => ∃ t, v = .ref t ∧ SqT K H t [.int p.1, .int p.2]
theorem pairs_dp {K : PySem.W.Frag} {H : Hp} : ∀ {vs : List V} {ps : List (Int × Int)}, PairsV K H vs ps → DpAll K H vs (ps.map pD)
  | _, _, .nil => .nil
  | _, _, .cons ⟨t, e, h⟩ r => by
    subst e
    exact .cons (.tup h (.cons (.int _) (.cons (.int _) .nil))) (pairs_dp r)
def rMinP (K : PySem.W.Frag) : List V → Hp → VK → Prop := fun vs H Q => ∃ (a : Addr) (xs : List V) (p : Int × Int) (ps : List (Int × Int)), vs = [.ref a] ∧ SqL K H a xs ∧ PairsV K H xs (p :: ps) ∧ ∀ (v : V) (i : Nat), xs[i]? = some v → (p :: ps)[i]? = some (minP p ps) → Q v H
theorem cr_minP {X : Cx} (hc : X.calm = true) (hu : X.A.units + 16 < cLine) : CallR X (.builtin "min") (rMinP X.K) := by
  intro pins s σ H vs us Q I rv h
  obtain ⟨a, xs, p, ps, rfl, hq, hp, q⟩ := h
  obtain ⟨u, rfl, rx⟩ := rv.one
  cases rx
  obtain ⟨its, r1, hpl, hz⟩ := I.list hq
  obtain ⟨as, hr⟩ := Dp.readsAll I _ _ _ (pairs_dp hp) r1
  refine min_list_data (vs := its.toArray) (x := pD p) (xs := ps.map pD) (as := as) (I.ok.hd hc) hpl.isList (by simpa using hr) (alikeAll_pairs (p :: ps)) ?_ fun i v h' tk bs hv hrd hk => ?_
  · have := depth_pairs (p :: ps)
    simp only [List.map_cons] at this
    omega
  · have I1 : Inv X pins σ H { s with heap := h', toks := tk } := I.kept (t' := tk) hk
    have hv' : its[i]? = some v := by simpa using hv
    have hi : i < its.length := (List.getElem?_eq_some_iff.mp hv').1
    have hix : i < xs.length := by rw [r1.length]; exact hi
    have hlen : xs.length = (p :: ps).length := Paired.length hp
    obtain ⟨u', e1, e2⟩ := r1.get (List.getElem?_eq_getElem hix)
    rw [hv'] at e1; cases e1
    refine ⟨xs[i], H, I1, e2, q _ i (List.getElem?_eq_getElem hix) ?_⟩
    have hip : i < (p :: ps).length := by omega
    rw [List.getElem?_eq_getElem hip]
    congr 1
    obtain ⟨bs', r2, _, _, _⟩ := readsAll_atA (vs := its.toArray) (xs := (p :: ps).map pD) (by simpa using hr) i v (by simpa using hv')
    have e3 : ((p :: ps).map pD).getD i .none = pD (p :: ps)[i] := by
      rw [List.getD_eq_getElem?_getD, List.getElem?_map, List.getElem?_eq_getElem hip]
      rfl
    rw [e3] at r2
    rw [minD_pairs] at hrd
    exact pD_inj (PySem.Reads.unique (reads_keeps hk r2) _ _ hrd).1
end Py
end
section
set_option Elab.async false
set_option linter.all false
set_option maxRecDepth 100000
/-! zip of a tuple and a list -/
namespace RZ
open PySem PySem.Spec PyProof.Rows L2
/-- the tuple at a and the list at b as they stand at each turn -/
def ItzM (K : PySem.W.Frag) (a b : Addr) : It :=
  ⟨fun i H => ∃ (xs ys : List V) (x y : V), SqT K H a xs ∧ SqL K H b ys ∧ xs[i]? = some x ∧ ys[i]? = some y,
    fun i H v H' => ∃ T x y, v = .ref T ∧ H T = none ∧ H' = upd H T (.tup [x, y]) ∧ (∀ xs, SqT K H a xs → xs[i]? = some x) ∧ ∀ ys, SqL K H b ys → ys[i]? = some y,
    fun i H => ∃ xs ys : List V, SqT K H a xs ∧ SqL K H b ys ∧ (i = xs.length ∧ i ≤ ys.length ∨ i ≤ xs.length ∧ i = ys.length)⟩
theorem turn_zipM {P : Program} {w : World} {K : PySem.W.Frag} {elts : List Expr} {kk : Nat} {tpos : Pos} {a b z TI TO i1 i2 : Addr} (D : ZipSep2 z TI TO i1 i2 [i1, a] [i2, b]) (n1 : a ≠ i1) (n2 : b ≠ i2) :
    Turn P w K (.Tuple elts kk tpos) (ItzM K a b) [z, TI, TO, i1, i2] z (fun i h => IsZip h z TI TO .none ∧ IsTupOf2 h TI (.ref i1) (.ref i2) ∧ (∃ x y, IsTupOf2 h TO x y) ∧ h.IsTupleIter i1 a i ∧ h.IsListIter i2 b i) where
  mem := by simp
  obj := fun i h st c hc => by
    obtain ⟨hz, hTI, ⟨x, y, hTO⟩, ⟨o1, e1, _, d1⟩, ⟨o2, e2, _, d2⟩⟩ := st
    have e' : c = z ∨ c = TI ∨ c = TO ∨ c = i1 ∨ c = i2 := by simpa using hc
    rcases e' with q | q | q | q | q
    · rw [q]; exact ⟨_, hz, fun v q => nomatch q⟩
    · rw [q]; exact ⟨_, hTI, fun v q => nomatch q⟩
    · rw [q]; exact ⟨_, hTO, fun v q => nomatch q⟩
    · rw [q]; exact ⟨o1, e1, fun v q => by rw [d1] at q; cases q⟩
    · rw [q]; exact ⟨o2, e2, fun v q => by rw [d2] at q; cases q⟩
  keep := fun i h h' st k => by
    obtain ⟨hz, hTI, ⟨x, y, hTO⟩, h1, h2⟩ := st
    exact ⟨k z (by simp) _ hz, k TI (by simp) _ hTI, ⟨x, y, k TO (by simp) _ hTO⟩, h1.at fun o q => k i1 (by simp) o q, h2.at fun o q => k i2 (by simp) o q⟩
  item := by
    intro X hP hw hK hc i pins s σ H E I hf st hg
    subst hP hw hK
    obtain ⟨hz, hTI, ⟨x0, y0, hTO⟩, h1, h2⟩ := st
    obtain ⟨xs, ys, x, y, hqx, hqy, hx, hy⟩ := hg
    obtain ⟨its, rv, p, _⟩ := I.tuple hqx
    obtain ⟨its2, rv2, p2, _⟩ := I.list hqy
    obtain ⟨u, hu, ru⟩ := rv.get hx
    obtain ⟨u2, hu2, ru2⟩ := rv2.get hy
    have hzl : z < s.heap.objs.size := Heap.lt_size hz
    have hA : X.A.in1.handled = none := I.ok.hd hc
    have l1 : i < its.toArray.size := by have := (List.getElem?_eq_some_iff.mp hu).1; simpa using this
    have l2 : i < its2.toArray.size := by have := (List.getElem?_eq_some_iff.mp hu2).1; simpa using this
    have p' : s.heap.IsTuple a its.toArray := p
    refine wpAny_pyNext_zipD2_item D (Draws.tuple hA i1 a n1 its.toArray) (Draws.list hA i2 b n2 its2.toArray) hz hTI hTO ⟨h1, p'⟩ ⟨h2, p2.isList⟩ l1 l2 fun v1 v2 h' tk g1 g2 z' TO' st1 st2 hT hsz hk => ?_
    have gu : v1 = u := by
      have : its[i]? = some v1 := by simpa using g1
      rw [hu] at this; cases this; rfl
    have gu2 : v2 = u2 := by
      have : its2[i]? = some v2 := by simpa using g2
      rw [hu2] at this; cases this; rfl
    subst gu gu2
    obtain ⟨h1', _⟩ := st1
    obtain ⟨h2', _⟩ := st2
    refine ⟨_, rfl, wpAny_letOwnedTupleGo_zip (s := { s with heap := h', toks := tk }) z' fun h'' z'' sb => ?_⟩
    have hT2 : h''.get? s.heap.objs.size = some { cls := .type "tuple", data := .seq #[v1, v2] } := (sb.2 _ (Nat.ne_of_gt hzl)).trans hT
    have new : ObjOk X.prog X.w (upd H s.heap.objs.size (.tup [x, y])) h'' s.heap.objs.size (.tup [x, y]) :=
      ⟨by show 2 ≤ sizeLine; decide, [v1, v2], .cons ru (.cons ru2 .nil), ⟨_, hT2, rfl, _, rfl⟩⟩
    have I1 : Inv X pins σ (upd H s.heap.objs.size (.tup [x, y])) { s with heap := h'', toks := tk } :=
      I.turnedNew (t' := tk) (ch := [z, TI, TO, i1, i2]) (fun c o hb q => (sb.2 c (fun q' => hb (by simp [q']))).trans (hk c o (fun q' => hb (by simp [q'])) (fun q' => hb (by simp [q'])) (fun q' => hb (by simp [q'])) (fun q' => hb (by simp [q'])) q)) hf (Nat.le_refl _) new
    refine ⟨.ref s.heap.objs.size, _, I1, rfl, ⟨_, x, y, rfl, I.hok.fresh (Nat.le_refl _), rfl, fun l hl => by rw [I.tuple_inj hl hqx]; exact hx, fun l hl => by rw [I.list_inj hl hqy]; exact hy⟩, ⟨z'', ?_, ⟨v1, v2, ?_⟩, ?_, ?_⟩, fun c hcm => ?_⟩
    · exact (sb.2 _ D.TIz).trans (hk _ _ D.TIz D.TITO D.TIi1 D.TIi2 hTI)
    · exact (sb.2 _ D.TOz).trans TO'
    · exact h1'.at fun o q => (sb.2 _ D.zi1.symm).trans q
    · exact h2'.at fun o q => (sb.2 _ D.zi2.symm).trans q
    · have hlt : c < s.heap.objs.size := by
        have e' : c = z ∨ c = TI ∨ c = TO ∨ c = i1 ∨ c = i2 := by simpa using hcm
        rcases e' with q | q | q | q | q
        · rw [q]; exact hzl
        · rw [q]; exact Heap.lt_size hTI
        · rw [q]; exact Heap.lt_size hTO
        · rw [q]; obtain ⟨_, e1, _⟩ := h1; exact Heap.lt_size e1
        · rw [q]; obtain ⟨_, e2, _⟩ := h2; exact Heap.lt_size e2
      rw [upd_ne (Nat.ne_of_lt hlt)]
      exact (hf c hcm).1
  done := by
    intro X hP hw hK hc i pins s σ H E I hf st hg
    subst hP hw hK
    obtain ⟨hz, hTI, ⟨x0, y0, hTO⟩, h1, h2⟩ := st
    obtain ⟨xs, ys, hqx, hqy, hend⟩ := hg
    obtain ⟨its, rv, p, _⟩ := I.tuple hqx
    obtain ⟨its2, rv2, p2, _⟩ := I.list hqy
    have l1 := rv.length
    have l2 := rv2.length
    have hA : X.A.in1.handled = none := I.ok.hd hc
    have p' : s.heap.IsTuple a its.toArray := p
    have s1 : its.toArray.size = its.length := by simp
    have s2 : its2.toArray.size = its2.length := by simp
    exact wpAny_pyNext_zipD2_end D (Draws.tuple hA i1 a n1 its.toArray) (Draws.list hA i2 b n2 its2.toArray) hz hTI hTO ⟨h1, p'⟩ ⟨h2, p2.isList⟩ (by rw [s1]; omega) (by rw [s2]; omega) (by rw [s1, s2]; omega) fun h' tk hk => ⟨rfl, I.turnedL (t' := tk) (ch := [z, TI, TO, i1, i2]) (fun c o hb q =>
      hk c o (fun q' => hb (by simp [q'])) (fun q' => hb (by simp [q'])) (fun q' => hb (by simp [q'])) (fun q' => hb (by simp [q'])) q) hf⟩
  self := fun A i s Q E st h => wpAny_pyIter_zip st.1 h
def iZipM (K : PySem.W.Frag) (ta : TA) : TI := fun σ H R => ta σ H fun vs H1 => ∃ a b xs ys, vs = [.ref a, .ref b] ∧ SqT K H1 a xs ∧ SqL K H1 b ys ∧ R (ItzM K a b) H1
theorem pi_zipM {X : Cx} {e e2 : Expr} {ta : TA} {p pos tpos : Pos} {elts : List Expr} {kk : Nat} (hg : Gl X "zip") (hm : X.mg "zip" = none) (ha : PA X [e, e2] ta)
    (hs : starEach [e, e2] X.env = (false, eval e X.env) :: starEach [e2] X.env := by rfl) (hpl : (backTo pos (starEach [e2] X.env)).any (·.1) = false := by rfl) :
    PI X (.Tuple elts kk tpos) (.Call (.Name "zip" p) [e, e2] [] pos) (iZipM X.K ta) := by
  refine ⟨fun pins s σ H R I h => ?_⟩
  refine Call_ (ld_blt I hg hm PyProof.Rows.boot_zip (PyProof.Rows.callWith_type1 (thn (ha.run pos pins s σ H _ I h) fun us s1 ⟨vs, H1, I1, r1, q1⟩ => ?_) hs hpl))
  obtain ⟨a, b, xs, ys, ex, hqx, hqy, q⟩ := q1
  subst ex
  cases r1 with
  | cons r rr =>
    cases rr with
    | cons r' rr =>
      cases rr
      cases r
      cases r'
      obtain ⟨its, rv, p1, _⟩ := I1.tuple hqx
      obtain ⟨its2, rv2, p2, _⟩ := I1.list hqy
      obtain ⟨o1, ho1, _⟩ := id p1
      have p1' : s1.heap.IsTuple a its.toArray := p1
      refine zip_begins2 (begins_tuple a its.toArray) (begins_list b its2.toArray) p1' p2.isList fun h' hz hTI hTO g1 g2 hsz hk => wpAny_pyIter_zip hz ?_
      have I2 : Inv X pins σ H1 { s1 with heap := h' } := I1.kept (t' := s1.toks) hk
      have la : a < s1.heap.objs.size := Heap.lt_size ho1
      have lb : b < s1.heap.objs.size := p2.lt
      refine ⟨s1.heap.objs.size + 4, [s1.heap.objs.size + 4, s1.heap.objs.size + 2, s1.heap.objs.size + 3, s1.heap.objs.size, s1.heap.objs.size + 1], _, _, H1, rfl, I2, turn_zipM (zip_sep2 (by simpa using la) (by simpa using lb)) (Nat.ne_of_lt la) (Nat.ne_of_lt (Nat.lt_succ_of_lt lb)), ⟨hz, hTI, ⟨_, _, hTO⟩, ⟨_, g1, rfl, rfl⟩, ⟨_, g2, rfl, rfl⟩⟩, fun c hcm => ?_, q⟩
      have e' : c = s1.heap.objs.size + 4 ∨ c = s1.heap.objs.size + 2 ∨ c = s1.heap.objs.size + 3 ∨ c = s1.heap.objs.size ∨ c = s1.heap.objs.size + 1 := by simpa using hcm
      have hle : s1.heap.objs.size ≤ c := by
        rcases e' with z | z | z | z | z
        · rw [z]; exact Nat.le_add_right _ _
        · rw [z]; exact Nat.le_add_right _ _
        · rw [z]; exact Nat.le_add_right _ _
        · rw [z]; exact Nat.le_refl _
        · rw [z]; exact Nat.le_add_right _ _
      exact I1.fpOk hle (I1.hok.fresh hle)
end RZ
end
section
set_option Elab.async false
set_option linter.all false
namespace Py
open PySem L2
/-! ### data, and what stands for it in a heap -/
/-- data: lst a list that stands still, scr one that is locked or written, mr the i-th living list -/
inductive D where
  | non | bl (b : Bool) | int (i : Int) | str (s : Str) | tup (ds : List D) | lst (ds : List D) | scr (ds : List D) | mr (i : Nat) | rg (lo hi : Int) | dk (ks : List Int) (ds : List D)
section
variable (K : PySem.W.Frag) (F : Hp) (ρ : List Addr)
mutual
inductive Dr : V → D → Prop
  | non : Dr .non .non
  | bl (b : Bool) : Dr (.bl b) (.bl b)
  | int (i : Int) : Dr (.int i) (.int i)
  | str (x : Str) : Dr (.str x) (.str x)
  | tup {a : Addr} {xs : List V} {ds : List D} : SqT K F a xs → DrL xs ds → Dr (.ref a) (.tup ds)
  | lst {a : Addr} {xs : List V} {ds : List D} : F a = some (.lst xs) → DrL xs ds → Dr (.ref a) (.lst ds)
  | scr {a : Addr} {xs : List V} {ds : List D} : SqL K F a xs → DrL xs ds → Dr (.ref a) (.scr ds)
  | mr {i : Nat} {a : Addr} : ρ[i]? = some a → Dr (.ref a) (.mr i)
  | rg {a : Addr} {lo hi : Int} : F a = some (.rng lo hi) → Dr (.ref a) (.rg lo hi)
  | dk {a : Addr} {vs : List (Key × V)} {ks : List Int} {ds : List D} : F a = some (.dK vs) → vs.map (·.1) = ks.map Sum.inl → DrL (vs.map (·.2)) ds → Dr (.ref a) (.dk ks ds)
inductive DrL : List V → List D → Prop
  | nil : DrL [] []
  | cons {v : V} {vs : List V} {d : D} {ds : List D} : Dr v d → DrL vs ds → DrL (v :: vs) (d :: ds)
end
end
theorem same_t {K : PySem.W.Frag} {H H' : Hp} {a : Addr} {xs : List V} (e : Same H H') (h : SqT K H a xs) : SqT K H' a xs := by
  rcases h with (h | ⟨o, h⟩) | h
  · exact .inl (.inl (e _ _ h))
  · exact .inl (.inr ⟨o, e _ _ h⟩)
  · exact .inr h
section
variable {K : PySem.W.Frag} {F F' : Hp} {ρ ρ' : List Addr}
mutual
theorem Dr.mono (hF : Same F F') (hρ : ∀ (i : Nat) (a : Addr), ρ[i]? = some a → ρ'[i]? = some a) : ∀ (d : D) (v : V), Dr K F ρ v d → Dr K F' ρ' v d
  | .non, _, h => by cases h; exact .non
  | .bl _, _, h => by cases h; exact .bl _
  | .int _, _, h => by cases h; exact .int _
  | .str _, _, h => by cases h; exact .str _
  | .tup ds, _, h => by
    cases h with
    | tup a b => exact .tup (same_t hF a) (DrL.mono hF hρ ds _ b)
  | .lst ds, _, h => by
    cases h with
    | lst a b => exact .lst (hF _ _ a) (DrL.mono hF hρ ds _ b)
  | .scr ds, _, h => by
    cases h with
    | scr a b => exact .scr (hF.seq a) (DrL.mono hF hρ ds _ b)
  | .mr i, _, h => by
    cases h with
    | mr a => exact .mr (hρ _ _ a)
  | .rg _ _, _, h => by
    cases h with
    | rg a => exact .rg (hF _ _ a)
  | .dk _ ds, _, h => by
    cases h with
    | dk a b c => exact .dk (hF _ _ a) b (DrL.mono hF hρ ds _ c)
theorem DrL.mono (hF : Same F F') (hρ : ∀ (i : Nat) (a : Addr), ρ[i]? = some a → ρ'[i]? = some a) : ∀ (ds : List D) (vs : List V), DrL K F ρ vs ds → DrL K F' ρ' vs ds
  | [], _, h => by cases h; exact .nil
  | d :: ds, _, h => by
    cases h with
    | cons a b => exact .cons (Dr.mono hF hρ d _ a) (DrL.mono hF hρ ds _ b)
end
theorem DrL.length : ∀ {vs : List V} {ds : List D}, DrL K F ρ vs ds → vs.length = ds.length
  | [], [], _ => rfl
  | _ :: _, _ :: _, .cons _ t => congrArg (· + 1) (DrL.length t)
theorem DrL.get : ∀ {vs : List V} {ds : List D} {i : Nat} {d : D}, DrL K F ρ vs ds → ds[i]? = some d → ∃ v, vs[i]? = some v ∧ Dr K F ρ v d
  | [], [], _, _, _, e => by simp at e
  | _ :: _, _ :: _, 0, d, .cons a _, e => by simp at e; subst e; exact ⟨_, rfl, a⟩
  | _ :: _, _ :: _, i + 1, d, .cons _ b, e => by
    obtain ⟨v, h1, h2⟩ := DrL.get (i := i) b (by simpa using e)
    exact ⟨v, by simpa using h1, h2⟩
theorem DrL.getV : ∀ {vs : List V} {ds : List D} {i : Nat} {v : V}, DrL K F ρ vs ds → vs[i]? = some v → ∃ d, ds[i]? = some d ∧ Dr K F ρ v d
  | [], [], _, _, _, e => by simp at e
  | _ :: _, _ :: _, 0, d, .cons a _, e => by simp at e; subst e; exact ⟨_, rfl, a⟩
  | _ :: _, _ :: _, i + 1, d, .cons _ b, e => by
    obtain ⟨v, h1, h2⟩ := DrL.getV (i := i) b (by simpa using e)
    exact ⟨v, by simpa using h1, h2⟩
theorem DrL.append : ∀ {vs ws : List V} {ds es : List D}, DrL K F ρ vs ds → DrL K F ρ ws es → DrL K F ρ (vs ++ ws) (ds ++ es)
  | [], _, [], _, _, h => h
  | _ :: _, _, _ :: _, _, .cons a b, h => .cons a (DrL.append b h)
theorem DrL.take : ∀ {vs : List V} {ds : List D} (n : Nat), DrL K F ρ vs ds → DrL K F ρ (vs.take n) (ds.take n)
  | _, _, 0, _ => by simpa using DrL.nil
  | [], [], _ + 1, _ => .nil
  | _ :: _, _ :: _, n + 1, .cons a b => .cons a (DrL.take n b)
theorem DrL.drop : ∀ {vs : List V} {ds : List D} (n : Nat), DrL K F ρ vs ds → DrL K F ρ (vs.drop n) (ds.drop n)
  | _, _, 0, h => h
  | [], [], _ + 1, _ => .nil
  | _ :: _, _ :: _, n + 1, .cons _ b => DrL.drop n b
theorem DrL.set : ∀ {vs : List V} {ds : List D} {v : V} {d : D} (i : Nat), DrL K F ρ vs ds → Dr K F ρ v d → DrL K F ρ (vs.set i v) (ds.set i d)
  | [], [], _, _, 0, _, _ => .nil
  | [], [], _, _, _ + 1, _, _ => .nil
  | _ :: _, _ :: _, _, _, 0, .cons _ b, h => .cons h b
  | _ :: _, _ :: _, _, _, i + 1, .cons a b, h => .cons a (DrL.set i b h)
theorem DrL.ints : ∀ (ns : List Int), DrL K F ρ (ns.map V.int) (ns.map D.int)
  | [] => .nil
  | n :: ns => .cons (.int n) (DrL.ints ns)
end
/-! ### the living lists, the slots -/
abbrev Store := List (List D)
inductive SV where
  | own (ds : List D) | val (d : D) | dct (t : Bool) (kvs : List (NestedKey × D))
abbrev Env := List (Option SV)
structure Cells (K : PySem.W.Frag) (F H : Hp) (ρ : List Addr) (μ : Store) : Prop where
  len : ρ.length = μ.length
  nd : ∀ (i j : Nat) (a : Addr), ρ[i]? = some a → ρ[j]? = some a → i = j
  at_ : ∀ (i : Nat) (a : Addr) (ds : List D), ρ[i]? = some a → μ[i]? = some ds → F a = none ∧ ∃ xs, H a = some (.lst xs) ∧ DrL K F ρ xs ds
mutual
theorem NKey.mono {K : PySem.W.Frag} {F F' : Hp} (hF : Same F F') : ∀ (k : NestedKey) (v : V), NKey K F k v → NKey K F' k v
  | .none, _, h => by cases h; exact .none
  | .num _, _, h => by cases h; exact .num _
  | .text _, _, h => by cases h; exact .text _
  | .tup ks, _, h => by
    cases h with
    | tup h1 h2 => exact .tup (same_t hF h1) (NKeys.mono hF ks _ h2)
theorem NKeys.mono {K : PySem.W.Frag} {F F' : Hp} (hF : Same F F') : ∀ (ks : List NestedKey) (vs : List V), NKeys K F ks vs → NKeys K F' ks vs
  | [], _, h => by cases h; exact .nil
  | k :: ks, _, h => by
    cases h with
    | cons h1 h2 => exact .cons (NKey.mono hF k _ h1) (NKeys.mono hF ks _ h2)
end
/-- a dict's entries -/
def KD (K : PySem.W.Frag) (F : Hp) (ρ : List Addr) : List NE → List (NestedKey × D) → Prop := Paired fun p q => p.1 = q.1 ∧ NKey K F p.1 (.ref p.2.1) ∧ p.1.depth ≤ 8 ∧ nNum p.1 = true ∧ Dr K F ρ p.2.2 q.2
theorem KD.mono {K : PySem.W.Frag} {F F' : Hp} {ρ ρ' : List Addr} (hF : Same F F') (hρ : ∀ (i : Nat) (a : Addr), ρ[i]? = some a → ρ'[i]? = some a) : ∀ {ps : List NE} {qs : List (NestedKey × D)}, KD K F ρ ps qs → KD K F' ρ' ps qs
  | _, _, .nil => .nil
  | _, _, .cons ⟨h1, h2, h3, h4, h5⟩ t => .cons ⟨h1, NKey.mono hF _ _ h2, h3, h4, Dr.mono hF hρ _ _ h5⟩ (KD.mono hF hρ t)
theorem KD.num {K : PySem.W.Frag} {F : Hp} {ρ : List Addr} : ∀ {ps : List NE} {qs : List (NestedKey × D)}, KD K F ρ ps qs → ∀ x ∈ ps, nNum x.1 = true
  | _, _, .nil => fun _ h => by cases h
  | _, _, .cons h t => fun x hx => by
    rcases List.mem_cons.mp hx with e | hx
    · subst e; exact h.2.2.2.1
    · exact KD.num t x hx
theorem KD.ok {K : PySem.W.Frag} {F H : Hp} {ρ : List Addr} (fh : Same F H) : ∀ {ps : List NE} {qs : List (NestedKey × D)}, KD K F ρ ps qs → NOk K H ps
  | _, _, .nil => ⟨(fun _ h => by cases h), fun _ h => by cases h⟩
  | _, _, .cons h t => by
    refine ⟨fun x hx => ?_, fun x hx => ?_⟩
    · rcases List.mem_cons.mp hx with e | hx
      · subst e; exact NKey.mono fh _ _ h.2.1
      · exact (KD.ok fh t).1 x hx
    · rcases List.mem_cons.mp hx with e | hx
      · subst e; exact h.2.2.1
      · exact (KD.ok fh t).2 x hx
/-- a dict's entries, its keys ints -/
def KI (K : PySem.W.Frag) (F : Hp) (ρ : List Addr) : List (Key × V) → List (NestedKey × D) → Prop := Paired fun p q => (∃ i : Int, p.1 = Sum.inl i ∧ q.1 = .num i) ∧ Dr K F ρ p.2 q.2
theorem KI.mono {K : PySem.W.Frag} {F F' : Hp} {ρ ρ' : List Addr} (hF : Same F F') (hρ : ∀ (i : Nat) (a : Addr), ρ[i]? = some a → ρ'[i]? = some a) : ∀ {ps : List (Key × V)} {qs : List (NestedKey × D)}, KI K F ρ ps qs → KI K F' ρ' ps qs
  | _, _, .nil => .nil
  | _, _, .cons ⟨h1, h2⟩ t => .cons ⟨h1, Dr.mono hF hρ _ _ h2⟩ (KI.mono hF hρ t)
/-- true: keyed by tuples; false: keyed by ints -/
def DctAt (K : PySem.W.Frag) (F H : Hp) (ρ : List Addr) (a : Addr) (t : Bool) (kvs : List (NestedKey × D)) : Prop :=
  (t = true ∧ ∃ nes P w, H a = some (dnO P w a nes) ∧ KD K F ρ nes kvs) ∨ (t = false ∧ ∃ vs, H a = some (.dK vs) ∧ KI K F ρ vs kvs)
theorem DctAt.mono {K : PySem.W.Frag} {F F' H H' : Hp} {ρ ρ' : List Addr} {a : Addr} {t : Bool} {kvs : List (NestedKey × D)} (hF : Same F F') (hρ : ∀ (i : Nat) (a : Addr), ρ[i]? = some a → ρ'[i]? = some a) (hH : ∀ o, H a = some o → H' a = some o) (h : DctAt K F H ρ a t kvs) : DctAt K F' H' ρ' a t kvs := by
  rcases h with ⟨e, nes, P, w, h1, h2⟩ | ⟨e, vs, h1, h2⟩
  · exact .inl ⟨e, nes, P, w, hH _ h1, KD.mono hF hρ h2⟩
  · exact .inr ⟨e, vs, hH _ h1, KI.mono hF hρ h2⟩
theorem DctAt.obj {K : PySem.W.Frag} {F H : Hp} {ρ : List Addr} {a : Addr} {t : Bool} {kvs : List (NestedKey × D)} (h : DctAt K F H ρ a t kvs) : ∃ o, H a = some o ∧ ∀ ys, o ≠ .lst ys := by
  rcases h with ⟨_, nes, P, w, h1, _⟩ | ⟨_, vs, h1, _⟩
  · exact ⟨_, h1, fun _ z => nomatch z⟩
  · exact ⟨_, h1, fun _ z => nomatch z⟩
theorem DctAt.ne_lst {K : PySem.W.Frag} {F H : Hp} {ρ : List Addr} {a b : Addr} {t : Bool} {kvs : List (NestedKey × D)} {ys : List V} (h : DctAt K F H ρ a t kvs) (e : H b = some (.lst ys)) : a ≠ b := fun z => by
  obtain ⟨o, h1, h2⟩ := h.obj
  rw [z, e] at h1
  cases h1
  exact h2 _ rfl
/-- B: the heap at the def's entry, which own lists stand outside of -/
def SVr (K : PySem.W.Frag) (B F H : Hp) (ρ : List Addr) (v : V) : SV → Prop
  | .val d => Dr K F ρ v d
  | .own ds => ∃ a xs, v = .ref a ∧ H a = some (.lst xs) ∧ DrL K F ρ xs ds ∧ F a = none ∧ a ∉ ρ ∧ B a = none
  | .dct t kvs => ∃ a, v = .ref a ∧ DctAt K F H ρ a t kvs ∧ F a = none ∧ a ∉ ρ ∧ B a = none
structure EnvR (K : PySem.W.Frag) (B F H : Hp) (ρ : List Addr) (σ : L2.St) (env : Env) : Prop where
  len : σ.length = env.length
  at_ : ∀ (i : Nat) (sv : SV), env[i]? = some (some sv) → ∃ v, σ[i]? = some (some v) ∧ SVr K B F H ρ v sv
  apart : ∀ (i j : Nat) (ds es : List D) (a : Addr), env[i]? = some (some (.own ds)) → env[j]? = some (some (.own es)) → σ[i]? = some (some (.ref a)) → σ[j]? = some (some (.ref a)) → i = j
  apd : ∀ (i j : Nat) (t u : Bool) (ds es : List (NestedKey × D)) (a : Addr), env[i]? = some (some (.dct t ds)) → env[j]? = some (some (.dct u es)) → σ[i]? = some (some (.ref a)) → σ[j]? = some (some (.ref a)) → i = j
structure Ext (F H : Hp) (ρ : List Addr) (F' H' : Hp) (ρ' : List Addr) : Prop where
  ff : Same F F'
  hh : ∀ a o, H a = some o → a ∉ ρ → H' a = some o
  dm : ∀ a, H a ≠ none → H' a ≠ none
  new : ∀ a, F a = none → F' a ≠ none → H a = none
  rr : ∀ (i : Nat) (a : Addr), ρ[i]? = some a → ρ'[i]? = some a
  rn : ∀ a ∈ ρ', a ∈ ρ ∨ H a = none
structure SR (K : PySem.W.Frag) (B F H : Hp) (ρ : List Addr) (σ : L2.St) (env : Env) (μ : Store) : Prop where
  fh : Same F H
  cells : Cells K F H ρ μ
  env : EnvR K B F H ρ σ env
section
variable {K : PySem.W.Frag} {B F H F' H' F'' H'' : Hp} {ρ ρ' ρ'' : List Addr} {σ : L2.St} {env : Env} {μ μ' : Store}
theorem Ext.refl : Ext F H ρ F H ρ := ⟨Same.refl _, fun _ _ h _ => h, fun _ h => h, fun _ h1 h2 => absurd h1 h2, fun _ _ h => h, fun _ h => .inl h⟩
theorem Ext.trans (a : Ext F H ρ F' H' ρ') (b : Ext F' H' ρ' F'' H'' ρ'') : Ext F H ρ F'' H'' ρ'' where
  ff := a.ff.trans b.ff
  hh := fun x o h n => b.hh x o (a.hh x o h n) fun z => (a.rn x z).elim n fun q => by rw [q] at h; cases h
  dm := fun x h => b.dm x (a.dm x h)
  new := fun x h1 h2 => by
    by_cases q : F' x = none
    · have z := b.new x q h2
      by_cases w : H x = none
      · exact w
      · exact absurd z (a.dm x w)
    · exact a.new x h1 q
  rr := fun i x h => b.rr i x (a.rr i x h)
  rn := fun x h => (b.rn x h).elim (fun z => a.rn x z) fun z => .inr (by
    by_cases w : H x = none
    · exact w
    · exact absurd z (a.dm x w))
theorem Dr.ext {v : V} {d : D} (h : Dr K F ρ v d) (e : Ext F H ρ F' H' ρ') : Dr K F' ρ' v d := Dr.mono e.ff e.rr _ _ h
theorem DrL.ext {v : List V} {d : List D} (h : DrL K F ρ v d) (e : Ext F H ρ F' H' ρ') : DrL K F' ρ' v d := DrL.mono e.ff e.rr _ _ h
theorem SVr.ext {v : V} {sv : SV} (h : SVr K B F H ρ v sv) (e : Ext F H ρ F' H' ρ') : SVr K B F' H' ρ' v sv := by
  cases sv with
  | val d => exact Dr.ext h e
  | own ds =>
    obtain ⟨a, xs, h1, h2, h3, h4, h5, h6⟩ := h
    have hn : H a ≠ none := by rw [h2]; exact fun z => nomatch z
    refine ⟨a, xs, h1, e.hh _ _ h2 h5, h3.ext e, ?_, fun z => (e.rn a z).elim h5 hn, h6⟩
    by_cases q : F' a = none
    · exact q
    · exact absurd (e.new a h4 q) hn
  | dct t kvs =>
    obtain ⟨a, h1, h2, h4, h5, h6⟩ := h
    obtain ⟨o, ho, _⟩ := h2.obj
    have hn : H a ≠ none := by rw [ho]; exact fun z => nomatch z
    refine ⟨a, h1, h2.mono e.ff e.rr (fun o ho => e.hh _ _ ho h5), ?_, fun z => (e.rn a z).elim h5 hn, h6⟩
    by_cases q : F' a = none
    · exact q
    · exact absurd (e.new a h4 q) hn
theorem SR.step (S : SR K B F H ρ σ env μ) (e : Ext F H ρ F' H' ρ') (fh : Same F' H') (c : Cells K F' H' ρ' μ') : SR K B F' H' ρ' σ env μ' :=
  ⟨fh, c, ⟨S.env.len, fun i sv h => let ⟨v, h1, h2⟩ := S.env.at_ i sv h; ⟨v, h1, h2.ext e⟩, S.env.apart, S.env.apd⟩⟩
/-- an extension that leaves all as it was -/
structure PX (F H F' H' : Hp) : Prop where
  ff : Same F F'
  hh : Same H H'
  fh : Same F' H'
  new : ∀ a, F a = none → F' a ≠ none → H a = none
theorem PX.refl (h : Same F H) : PX F H F H := ⟨Same.refl _, Same.refl _, h, fun _ a b => absurd a b⟩
theorem PX.ext (p : PX F H F' H') : Ext F H ρ F' H' ρ := ⟨p.ff, fun a o h _ => p.hh a o h, fun a h => (by
  cases q : H a with
  | none => exact absurd q h
  | some o => rw [p.hh a o q]; exact fun z => nomatch z), p.new, fun _ _ h => h, fun _ h => .inl h⟩
theorem Cells.px (c : Cells K F H ρ μ) (p : PX F H F' H') : Cells K F' H' ρ μ := ⟨c.len, c.nd, fun i a ds h1 h2 => by
  obtain ⟨h3, xs, h4, h5⟩ := c.at_ i a ds h1 h2
  refine ⟨?_, xs, p.hh _ _ h4, DrL.mono p.ff (fun _ _ h => h) _ _ h5⟩
  by_cases q : F' a = none
  · exact q
  · have := p.new a h3 q
    rw [h4] at this; cases this⟩
theorem same_upd' {H : Hp} {p : Addr} {o : HO} (h : H p = none) : Same H (upd H p o) := fun b x e => by
  rw [upd_ne (ne_of_none e h)]; exact e
theorem none_of_same {F H : Hp} {p : Addr} (fh : Same F H) (h : H p = none) : F p = none := fh.free h
theorem PX.new_ (fh : Same F H) {p : Addr} {o : HO} (h : H p = none) : PX F H (upd F p o) (upd H p o) := by
  refine ⟨same_upd' (fh.free h), same_upd' h, fun b x e => ?_, fun a h1 h2 => ?_⟩
  · by_cases q : b = p
    · subst q; rw [upd_same] at e ⊢; exact e
    · rw [upd_ne q] at e ⊢; exact fh _ _ e
  · by_cases q : a = p
    · subst q; exact h
    · rw [upd_ne q] at h2; exact absurd h1 h2
theorem PX.trans (a : PX F H F' H') (b : PX F' H' F'' H'') : PX F H F'' H'' := by
  refine ⟨a.ff.trans b.ff, a.hh.trans b.hh, b.fh, fun x h1 h2 => ?_⟩
  by_cases q : F' x = none
  · have z := b.new x q h2
    exact a.hh.free z
  · exact a.new x h1 q
theorem SR.px (S : SR K B F H ρ σ env μ) (p : PX F H F' H') : SR K B F' H' ρ σ env μ := S.step p.ext p.fh (S.cells.px p)
end
end Py
end
section
set_option Elab.async false
set_option linter.all false
namespace Py
open PySem L2
/-! ### the syntax that is served -/
inductive Ty where
  | int | bool | str | tup | lst
  deriving DecidableEq
inductive Bi where
  | len | abs | max | min | sum | tuple | list | int | minp | range
  deriving DecidableEq
inductive T where
  | nm (i : Nat) | tp (ts : List T)
mutual
inductive E where
  | slot (i : Nat) | glob (g : Nat) | int (i : Int) | bl (b : Bool) | non | str (s : Str)
  | bin (op : Operator) (a b : E) | neg (a : E) | not (a : E)
  | cmp (op : CmpOp) (a b : E) | isN (a : E) | notN (a : E)
  | and (a : E) (r : Es) | or (a : E) (r : Es)
  | ite (c a b : E)
  | tup (es : Es) | lst (es : Es) | mlst (es : Es)
  | ix (a b : E) | slc (a : E) (lo hi : Eo)
  | call (f : Nat) (e : E) (es : Es)
  | bi (b : Bi) (e : E) (es : Es)
  | isi (e : E) (t : Ty)
  | lc (e : E) (t : T) (it : I) (c : Eo) (vs : List Nat)
  | bor (i : Nat) (e : E)
  | dIn (neg : Bool) (i : Nat) (e : E) | dAt (i : Nat) (e : E) | dVals (i : Nat)
  | kAt (i : Nat) (e : E) | kGet (a k d : E) | kBor (i : Nat) (e : E)
  | chain (op op' : CmpOp) (a b c : E)
  | rngL (e : E) | rev (e : E) | rngL2 (a b : E)
inductive Es where
  | nil | cons (e : E) (es : Es)
inductive Eo where
  | none | some (e : E)
inductive I where
  | seq (e : E) | rng1 (e : E) | rng2 (a b : E) | zip (a b : E) | enum (e : E) | rngD (e : E)
end
inductive S where
  | app (i : Nat) (e : E)
  | expr (e : E)
  | asg (t : T) (e : E)
  | asgN (i : Nat) (e : E)
  | par (i j : Nat) (a b : E)
  | aug (i : Nat) (op : Operator) (e : E)
  | setm (o i e : E)
  | ret (e : E) | retN
  | iff (c : E) (a b : List S)
  | wh (c : E) (b : List S)
  | for (t : T) (it : I) (b : List S)
  | brk | cont | pass
  | frz (i : Nat) (s : S)
  | dNew (i : Nat) | dPut (i : Nat) (k e : E) | ext (i : Nat) (e : E)
  | kNew (i : Nat) | kPut (i : Nat) (k e : E)
  | setO (i : Nat) (o e : E)

/-! ### the values of operations -/
abbrev SZ : Nat := 16777216
abbrev B64 : Int := 18446744073709551616
mutual
def toPy : D → Option PyData
  | .non => some .none
  | .bl b => some (.bool b)
  | .int i => some (.int i)
  | .str s => some (.str s)
  | .tup ds => (toPys ds).map .tuple
  | .lst ds => (toPys ds).map .list
  | .scr ds => (toPys ds).map .list
  | .mr _ => none
  | .rg _ _ => none
  | .dk _ _ => none
def toPys : List D → Option (List PyData)
  | [] => some []
  | d :: ds => (toPy d).bind fun p => (toPys ds).map fun ps => p :: ps
end
def mulOk (i j : Int) : Bool := decide (i.natAbs.log2 + j.natAbs.log2 < 1000000)
def divOk (j : Int) : Bool := decide (0 < j) && decide (j.natAbs.log2 < 9000)
def binS : Operator → D → D → Option D
  | .Add, .int i, .int j => some (.int (i + j))
  | .Sub, .int i, .int j => some (.int (i - j))
  | .Mult, .int i, .int j => if mulOk i j then some (.int (i * j)) else none
  | .FloorDiv, .int i, .int j => if divOk j then some (.int (i / j)) else none
  | .Mod, .int i, .int j => if j != 0 then some (.int (i.fmod j)) else none
  | .Pow, .int i, .int j => if decide (0 ≤ j) && decide (j ≤ 1000000) && decide (i.natAbs < 2 ^ 64) then some (.int (i ^ j.toNat)) else none
  | .RShift, .int i, .int j => if decide (0 ≤ j) then some (.int (i / 2 ^ j.toNat)) else none
  | .BitAnd, .int i, .int j => if decide (0 ≤ i) && decide (j = 1) then some (.int (i % 2)) else none
  | .Add, .tup a, .tup b => if a.length + b.length ≤ SZ then some (.tup (a ++ b)) else none
  | .Add, .lst a, .lst b => if a.length + b.length ≤ SZ then some (.lst (a ++ b)) else none
  | _, _, _ => none
def eqS (a b : D) : Option Bool := (toPy a).bind fun p => (toPy b).bind fun q => if SeqAt.shaped p && SeqAt.shaped q then some (PyData.eqv p q) else none
def inS (a b : D) : Option Bool := (toPy a).bind fun p => (toPy b).bind fun q => match q with
  | .list ps => if SeqAt.shaped p && SeqAt.shaped (.list ps) then some (ps.any fun z => PyData.eqv z p) else none
  | _ => none
def flat : D → Bool
  | .non => true | .bl _ => true | .int _ => true | .str _ => true
  | _ => false
mutual
def noL : D → Bool
  | .non => true | .bl _ => true | .int _ => true | .str _ => true
  | .tup ds => noLs ds
  | .lst _ => false | .scr _ => false | .mr _ => false | .rg _ _ => false | .dk _ _ => false
def noLs : List D → Bool
  | [] => true
  | d :: ds => noL d && noLs ds
end
def cmpS : CmpOp → D → D → Option Bool
  | .Lt, .int i, .int j => some (decide (i < j))
  | .LtE, .int i, .int j => some (decide (i ≤ j))
  | .Gt, .int i, .int j => some (decide (j < i))
  | .GtE, .int i, .int j => some (decide (j ≤ i))
  | .Eq, a, b => eqS a b
  | .NotEq, a, b => (eqS a b).map not
  | .In, a, b => inS a b
  | .NotIn, a, b => (inS a b).map not
  | .Is, .bl a, .bl b => some (decide (a = b))
  | .IsNot, .bl a, .bl b => some (!decide (a = b))
  | _, _, _ => none
def isNon : D → Bool
  | .non => true
  | _ => false
def truS : D → Option Bool
  | .non => some false
  | .bl b => some b
  | .int i => some (i != 0)
  | .tup ds => some (!ds.isEmpty)
  | .lst ds => some (!ds.isEmpty)
  | _ => none
/-- the items of a list or a tuple -/
def itsS (μ : Store) : D → Option (List D)
  | .tup ds => some ds
  | .lst ds => some ds
  | .scr ds => some ds
  | .mr i => μ[i]?
  | _ => none
/-- the items of a list -/
def lstS (μ : Store) : D → Option (List D)
  | .lst ds => some ds
  | .scr ds => some ds
  | .mr i => μ[i]?
  | _ => none
def ixS (μ : Store) (d : D) : D → Option D
  | .int i => (itsS μ d).bind fun ds => atI ds i
  | _ => none
def cutS (ds : List D) (lo hi : Option Int) : List D := (ds.drop (HT.sIx ds.length 0 lo)).take (HT.sIx ds.length ds.length hi - HT.sIx ds.length 0 lo)
def slcS : D → Option Int → Option Int → Option D
  | .tup ds, lo, hi => some (.tup (cutS ds lo hi))
  | .lst ds, lo, hi => some (.lst (cutS ds lo hi))
  | _, _, _ => none
def asInt : D → Option Int
  | .int i => some i
  | _ => none
def asInts : List D → Option (List Int)
  | [] => some []
  | d :: ds => (asInt d).bind fun i => (asInts ds).map fun is => i :: is
def asPair : D → Option (Int × Int)
  | .tup [.int a, .int b] => some (a, b)
  | _ => none
def asPairs : List D → Option (List (Int × Int))
  | [] => some []
  | d :: ds => (asPair d).bind fun p => (asPairs ds).map fun ps => p :: ps
def maxI : List Int → Int
  | [] => 0
  | [x] => x
  | x :: y :: r => maxI ((if y > x then y else x) :: r)
termination_by l => l.length
def minI : List Int → Int
  | [] => 0
  | [x] => x
  | x :: y :: r => minI ((if y < x then y else x) :: r)
termination_by l => l.length
def biS (μ : Store) : Bi → List D → Option D
  | .len, [d] => (itsS μ d).map fun ds => .int ds.length
  | .abs, [.int i] => some (.int (if i < 0 then -i else i))
  | .max, [.int i, .int j] => some (.int (if j > i then j else i))
  | .min, [.int i, .int j] => some (.int (if j < i then j else i))
  | .max, [d] => (lstS μ d).bind fun ds => (asInts ds).bind fun is => if is.isEmpty then none else some (.int (maxI is))
  | .min, [d] => (lstS μ d).bind fun ds => (asInts ds).bind fun is => if is.isEmpty then none else some (.int (minI is))
  | .sum, [d] => (lstS μ d).bind fun ds => (asInts ds).map fun is => .int is.sum
  | .tuple, [d] => (itsS μ d).map .tup
  | .list, [d] => (itsS μ d).map .lst
  | .int, [.int i] => some (.int i)
  | .int, [.bl b] => some (.int (if b then 1 else 0))
  | .range, [.int j] => some (.rg 0 j)
  | .range, [.int i, .int j] => some (.rg i j)
  | .minp, [d] => (lstS μ d).bind fun ds => (asPairs ds).bind fun ps => match ps with
    | [] => none
    | p :: r => some (.tup [.int (minP p r).1, .int (minP p r).2])
  | _, _ => none
def isiS : D → Ty → Option Bool
  | .non, _ => some false
  | .bl _, t => some (t == .bool || t == .int)
  | .int _, t => some (t == .int)
  | .str _, t => some (t == .str)
  | .tup _, t => some (t == .tup)
  | .lst _, t => some (t == .lst)
  | _, _ => none
/-! ### keys of dicts: tuples of numbers and of such tuples -/
mutual
def keyN : D → Option NestedKey
  | .non => some .none
  | .int i => some (.num i)
  | .tup ds => (keyNs ds).map .tup
  | _ => none
def keyNs : List D → Option (List NestedKey)
  | [] => some []
  | d :: ds => (keyN d).bind fun k => (keyNs ds).map fun ks => k :: ks
end
def keyS : D → Option NestedKey
  | .tup ds => (keyN (.tup ds)).bind fun k => if k.depth ≤ 8 then some k else none
  | _ => none
def dAtS (kvs : List (NestedKey × D)) (k : NestedKey) : Option D := (kvs.find? fun x => decide (x.1 = k)).map (·.2)
def dPutS (kvs : List (NestedKey × D)) (k : NestedKey) (d : D) : List (NestedKey × D) := if (dAtS kvs k).isSome then kvs.map fun x => if x.1 = k then (x.1, d) else x else kvs ++ [(k, d)]
/-! ### slots -/
def getD' (env : Env) (i : Nat) : Option (List (NestedKey × D)) := match env[i]? with
  | some (some (.dct true kvs)) => some kvs
  | _ => none
def getK (env : Env) (i : Nat) : Option (List (NestedKey × D)) := match env[i]? with
  | some (some (.dct false kvs)) => some kvs
  | _ => none
/-- the entries of a dict keyed by ints, as data -/
def keyI : NestedKey → Int
  | .num i => i
  | _ => 0
def dkD (kvs : List (NestedKey × D)) : D := .dk (kvs.map fun p => keyI p.1) (kvs.map (·.2))
def kFind : List Int → List D → Int → Option D
  | k :: ks, d :: ds, j => if k = j then some d else kFind ks ds j
  | _, _, _ => none
def getV (env : Env) (i : Nat) : Option D := match env[i]? with
  | some (some (.val d)) => some d
  | _ => none
def getO (env : Env) (i : Nat) : Option (List D) := match env[i]? with
  | some (some (.own ds)) => some ds
  | _ => none
def setV (env : Env) (i : Nat) (d : D) : Option Env := if i < env.length then some (env.set i (some (.val d))) else none
mutual
def asgT : T → D → Env → Option Env
  | .nm i, d, env => setV env i d
  | .tp ts, .tup ds, env => asgTs ts ds env
  | .tp ts, .lst ds, env => asgTs ts ds env
  | .tp _, _, _ => none
def asgTs : List T → List D → Env → Option Env
  | [], [], env => some env
  | t :: ts, d :: ds, env => (asgT t d env).bind fun env' => asgTs ts ds env'
  | _, _, _ => none
end
mutual
def tgS : T → List Nat
  | .nm i => [i]
  | .tp ts => tgsS ts
def tgsS : List T → List Nat
  | [] => []
  | t :: ts => tgS t ++ tgsS ts
end
def wipeE (env : Env) : List Nat → Env
  | [] => env
  | v :: vs => (wipeE env vs).set v none
/-! ### walks -/
def zipD (a b : List D) : List D := (a.zip b).map fun p => .tup [p.1, p.2]
def enumD : Nat → List D → List D
  | _, [] => []
  | i, d :: ds => .tup [.int i, d] :: enumD (i + 1) ds
def rangeD (lo : Int) (n : Nat) : List D := (List.range n).map fun i => .int (lo + (i : Nat))
/-- j, j - 1, .., 0 -/
def rangeDn (j : Int) : List D := (List.range (j + 1).toNat).map fun i => .int (j - (i : Nat))
def rngDS (j : Int) : Option (List D) := if decide (-1 ≤ j) && decide (j < 16777215) then some (rangeDn j) else none
def rngS (lo hi : Int) : Option (List D) := if decide (-4611686018427387904 ≤ lo) && decide (lo < 4611686018427387904) && decide (-4611686018427387904 ≤ hi) && decide (hi < 4611686018427387904) && decide ((hi - lo).toNat ≤ SZ) then some (rangeD lo (hi - lo).toNat) else none
/-- [f x for x in ds if c x] -/
def lcS (t : T) (c : Env → Store → Option (Bool × Store)) (f : Env → Store → Option (D × Store)) (env : Env) : List D → Store → Option (List D × Store)
  | [], μ => some ([], μ)
  | d :: ds, μ => (asgT t d env).bind fun env' => (c env' μ).bind fun (b, μ1) =>
    if b then (f env' μ1).bind fun (x, μ2) => (lcS t c f env ds μ2).map fun (xs, μ3) => (x :: xs, μ3) else lcS t c f env ds μ1
def scalS : Store → Bool
  | [] => true
  | ds :: r => ds.all flat && scalS r
/-! ### expressions -/
section
variable (Φ : Nat → List D → Store → Option (D × Store)) (Γ : Nat → Option D)
mutual
def ev : E → Env → Store → Option (D × Store)
  | .slot i, env, μ => (getV env i).map fun d => (d, μ)
  | .glob g, _, μ => (Γ g).map fun d => (d, μ)
  | .int i, _, μ => some (.int i, μ)
  | .bl b, _, μ => some (.bl b, μ)
  | .non, _, μ => some (.non, μ)
  | .str s, _, μ => some (.str s, μ)
  | .bin op a b, env, μ => (ev a env μ).bind fun (x, μ1) => (ev b env μ1).bind fun (y, μ2) => (binS op x y).map fun d => (d, μ2)
  | .neg a, env, μ => (ev a env μ).bind fun (x, μ1) => (asInt x).map fun i => (.int (-i), μ1)
  | .not a, env, μ => (ev a env μ).bind fun (x, μ1) => (truS x).map fun b => (.bl (!b), μ1)
  | .cmp op a b, env, μ => (ev a env μ).bind fun (x, μ1) => (ev b env μ1).bind fun (y, μ2) => (cmpS op x y).map fun d => (.bl d, μ2)
  | .isN a, env, μ => (ev a env μ).map fun (x, μ1) => (.bl (isNon x), μ1)
  | .notN a, env, μ => (ev a env μ).map fun (x, μ1) => (.bl (!isNon x), μ1)
  | .and a r, env, μ => (ev a env μ).bind fun (x, μ1) => evAnd x r env μ1
  | .or a r, env, μ => (ev a env μ).bind fun (x, μ1) => evOr x r env μ1
  | .ite c a b, env, μ => (evT c env μ).bind fun (k, μ1) => if k then ev a env μ1 else ev b env μ1
  | .tup es, env, μ => (evs es env μ).bind fun (ds, μ1) => if ds.length ≤ SZ then some (.tup ds, μ1) else none
  | .lst es, env, μ => (evs es env μ).bind fun (ds, μ1) => if ds.length ≤ SZ then some (.lst ds, μ1) else none
  | .mlst es, env, μ => (evs es env μ).bind fun (ds, μ1) => if ds.length ≤ SZ then some (.mr μ1.length, μ1 ++ [ds]) else none
  | .ix a b, env, μ => (ev a env μ).bind fun (x, μ1) => (ev b env μ1).bind fun (y, μ2) => (ixS μ2 x y).map fun d => (d, μ2)
  | .slc a lo hi, env, μ => (ev a env μ).bind fun (x, μ1) => (evo lo env μ1).bind fun (l, μ2) => (evo hi env μ2).bind fun (h, μ3) => (slcS x l h).map fun d => (d, μ3)
  | .call f e es, env, μ => (ev e env μ).bind fun (x, μ1) => (evs es env μ1).bind fun (xs, μ2) => Φ f (x :: xs) μ2
  | .bi b e es, env, μ => (ev e env μ).bind fun (x, μ1) => (evs es env μ1).bind fun (xs, μ2) => (biS μ2 b (x :: xs)).map fun d => (d, μ2)
  | .isi e t, env, μ => (ev e env μ).bind fun (x, μ1) => (isiS x t).map fun b => (.bl b, μ1)
  | .lc e t it c vs, env, μ => (evI it env μ).bind fun (ds, μ1) => if ds.length ≤ SZ then (lcS t (fun env' μ' => evc c env' μ') (fun env' μ' => ev e env' μ') (wipeE env vs) ds μ1).map fun (xs, μ2) => (.lst xs, μ2) else none
  | .bor i e, env, μ => (getO env i).bind fun ds => (ev e (env.set i (some (.val (.lst ds)))) μ).bind fun (d, μ1) => if noL d && scalS μ1 then some (d, μ1) else none
  | .dIn neg i e, env, μ => (ev e env μ).bind fun (d, μ1) => (getD' env i).bind fun kvs => (keyS d).map fun k => (.bl (if neg then !(dAtS kvs k).isSome else (dAtS kvs k).isSome), μ1)
  | .dAt i e, env, μ => (ev e env μ).bind fun (d, μ1) => (getD' env i).bind fun kvs => (keyS d).bind fun k => (dAtS kvs k).map fun v => (v, μ1)
  | .dVals i, env, μ => (getD' env i).map fun kvs => (.lst (kvs.map (·.2)), μ)
  | .kAt i e, env, μ => (ev e env μ).bind fun (d, μ1) => (getK env i).bind fun kvs => (asInt d).bind fun k => (dAtS kvs (.num k)).map fun v => (v, μ1)
  | .kGet a k d, env, μ => (ev a env μ).bind fun (x, μ1) => (ev k env μ1).bind fun (y, μ2) => (ev d env μ2).bind fun (z, μ3) => (asInt y).bind fun j => match x with
    | .dk ks ds => some ((kFind ks ds j).getD z, μ3)
    | _ => none
  | .kBor i e, env, μ => (getK env i).bind fun kvs => (ev e (env.set i (some (.val (dkD kvs)))) μ).bind fun (d, μ1) => if noL d && scalS μ1 then some (d, μ1) else none
  | .chain op op' a b c, env, μ => (ev a env μ).bind fun (x, μ1) => (ev b env μ1).bind fun (y, μ2) => (cmpS op x y).bind fun k => if k then (ev c env μ2).bind fun (z, μ3) => (cmpS op' y z).map fun k' => (.bl k', μ3) else some (.bl false, μ2)
  | .rngL e, env, μ => (ev e env μ).bind fun (x, μ1) => (asInt x).bind fun j => (rngS 0 j).map fun ds => (.lst ds, μ1)
  | .rngL2 a b, env, μ => (ev a env μ).bind fun (x, μ1) => (ev b env μ1).bind fun (y, μ2) => (asInt x).bind fun i => (asInt y).bind fun j => (rngS i j).map fun ds => (.lst ds, μ2)
  | .rev e, env, μ => (ev e env μ).bind fun (x, μ1) => match x with
    | .lst ds => some (.lst ds.reverse, μ1)
    | .scr ds => some (.lst ds.reverse, μ1)
    | _ => none
def evT : E → Env → Store → Option (Bool × Store)
  | .not a, env, μ => (evT a env μ).map fun (b, μ1) => (!b, μ1)
  | .and a r, env, μ => (evT a env μ).bind fun (k, μ1) => if k then evTAnd r env μ1 else some (false, μ1)
  | .or a r, env, μ => (evT a env μ).bind fun (k, μ1) => if k then some (true, μ1) else evTOr r env μ1
  | .ite _ _ _, _, _ => none
  | .bor i e, env, μ => (getO env i).bind fun ds => (evT e (env.set i (some (.val (.lst ds)))) μ).bind fun (d, μ1) => if scalS μ1 then some (d, μ1) else none
  | .cmp op a b, env, μ => (ev a env μ).bind fun (x, μ1) => (ev b env μ1).bind fun (y, μ2) => (cmpS op x y).map fun d => (d, μ2)
  | .isN a, env, μ => (ev a env μ).map fun (x, μ1) => (isNon x, μ1)
  | .notN a, env, μ => (ev a env μ).map fun (x, μ1) => (!isNon x, μ1)
  | .slot i, env, μ => (getV env i).bind fun d => (truS d).map fun k => (k, μ)
  | .call f e es, env, μ => (ev e env μ).bind fun (x, μ1) => (evs es env μ1).bind fun (xs, μ2) => (Φ f (x :: xs) μ2).bind fun (d, μ3) => (truS d).map fun k => (k, μ3)
  | .ix a b, env, μ => (ev a env μ).bind fun (x, μ1) => (ev b env μ1).bind fun (y, μ2) => (ixS μ2 x y).bind fun d => (truS d).map fun k => (k, μ2)
  | .isi e t, env, μ => (ev e env μ).bind fun (x, μ1) => (isiS x t).map fun b => (b, μ1)
  | .bi b e es, env, μ => (ev e env μ).bind fun (x, μ1) => (evs es env μ1).bind fun (xs, μ2) => (biS μ2 b (x :: xs)).bind fun d => (truS d).map fun k => (k, μ2)
  | .dIn neg i e, env, μ => (ev e env μ).bind fun (d, μ1) => (getD' env i).bind fun kvs => (keyS d).map fun k => ((if neg then !(dAtS kvs k).isSome else (dAtS kvs k).isSome), μ1)
  | .chain op op' a b c, env, μ => (ev a env μ).bind fun (x, μ1) => (ev b env μ1).bind fun (y, μ2) => (cmpS op x y).bind fun k => if k then (ev c env μ2).bind fun (z, μ3) => (cmpS op' y z).map fun k' => (k', μ3) else some (false, μ2)
  | _, _, _ => none
def evAnd : D → Es → Env → Store → Option (D × Store)
  | x, .nil, _, μ => some (x, μ)
  | .bl true, .cons e r, env, μ => (ev e env μ).bind fun (y, μ1) => evAnd y r env μ1
  | .bl false, .cons _ _, _, μ => some (.bl false, μ)
  | _, _, _, _ => none
def evOr : D → Es → Env → Store → Option (D × Store)
  | x, .nil, _, μ => some (x, μ)
  | .bl false, .cons e r, env, μ => (ev e env μ).bind fun (y, μ1) => evOr y r env μ1
  | .bl true, .cons _ _, _, μ => some (.bl true, μ)
  | _, _, _, _ => none
def evTAnd : Es → Env → Store → Option (Bool × Store)
  | .nil, _, μ => some (true, μ)
  | .cons e r, env, μ => (evT e env μ).bind fun (k, μ1) => if k then evTAnd r env μ1 else some (false, μ1)
def evTOr : Es → Env → Store → Option (Bool × Store)
  | .nil, _, μ => some (false, μ)
  | .cons e r, env, μ => (evT e env μ).bind fun (k, μ1) => if k then some (true, μ1) else evTOr r env μ1
def evs : Es → Env → Store → Option (List D × Store)
  | .nil, _, μ => some ([], μ)
  | .cons e r, env, μ => (ev e env μ).bind fun (x, μ1) => (evs r env μ1).map fun (xs, μ2) => (x :: xs, μ2)
def evo : Eo → Env → Store → Option (Option Int × Store)
  | .none, _, μ => some (none, μ)
  | .some e, env, μ => (ev e env μ).bind fun (x, μ1) => (asInt x).map fun i => (some i, μ1)
def evc : Eo → Env → Store → Option (Bool × Store)
  | .none, _, μ => some (true, μ)
  | .some e, env, μ => evT e env μ
def evI : I → Env → Store → Option (List D × Store)
  | .seq e, env, μ => (ev e env μ).bind fun (x, μ1) => match x with
    | .tup ds => some (ds, μ1)
    | .lst ds => some (ds, μ1)
    | .scr ds => some (ds, μ1)
    | .rg lo hi => (rngS lo hi).map fun ds => (ds, μ1)
    | _ => none
  | .rng1 e, env, μ => (ev e env μ).bind fun (x, μ1) => (asInt x).bind fun j => (rngS 0 j).map fun ds => (ds, μ1)
  | .rng2 a b, env, μ => (ev a env μ).bind fun (x, μ1) => (ev b env μ1).bind fun (y, μ2) => (asInt x).bind fun i => (asInt y).bind fun j => (rngS i j).map fun ds => (ds, μ2)
  | .zip a b, env, μ => (ev a env μ).bind fun (x, μ1) => (ev b env μ1).bind fun (y, μ2) => match x, y with
    | .tup ds, .tup es => some (zipD ds es, μ2)
    | .lst ds, .lst es => some (zipD ds es, μ2)
    | .tup ds, .lst es => some (zipD ds es, μ2)
    | _, _ => none
  | .enum e, env, μ => (ev e env μ).bind fun (x, μ1) => match x with
    | .lst ds => some (enumD 0 ds, μ1)
    | .tup ds => some (enumD 0 ds, μ1)
    | _ => none
  | .rngD e, env, μ => (ev e env μ).bind fun (x, μ1) => (asInt x).bind fun j => (rngDS j).map fun ds => (ds, μ1)
end
/-! ### statements -/
inductive Fl where
  | nx (env : Env) (μ : Store) | rt (d : D) (μ : Store) | bk (env : Env) (μ : Store) | ct (env : Env) (μ : Store)
def forS (t : T) (b : Env → Store → Option Fl) : List D → Env → Store → Option Fl
  | [], env, μ => some (.nx env μ)
  | d :: ds, env, μ => (asgT t d env).bind fun env1 => (b env1 μ).bind fun
    | .nx env' μ' => forS t b ds env' μ'
    | .ct env' μ' => forS t b ds env' μ'
    | .bk env' μ' => some (.nx env' μ')
    | .rt d μ' => some (.rt d μ')
def whN (c : Env → Store → Option (Bool × Store)) (b : Env → Store → Option Fl) : Nat → Env → Store → Option Fl
  | 0, _, _ => none
  | n + 1, env, μ => (c env μ).bind fun (k, μ1) => if k then (b env μ1).bind fun
      | .nx env' μ' => whN c b n env' μ'
      | .ct env' μ' => whN c b n env' μ'
      | .bk env' μ' => some (.nx env' μ')
      | .rt d μ' => some (.rt d μ')
    else some (.nx env μ1)
open Classical in
noncomputable def whS (c : Env → Store → Option (Bool × Store)) (b : Env → Store → Option Fl) (env : Env) (μ : Store) : Option Fl :=
  if h : ∃ n r, whN c b n env μ = some r then some (choose (choose_spec h)) else none
mutual
noncomputable def ex : S → Env → Store → Option Fl
  | .app i e, env, μ => (ev Φ Γ e env μ).bind fun (d, μ1) => (getO env i).bind fun ds => if ds.length < SZ then some (.nx (env.set i (some (.own (ds ++ [d])))) μ1) else none
  | .expr e, env, μ => (ev Φ Γ e env μ).map fun (_, μ1) => .nx env μ1
  | .asg t e, env, μ => (ev Φ Γ e env μ).bind fun (d, μ1) => (asgT t d env).map fun env' => .nx env' μ1
  | .asgN i e, env, μ => (ev Φ Γ e env μ).bind fun (d, μ1) => match d with
    | .lst ds => if i < env.length then some (.nx (env.set i (some (.own ds))) μ1) else none
    | _ => none
  | .par i j a b, env, μ => (ev Φ Γ a env μ).bind fun (x, μ1) => (ev Φ Γ b env μ1).bind fun (y, μ2) => (setV env i x).bind fun env1 => (setV env1 j y).map fun env2 => .nx env2 μ2
  | .aug i op e, env, μ => (getV env i).bind fun x => (ev Φ Γ e env μ).bind fun (y, μ1) => match op, x, y with
    | .Add, .int a, .int b => (setV env i (.int (a + b))).map fun env' => .nx env' μ1
    | .Sub, .int a, .int b => (setV env i (.int (a - b))).map fun env' => .nx env' μ1
    | _, _, _ => none
  | .setm o i e, env, μ => (ev Φ Γ e env μ).bind fun (d, μ1) => (ev Φ Γ o env μ1).bind fun (x, μ2) => (ev Φ Γ i env μ2).bind fun (y, μ3) => match x, y with
    | .mr c, .int k => (μ3[c]?).bind fun ds => (ixN ds.length k).map fun j => .nx env (μ3.set c (ds.set j d))
    | _, _ => none
  | .ret e, env, μ => (ev Φ Γ e env μ).map fun (d, μ1) => .rt d μ1
  | .retN, _, μ => some (.rt .non μ)
  | .iff c a b, env, μ => (evT Φ Γ c env μ).bind fun (k, μ1) => if k then exs a env μ1 else exs b env μ1
  | .wh c b, env, μ => whS (fun env' μ' => evT Φ Γ c env' μ') (fun env' μ' => exs b env' μ') env μ
  | .for t it b, env, μ => (evI Φ Γ it env μ).bind fun (ds, μ1) => forS t (fun env' μ' => exs b env' μ') ds env μ1
  | .brk, env, μ => some (.bk env μ)
  | .cont, env, μ => some (.ct env μ)
  | .pass, env, μ => some (.nx env μ)
  | .frz i s, env, μ => (getO env i).bind fun ds => ex s (env.set i (some (.val (.lst ds)))) μ
  | .ext i e, env, μ => (ev Φ Γ e env μ).bind fun (d, μ1) => (getO env i).bind fun ds => match d with
    | .lst es => if ds.length + es.length ≤ SZ then some (.nx (env.set i (some (.own (ds ++ es)))) μ1) else none
    | _ => none
  | .setO i o e, env, μ => (ev Φ Γ e env μ).bind fun (d, μ1) => (ev Φ Γ o env μ1).bind fun (y, μ2) => (getO env i).bind fun ds => (asInt y).bind fun k => (ixN ds.length k).map fun j => .nx (env.set i (some (.own (ds.set j d)))) μ2
  | .dNew i, env, μ => if i < env.length then some (.nx (env.set i (some (.dct true []))) μ) else none
  | .kNew i, env, μ => if i < env.length then some (.nx (env.set i (some (.dct false []))) μ) else none
  | .dPut i k e, env, μ => (ev Φ Γ e env μ).bind fun (d, μ1) => (ev Φ Γ k env μ1).bind fun (y, μ2) => (getD' env i).bind fun kvs => (keyS y).bind fun k' => if kvs.length < SZ then some (.nx (env.set i (some (.dct true (dPutS kvs k' d)))) μ2) else none
  | .kPut i k e, env, μ => (ev Φ Γ e env μ).bind fun (d, μ1) => (ev Φ Γ k env μ1).bind fun (y, μ2) => (getK env i).bind fun kvs => (asInt y).bind fun j => if kvs.length < SZ then some (.nx (env.set i (some (.dct false (dPutS kvs (.num j) d)))) μ2) else none
noncomputable def exs : List S → Env → Store → Option Fl
  | [], env, μ => some (.nx env μ)
  | s :: r, env, μ => (ex s env μ).bind fun
    | .nx env' μ' => exs r env' μ'
    | f => some f
end
end
/-- a def: its parameters' number, its slots' number, its body -/
structure Fn where
  ar : Nat
  sl : Nat
  body : List S
noncomputable def run (fs : List Fn) (Γ : Nat → Option D) : Nat → Nat → List D → Store → Option (D × Store)
  | 0, _, _, _ => none
  | k + 1, f, ds, μ => (fs[f]?).bind fun fn => if ds.length = fn.ar then
      (exs (run fs Γ k) Γ fn.body (ds.map (fun d => some (.val d)) ++ List.replicate (fn.sl - fn.ar) none) μ).bind fun
        | .rt d μ' => some (d, μ')
        | .nx _ μ' => some (.non, μ')
        | _ => none
    else none
end Py
end
section
set_option Elab.async false
set_option linter.all false
set_option maxRecDepth 100000
namespace Py
open PySem L2
section
variable {K : PySem.W.Frag} {B F H F' H' : Hp} {ρ ρ' : List Addr} {σ : L2.St} {env : Env} {μ μ' : Store}
theorem sz : (sizeLine : Nat) = SZ := sizeLine_eq
/-- a rule of two values keeps a function of two data -/
def OpD (K : PySem.W.Frag) (r : R2) (g : D → D → Option D) : Prop := ∀ (F H : Hp) (ρ : List Addr) (x y : V) (dx dy d : D) (Q : VK), Same F H → Dr K F ρ x dx → Dr K F ρ y dy → g dx dy = some d →
  (∀ v F' H', PX F H F' H' → Dr K F' ρ v d → Q v H') → r x y H Q
theorem rdup {a : Addr} {o : HO} (h : H a = none) (fh : Same F H) : F a = none := fh.free h
theorem Dr.up {v : V} {d : D} (p : PX F H F' H') (h : Dr K F ρ v d) : Dr K F' ρ v d := Dr.mono p.ff (fun _ _ h => h) _ _ h
theorem DrL.up {v : List V} {d : List D} (p : PX F H F' H') (h : DrL K F ρ v d) : DrL K F' ρ v d := DrL.mono p.ff (fun _ _ h => h) _ _ h
theorem DrL.nil_iff {xs : List V} {ds : List D} (h : DrL K F ρ xs ds) : xs = [] ↔ ds = [] := by
  cases h <;> simp
/-- a new frozen tuple, a new frozen list -/
theorem new_tup {xs : List V} {ds : List D} {Q : VK} (fh : Same F H) (h : DrL K F ρ xs ds) (q : ∀ v F' H', PX F H F' H' → Dr K F' ρ v (.tup ds) → Q v H') : ∀ p, H p = none → Q (.ref p) (upd H p (.tup xs)) := fun p hp => by
  have P := PX.new_ (o := .tup xs) fh hp
  exact q _ (upd F p (.tup xs)) _ P (.tup (.inl (.inl upd_same)) (h.up P))
theorem new_lst {xs : List V} {ds : List D} {Q : VK} (fh : Same F H) (h : DrL K F ρ xs ds) (q : ∀ v F' H', PX F H F' H' → Dr K F' ρ v (.lst ds) → Q v H') : ∀ p, H p = none → Q (.ref p) (upd H p (.lst xs)) := fun p hp => by
  have P := PX.new_ (o := .lst xs) fh hp
  exact q _ (upd F p (.lst xs)) _ P (.lst upd_same (h.up P))
theorem new_rg {lo hi : Int} {Q : VK} (fh : Same F H) (q : ∀ v F' H', PX F H F' H' → Dr K F' ρ v (.rg lo hi) → Q v H') : ∀ p, H p = none → Q (.ref p) (upd H p (.rng lo hi)) := fun p hp => by
  have P := PX.new_ (o := .rng lo hi) fh hp
  exact q _ (upd F p (.rng lo hi)) _ P (.rg upd_same)
def opOf (K : PySem.W.Frag) : Operator → R2
  | .Add => fun x y H Q => rI0 (fun i j => .int (i + j)) x y H Q ∨ (rCatA K x y H Q ∨ rCat x y H Q)
  | .Sub => rI0 (fun i j => .int (i - j))
  | .Mult => rI CMulW (fun i j => .int (i * j))
  | .FloorDiv => rI CDivW (fun i j => .int (i / j))
  | .Mod => rI (fun _ j => j ≠ 0) (fun i j => .int (i.fmod j))
  | .Pow => rI CPow (fun i j => .int (i ^ j.toNat))
  | .RShift => rI (fun _ j => 0 ≤ j) fun i j => .int (i / 2 ^ j.toNat)
  | .BitAnd => fun x y H Q => ∃ n : Nat, x = .int (n : Int) ∧ y = .int 1 ∧ Q (.int ((n % 2 : Nat) : Int)) H
  | _ => fun _ _ _ _ => False
theorem op_of (X : Cx) (op : Operator) : OpR X (binaryOp op) (opOf X.K op) := by
  cases op with
  | Add => exact op_add.or (op_catA.or op_cat)
  | Sub => exact op_sub
  | Mult => exact op_mulW
  | FloorDiv => exact op_fdivW
  | Mod => exact op_modN
  | Pow => exact op_pow
  | RShift => exact op_shr
  | BitAnd => exact op_odd
  | _ => exact fun _ _ _ _ _ _ _ _ _ _ _ _ h => False.elim h
theorem mulOk_ok {i j : Int} (h : mulOk i j = true) : CMulW i j := by
  unfold mulOk at h
  have h2 := of_decide_eq_true h
  exact h2
theorem binS_ok (op : Operator) : OpD K (opOf K op) (binS op) := by
  intro F H ρ x y dx dy d Q fh rx ry e q
  unfold binS at e
  split at e
  · cases e; cases rx; cases ry
    exact .inl ⟨_, _, rfl, rfl, q _ F H (.refl fh) (.int _)⟩
  · cases e; cases rx; cases ry
    exact ⟨_, _, rfl, rfl, q _ F H (.refl fh) (.int _)⟩
  · rename_i i j
    split at e
    · cases e; cases rx; cases ry
      exact ⟨_, _, rfl, rfl, mulOk_ok ‹_›, q _ F H (.refl fh) (.int _)⟩
    · cases e
  · rename_i i j
    split at e
    · rename_i h
      cases e; cases rx; cases ry
      unfold divOk at h
      simp only [Bool.and_eq_true, decide_eq_true_eq] at h
      exact ⟨_, _, rfl, rfl, h, q _ F H (.refl fh) (.int _)⟩
    · cases e
  · split at e
    · rename_i h
      cases e; cases rx; cases ry
      exact ⟨_, _, rfl, rfl, by simpa using h, q _ F H (.refl fh) (.int _)⟩
    · cases e
  · split at e
    · rename_i h
      cases e; cases rx; cases ry
      simp only [Bool.and_eq_true, decide_eq_true_eq] at h
      exact ⟨_, _, rfl, rfl, ⟨h.1.1, h.1.2, h.2⟩, q _ F H (.refl fh) (.int _)⟩
    · cases e
  · split at e
    · rename_i h
      cases e; cases rx; cases ry
      exact ⟨_, _, rfl, rfl, of_decide_eq_true h, q _ F H (.refl fh) (.int _)⟩
    · cases e
  · rename_i i j
    split at e
    · rename_i h
      cases e; cases rx; cases ry
      simp only [Bool.and_eq_true, decide_eq_true_eq] at h
      obtain ⟨h1, rfl⟩ := h
      obtain ⟨n, rfl⟩ := Int.eq_ofNat_of_zero_le h1
      exact ⟨n, rfl, rfl, q _ F H (.refl fh) (.int _)⟩
    · cases e
  · rename_i a b
    split at e
    · rename_i h
      cases e
      cases rx with
      | tup r1 r2 =>
        cases ry with
        | tup s1 s2 =>
          have hx := same_t fh r1
          have hy := same_t fh s1
          have l1 := r2.length
          have l2 := s2.length
          refine .inr (.inl ⟨_, _, _, _, rfl, rfl, hx, hy, by rw [sz, l1, l2]; exact h, fun z => ?_, fun _ z => ?_, fun z1 z2 => new_tup fh (r2.append s2) q⟩)
          · have : a = [] := r2.nil_iff.mp z
            subst this
            exact q _ F H (.refl fh) (.tup s1 s2)
          · have : b = [] := s2.nil_iff.mp z
            subst this
            rw [List.append_nil] at q
            exact q _ F H (.refl fh) (.tup r1 r2)
    · cases e
  · rename_i a b
    split at e
    · rename_i h
      cases e
      cases rx with
      | lst r1 r2 =>
        cases ry with
        | lst s1 s2 =>
          have l1 := r2.length
          have l2 := s2.length
          exact .inr (.inr ⟨_, _, _, _, rfl, rfl, fh _ _ r1, fh _ _ s1, by rw [sz, l1, l2]; exact h, new_lst fh (r2.append s2) q⟩)
    · cases e
  · cases e
/-! ### comparisons -/
mutual
theorem toPy_ok (fh : Same F H) : ∀ (d : D) (v : V) (p : PyData), Dr K F ρ v d → toPy d = some p → Dp K H v p
  | .non, _, _, h, e => by cases h; cases e; exact .non
  | .bl _, _, _, h, e => by cases h; cases e; exact .bl _
  | .int _, _, _, h, e => by cases h; cases e; exact .int _
  | .str _, _, _, h, e => by cases h; cases e; exact .str _
  | .tup ds, _, p, h, e => by
    cases h with
    | tup a b =>
      unfold toPy at e
      obtain ⟨ps, h1, h2⟩ := Option.map_eq_some_iff.mp e
      subst h2
      exact .tup (same_t fh a) (toPys_ok fh ds _ _ b h1)
  | .lst ds, _, p, h, e => by
    cases h with
    | lst a b =>
      unfold toPy at e
      obtain ⟨ps, h1, h2⟩ := Option.map_eq_some_iff.mp e
      subst h2
      exact .lst (.inl (.inl (fh _ _ a))) (toPys_ok fh ds _ _ b h1)
  | .scr ds, _, p, h, e => by
    cases h with
    | scr a b =>
      unfold toPy at e
      obtain ⟨ps, h1, h2⟩ := Option.map_eq_some_iff.mp e
      subst h2
      exact .lst (fh.seq a) (toPys_ok fh ds _ _ b h1)
  | .mr _, _, _, h, e => by unfold toPy at e; cases e
  | .rg _ _, _, _, h, e => by unfold toPy at e; cases e
  | .dk _ _, _, _, h, e => by unfold toPy at e; cases e
theorem toPys_ok (fh : Same F H) : ∀ (ds : List D) (vs : List V) (ps : List PyData), DrL K F ρ vs ds → toPys ds = some ps → DpAll K H vs ps
  | [], _, _, h, e => by cases h; cases e; exact .nil
  | d :: ds, _, ps, h, e => by
    cases h with
    | cons a b =>
      unfold toPys at e
      obtain ⟨p, h1, h2⟩ := Option.bind_eq_some_iff.mp e
      obtain ⟨qs, h3, h4⟩ := Option.map_eq_some_iff.mp h2
      subst h4
      exact .cons (toPy_ok fh d _ _ a h1) (toPys_ok fh ds _ _ b h3)
end
def cmpOf (K : PySem.W.Frag) : CmpOp → R2
  | .Lt => rI0 (fun i j => .bl (decide (i < j)))
  | .LtE => rI0 (fun i j => .bl (decide (i ≤ j)))
  | .Gt => rI0 (fun i j => .bl (decide (j < i)))
  | .GtE => rI0 (fun i j => .bl (decide (j ≤ i)))
  | .Eq => rEqD K
  | .NotEq => rNeD K
  | .In => rInD K
  | .NotIn => rNotInD K
  | .Is => rIsB
  | .IsNot => rNotB
theorem cmp_of (X : Cx) (hu : X.A.units + 65 < cLine) (op : CmpOp) : OpR X (compareOp op) (cmpOf X.K op) := by
  cases op with
  | Lt => exact op_lt
  | LtE => exact op_le
  | Gt => exact op_gt
  | GtE => exact op_ge
  | Eq => exact op_eqD (by omega)
  | NotEq => exact op_neD (by omega)
  | In => exact op_inD hu
  | NotIn => exact op_notInD hu
  | Is => exact op_isBl
  | IsNot => exact op_notBl
theorem eqS_ok (fh : Same F H) {x y : V} {dx dy : D} {b : Bool} (rx : Dr K F ρ x dx) (ry : Dr K F ρ y dy) (e : eqS dx dy = some b) : ∃ p q, Dp K H x p ∧ Dp K H y q ∧ SeqAt.shaped p = true ∧ SeqAt.shaped q = true ∧ PyData.eqv p q = b := by
  unfold eqS at e
  obtain ⟨p, h1, h2⟩ := Option.bind_eq_some_iff.mp e
  obtain ⟨q, h3, h4⟩ := Option.bind_eq_some_iff.mp h2
  split at h4
  · rename_i hs
    cases h4
    simp only [Bool.and_eq_true] at hs
    exact ⟨p, q, toPy_ok fh _ _ _ rx h1, toPy_ok fh _ _ _ ry h3, hs.1, hs.2, rfl⟩
  · cases h4
theorem inS_ok (fh : Same F H) {x y : V} {dx dy : D} {b : Bool} (rx : Dr K F ρ x dx) (ry : Dr K F ρ y dy) (e : inS dx dy = some b) : ∃ p ps, Dp K H x p ∧ Dp K H y (.list ps) ∧ SeqAt.shaped p = true ∧ SeqAt.shaped (.list ps) = true ∧ (ps.any fun z => PyData.eqv z p) = b := by
  unfold inS at e
  obtain ⟨p, h1, h2⟩ := Option.bind_eq_some_iff.mp e
  obtain ⟨q, h3, h4⟩ := Option.bind_eq_some_iff.mp h2
  split at h4
  case h_2 => cases h4
  rename_i ps
  split at h4
  · rename_i hs
    cases h4
    simp only [Bool.and_eq_true] at hs
    exact ⟨p, ps, toPy_ok fh _ _ _ rx h1, toPy_ok fh _ _ _ ry h3, hs.1, hs.2, rfl⟩
  · cases h4
theorem cmpS_ok (op : CmpOp) (fh : Same F H) {x y : V} {dx dy : D} {b : Bool} {Q : VK} (rx : Dr K F ρ x dx) (ry : Dr K F ρ y dy) (e : cmpS op dx dy = some b) (q : Q (.bl b) H) : cmpOf K op x y H Q := by
  unfold cmpS at e
  split at e
  · cases e; cases rx; cases ry; exact ⟨_, _, rfl, rfl, q⟩
  · cases e; cases rx; cases ry; exact ⟨_, _, rfl, rfl, q⟩
  · cases e; cases rx; cases ry; exact ⟨_, _, rfl, rfl, q⟩
  · cases e; cases rx; cases ry; exact ⟨_, _, rfl, rfl, q⟩
  · obtain ⟨p, r, h1, h2, h3, h4, h5⟩ := eqS_ok fh rx ry e
    subst h5
    exact ⟨p, r, h1, h2, h3, h4, q⟩
  · obtain ⟨k, h6, h7⟩ := Option.map_eq_some_iff.mp e
    obtain ⟨p, r, h1, h2, h3, h4, h5⟩ := eqS_ok fh rx ry h6
    subst h5; subst h7
    exact ⟨p, r, h1, h2, h3, h4, q⟩
  · obtain ⟨p, r, h1, h2, h3, h4, h5⟩ := inS_ok fh rx ry e
    subst h5
    exact ⟨p, r, h1, h2, h3, h4, q⟩
  · obtain ⟨k, h6, h7⟩ := Option.map_eq_some_iff.mp e
    obtain ⟨p, r, h1, h2, h3, h4, h5⟩ := inS_ok fh rx ry h6
    subst h5; subst h7
    exact ⟨p, r, h1, h2, h3, h4, q⟩
  · cases e; cases rx; cases ry; exact ⟨_, _, rfl, rfl, q⟩
  · cases e; cases rx; cases ry; exact ⟨_, _, rfl, rfl, q⟩
  · cases e
theorem isNon_ok {x : V} {d : D} (r : Dr K F ρ x d) : decide (x = .non) = isNon d := by
  cases r <;> simp [isNon]
theorem truS_ok (fh : Same F H) {x : V} {d : D} {b : Bool} (r : Dr K F ρ x d) (e : truS d = some b) : TruV K x H b := by
  cases r with
  | non => cases e; exact rfl
  | bl b => cases e; exact rfl
  | int i => cases e; exact rfl
  | tup r1 r2 =>
    cases e
    refine .inr (.inl ⟨_, same_t fh r1, ?_⟩)
    cases r2 <;> rfl
  | lst r1 r2 =>
    cases e
    refine .inl ⟨_, .inl (.inl (fh _ _ r1)), ?_⟩
    cases r2 <;> rfl
  | _ => cases e
/-! ### items -/
theorem itsS_ok (fh : Same F H) (c : Cells K F H ρ μ) {x : V} {d : D} {ds : List D} (r : Dr K F ρ x d) (e : itsS μ d = some ds) : ∃ a xs, x = .ref a ∧ (SqL K H a xs ∨ SqT K H a xs) ∧ DrL K F ρ xs ds ∧ (SqT K H a xs → True) := by
  cases r with
  | tup r1 r2 => cases e; exact ⟨_, _, rfl, .inr (same_t fh r1), r2, fun _ => trivial⟩
  | lst r1 r2 => cases e; exact ⟨_, _, rfl, .inl (.inl (.inl (fh _ _ r1))), r2, fun _ => trivial⟩
  | scr r1 r2 => cases e; exact ⟨_, _, rfl, .inl (fh.seq r1), r2, fun _ => trivial⟩
  | mr h =>
    obtain ⟨_, xs, h1, h2⟩ := c.at_ _ _ _ h e
    exact ⟨_, xs, rfl, .inl (.inl (.inl h1)), h2, fun _ => trivial⟩
  | _ => cases e
theorem atI_ok {xs : List V} {ds : List D} {i : Int} {d : D} (r : DrL K F ρ xs ds) (e : atI ds i = some d) : ∃ v, atI xs i = some v ∧ Dr K F ρ v d := by
  unfold atI at e ⊢
  rw [r.length]
  obtain ⟨j, h1, h2⟩ := Option.bind_eq_some_iff.mp e
  obtain ⟨v, h3, h4⟩ := r.get h2
  exact ⟨v, Option.bind_eq_some_iff.mpr ⟨j, h1, h3⟩, h4⟩
theorem ixS_ok (fh : Same F H) (c : Cells K F H ρ μ) {x y : V} {dx dy d : D} {Q : VK} (rx : Dr K F ρ x dx) (ry : Dr K F ρ y dy) (e : ixS μ dx dy = some d) (q : ∀ v, Dr K F ρ v d → Q v H) : rIx K x y H Q := by
  unfold ixS at e
  split at e
  · obtain ⟨ds, h1, h2⟩ := Option.bind_eq_some_iff.mp e
    cases ry
    obtain ⟨a, xs, rfl, h3, h4, _⟩ := itsS_ok fh c rx h1
    obtain ⟨v, h5, h6⟩ := atI_ok h4 h2
    rcases h3 with h3 | h3
    · exact .inl ⟨_, _, _, v, rfl, rfl, h3, h5, q v h6⟩
    · exact .inr (.inl ⟨_, _, _, v, rfl, rfl, h3, h5, q v h6⟩)
  · cases e
theorem cut_ok {xs : List V} {ds : List D} (r : DrL K F ρ xs ds) (lo hi : Option Int) : DrL K F ρ (cutV xs lo hi) (cutS ds lo hi) := by
  unfold cutV cutS
  rw [r.length]
  exact (r.drop _).take _
def slOf (K : PySem.W.Frag) : V → Option Int → Option Int → Hp → VK → Prop := fun x lo hi H Q => rSlA K x lo hi H Q ∨ rSlL K x lo hi H Q
theorem sl_of (X : Cx) : SlR X (slOf X.K) := sl_tupA.or sl_list
theorem slcS_ok (fh : Same F H) {x : V} {dx d : D} {lo hi : Option Int} {Q : VK} (rx : Dr K F ρ x dx) (e : slcS dx lo hi = some d) (q : ∀ v F' H', PX F H F' H' → Dr K F' ρ v d → Q v H') : slOf K x lo hi H Q := by
  unfold slcS at e
  split at e
  · cases e
    cases rx with
    | tup r1 r2 =>
      refine .inl ⟨_, _, rfl, same_t fh r1, fun z => ?_, fun _ => new_tup fh (cut_ok r2 lo hi) q⟩
      refine q _ F H (.refl fh) (.tup r1 ?_)
      have e : cutS _ lo hi = _ := show cutS _ lo hi = _ from (by
        unfold cutS
        rw [← r2.length, z.1, z.2, List.drop_zero, Nat.sub_zero, r2.length, List.take_length])
      rw [e]
      exact r2
  · cases e
    cases rx with
    | lst r1 r2 => exact .inr ⟨_, _, rfl, .inl (.inl (fh _ _ r1)), new_lst fh (cut_ok r2 lo hi) q⟩
  · cases e
end
end Py
end
section
set_option Elab.async false
set_option linter.all false
set_option maxRecDepth 100000
namespace Py
open PySem L2
def biName : Bi → Str
  | .len => "len" | .abs => "abs" | .max => "max" | .min => "min" | .sum => "sum" | .tuple => "tuple" | .list => "list" | .int => "int" | .minp => "min" | .range => "range"
def biOf (K : PySem.W.Frag) : Bi → List V → Hp → VK → Prop
  | .len => fun xs H Q => ∃ p ys, xs = [.ref p] ∧ (SqL K H p ys ∨ SqT K H p ys) ∧ Q (.int ys.length) H
  | .abs => fun xs H Q => ∃ i, xs = [.int i] ∧ Q (.int (if i < 0 then -i else i)) H
  | .max => fun xs H Q => (∃ i j, xs = [.int i, .int j] ∧ Q (.int (if j > i then j else i)) H) ∨ rMax K xs H Q
  | .min => fun xs H Q => (∃ i j, xs = [.int i, .int j] ∧ Q (.int (if j < i then j else i)) H) ∨ rMin K xs H Q
  | .sum => rSum K
  | .tuple => fun xs H Q => ∃ p ys, xs = [.ref p] ∧ ((SqL K H p ys ∧ ∀ l, H l = none → Q (.ref l) (upd H l (.tup ys))) ∨ (SqT K H p ys ∧ Q (.ref p) H))
  | .list => fun xs H Q => ∃ p ys, xs = [.ref p] ∧ (SqL K H p ys ∨ SqT K H p ys) ∧ ∀ l, H l = none → Q (.ref l) (upd H l (.lst ys))
  | .int => fun xs H Q => (∃ i, xs = [.int i] ∧ Q (.int i) H) ∨ ∃ k, xs = [.bl k] ∧ Q (.int (if k then 1 else 0)) H
  | .minp => rMinP K
  | .range => fun xs H Q => (∃ j, xs = [.int j] ∧ ∀ p, H p = none → Q (.ref p) (upd H p (.rng 0 j))) ∨ ∃ i j, xs = [.int i, .int j] ∧ ∀ p, H p = none → Q (.ref p) (upd H p (.rng i j))
theorem starEach_cons {e : Expr} {es : List Expr} {env : PySem.Env} (h : ∀ v p, e ≠ .Starred v p) : starEach (e :: es) env = (false, eval e env) :: starEach es env := by
  cases e <;> first | rfl | exact absurd rfl (h _ _)
theorem cr_range1 {X : Cx} : CallR X (.type "range") (fun vs H Q => ∃ j, vs = [V.int j] ∧ ∀ p, H p = none → Q (.ref p) (upd H p (.rng 0 j))) := by
  intro pins s σ H vs us Q I r h
  obtain ⟨j, rfl, q⟩ := h
  obtain ⟨u, rfl, t, rfl⟩ := vals1 r
  refine PySem.call_range_1 ⟨.ref s.heap.objs.size, upd H s.heap.objs.size (.rng 0 j), I.laid (t' := _) (fun b o e => Heap.get?_push_of_some _ e) (Nat.le_refl _) ?_, rfl, q _ (I.hok.fresh (Nat.le_refl _))⟩
  exact ⟨_, _, _, Heap.get?_push_size _ rfl⟩
section
variable {X : Cx} {e : Expr} {es : List Expr} {p pos : Pos} {t : TA}
theorem pe_bi (b : Bi) (hu : X.A.units + 16 < cLine) (hc : X.calm = true) (hg : Gl X (biName b)) (hm : X.mg (biName b) = none) (ha : PA X (e :: es) t) (hs : ∀ v p, e ≠ .Starred v p) (hpl : (backTo pos (starEach es X.env)).any (·.1) = false) :
    PE X (.Call (.Name (biName b) p) (e :: es) [] pos) (tCB (biOf X.K b) t) := by
  cases b with
  | len => exact pe_callB call_len_seq hg hm (by decide +kernel) ha (by decide) (by decide) (starEach_cons hs) hpl
  | abs => exact pe_callB call_abs hg hm (by decide +kernel) ha (by decide) (by decide) (starEach_cons hs) hpl
  | max => exact pe_callB ((call_max2 hc).or (cr_max hc)) hg hm (by decide +kernel) ha (by decide) (by decide) (starEach_cons hs) hpl
  | min => exact pe_callB ((call_min2 hc).or (cr_min hc)) hg hm (by decide +kernel) ha (by decide) (by decide) (starEach_cons hs) hpl
  | minp => exact pe_callB (cr_minP hc hu) hg hm (by decide +kernel) ha (by decide) (by decide) (starEach_cons hs) hpl
  | sum => exact pe_callB (cr_sum hc) hg hm (by decide +kernel) ha (by decide) (by decide) (starEach_cons hs) hpl
  | tuple => exact pe_callTy call_tuple_of hg hm (by decide +kernel) ha (by decide) (by decide) (starEach_cons hs) hpl
  | list => exact pe_callTy call_list_of hg hm (by decide +kernel) ha (by decide) (by decide) (starEach_cons hs) hpl
  | range => exact pe_callTy (cr_range1.or cr_range2) hg hm (by decide +kernel) ha (by decide) (by decide) (starEach_cons hs) hpl
  | int => exact pe_callTy call_int1 hg hm (by decide +kernel) ha (by decide) (by decide) (starEach_cons hs) hpl
end
section
variable {K : PySem.W.Frag} {B F H F' H' : Hp} {ρ ρ' : List Addr} {σ : L2.St} {env : Env} {μ μ' : Store}
theorem asInts_ok : ∀ {ds : List D} {ns : List Int} {xs : List V}, DrL K F ρ xs ds → asInts ds = some ns → xs = ns.map V.int
  | [], _, _, h, e => by cases h; cases e; rfl
  | d :: ds, ns, _, .cons a b, e => by
    unfold asInts at e
    obtain ⟨i, h1, h2⟩ := Option.bind_eq_some_iff.mp e
    obtain ⟨is, h3, h4⟩ := Option.map_eq_some_iff.mp h2
    subst h4
    rw [asInts_ok b h3]
    unfold asInt at h1
    split at h1
    · cases h1; cases a; rfl
    · cases h1
theorem maxI_mem : ∀ (l : List Int), l ≠ [] → maxI l ∈ l ∧ ∀ y ∈ l, y ≤ maxI l
  | [], h => absurd rfl h
  | [x], _ => by
    rw [maxI]
    exact ⟨by simp, fun y hy => by simp at hy; omega⟩
  | x :: y :: r, _ => by
    rw [maxI]
    obtain ⟨h1, h2⟩ := maxI_mem ((if y > x then y else x) :: r) (by simp)
    generalize maxI ((if y > x then y else x) :: r) = m at h1 h2 ⊢
    constructor
    · rcases List.mem_cons.mp h1 with h | h
      · rw [h]; split <;> simp
      · exact List.mem_cons_of_mem _ (List.mem_cons_of_mem _ h)
    · intro z hz
      have h0 := h2 (if y > x then y else x) (by simp)
      rcases List.mem_cons.mp hz with h | h
      · subst h; split at h0 <;> omega
      · rcases List.mem_cons.mp h with h | h
        · subst h; split at h0 <;> omega
        · exact h2 z (List.mem_cons_of_mem _ h)
termination_by l => l.length
theorem minI_mem : ∀ (l : List Int), l ≠ [] → minI l ∈ l ∧ ∀ y ∈ l, minI l ≤ y
  | [], h => absurd rfl h
  | [x], _ => by
    rw [minI]
    exact ⟨by simp, fun y hy => by simp at hy; omega⟩
  | x :: y :: r, _ => by
    rw [minI]
    obtain ⟨h1, h2⟩ := minI_mem ((if y < x then y else x) :: r) (by simp)
    generalize minI ((if y < x then y else x) :: r) = m at h1 h2 ⊢
    constructor
    · rcases List.mem_cons.mp h1 with h | h
      · rw [h]; split <;> simp
      · exact List.mem_cons_of_mem _ (List.mem_cons_of_mem _ h)
    · intro z hz
      have h0 := h2 (if y < x then y else x) (by simp)
      rcases List.mem_cons.mp hz with h | h
      · subst h; split at h0 <;> omega
      · rcases List.mem_cons.mp h with h | h
        · subst h; split at h0 <;> omega
        · exact h2 z (List.mem_cons_of_mem _ h)
termination_by l => l.length
theorem DrL.two {xs : List V} {d1 d2 : D} (h : DrL K F ρ xs [d1, d2]) : ∃ x y, xs = [x, y] ∧ Dr K F ρ x d1 ∧ Dr K F ρ y d2 := by
  cases h with
  | cons a b => cases b with
    | cons c d => cases d; exact ⟨_, _, rfl, a, c⟩
theorem DrL.one {xs : List V} {d1 : D} (h : DrL K F ρ xs [d1]) : ∃ x, xs = [x] ∧ Dr K F ρ x d1 := by
  cases h with
  | cons a b => cases b; exact ⟨_, rfl, a⟩
theorem lstS_ok (fh : Same F H) (c : Cells K F H ρ μ) {x : V} {d : D} {ds : List D} (r : Dr K F ρ x d) (e : lstS μ d = some ds) : ∃ a xs, x = .ref a ∧ SqL K H a xs ∧ DrL K F ρ xs ds := by
  cases r with
  | lst r1 r2 => cases e; exact ⟨_, _, rfl, .inl (.inl (fh _ _ r1)), r2⟩
  | scr r1 r2 => cases e; exact ⟨_, _, rfl, fh.seq r1, r2⟩
  | mr h =>
    obtain ⟨_, xs, h1, h2⟩ := c.at_ _ _ _ h e
    exact ⟨_, xs, rfl, .inl (.inl h1), h2⟩
  | _ => cases e
theorem asPair_ok {x : V} {d : D} {p : Int × Int} (r : Dr K F ρ x d) (e : asPair d = some p) : (∃ t, x = .ref t ∧ SqT K F t [.int p.1, .int p.2]) ∧ d = .tup [.int p.1, .int p.2] := by
  unfold asPair at e
  split at e
  · cases e
    cases r with
    | tup r1 r2 =>
      cases r2 with
      | cons a b => cases a; cases b with | cons a b => cases a; cases b; exact ⟨⟨_, rfl, r1⟩, rfl⟩
  · cases e
theorem asPairs_ok (fh : Same F H) : ∀ {xs : List V} {ds : List D} {ps : List (Int × Int)}, DrL K F ρ xs ds → asPairs ds = some ps → PairsV K H xs ps ∧ ds = ps.map fun p => .tup [.int p.1, .int p.2]
  | _, [], _, r, e => by cases r; cases e; exact ⟨.nil, rfl⟩
  | _, d :: ds, _, r, e => by
    cases r with
    | cons a b =>
      rw [asPairs] at e
      obtain ⟨p, e1, e2⟩ := Option.bind_eq_some_iff.mp e
      obtain ⟨ps, e3, e4⟩ := Option.map_eq_some_iff.mp e2
      subst e4
      obtain ⟨⟨t, h1, h2⟩, h3⟩ := asPair_ok a e1
      obtain ⟨h4, h5⟩ := asPairs_ok fh b e3
      subst h3 h5
      exact ⟨.cons ⟨t, h1, same_t fh h2⟩ h4, rfl⟩
theorem biS_ok (b : Bi) (fh : Same F H) (c : Cells K F H ρ μ) {xs : List V} {ds : List D} {d : D} {Q : VK} (r : DrL K F ρ xs ds) (e : biS μ b ds = some d) (q : ∀ v F' H', PX F H F' H' → Dr K F' ρ v d → Q v H') : biOf K b xs H Q := by
  unfold biS at e
  split at e
  · obtain ⟨es, h1, h2⟩ := Option.map_eq_some_iff.mp e
    subst h2
    obtain ⟨x, rfl, rx⟩ := r.one
    obtain ⟨a, ys, rfl, h3, h4, _⟩ := itsS_ok fh c rx h1
    exact ⟨a, ys, rfl, h3, q _ F H (.refl fh) (by rw [h4.length]; exact .int _)⟩
  · cases e
    obtain ⟨x, rfl, rx⟩ := r.one
    cases rx
    exact ⟨_, rfl, q _ F H (.refl fh) (.int _)⟩
  · cases e
    obtain ⟨x, y, rfl, rx, ry⟩ := r.two
    cases rx; cases ry
    exact .inl ⟨_, _, rfl, q _ F H (.refl fh) (.int _)⟩
  · cases e
    obtain ⟨x, y, rfl, rx, ry⟩ := r.two
    cases rx; cases ry
    exact .inl ⟨_, _, rfl, q _ F H (.refl fh) (.int _)⟩
  · obtain ⟨es, h1, h2⟩ := Option.bind_eq_some_iff.mp e
    obtain ⟨ns, h3, h4⟩ := Option.bind_eq_some_iff.mp h2
    split at h4
    · cases h4
    · rename_i hne
      cases h4
      obtain ⟨x, rfl, rx⟩ := r.one
      obtain ⟨a, ys, rfl, h5, h6⟩ := lstS_ok fh c rx h1
      have e1 := asInts_ok h6 h3
      subst e1
      have ne : ns ≠ [] := fun z => by subst z; exact hne rfl
      obtain ⟨m1, m2⟩ := maxI_mem ns ne
      refine .inr ⟨a, ns, rfl, h5, List.length_pos_iff.mpr ne, fun m k1 k2 => ?_⟩
      have : m = maxI ns := by have := m2 m k1; have := k2 _ m1; omega
      rw [this]
      exact q _ F H (.refl fh) (.int _)
  · obtain ⟨es, h1, h2⟩ := Option.bind_eq_some_iff.mp e
    obtain ⟨ns, h3, h4⟩ := Option.bind_eq_some_iff.mp h2
    split at h4
    · cases h4
    · rename_i hne
      cases h4
      obtain ⟨x, rfl, rx⟩ := r.one
      obtain ⟨a, ys, rfl, h5, h6⟩ := lstS_ok fh c rx h1
      have e1 := asInts_ok h6 h3
      subst e1
      have ne : ns ≠ [] := fun z => by subst z; exact hne rfl
      obtain ⟨m1, m2⟩ := minI_mem ns ne
      refine .inr ⟨a, ns, rfl, h5, List.length_pos_iff.mpr ne, fun m k1 k2 => ?_⟩
      have : m = minI ns := by have := m2 m k1; have := k2 _ m1; omega
      rw [this]
      exact q _ F H (.refl fh) (.int _)
  · obtain ⟨es, h1, h2⟩ := Option.bind_eq_some_iff.mp e
    obtain ⟨ns, h3, h4⟩ := Option.map_eq_some_iff.mp h2
    subst h4
    obtain ⟨x, rfl, rx⟩ := r.one
    obtain ⟨a, ys, rfl, h5, h6⟩ := lstS_ok fh c rx h1
    have e1 := asInts_ok h6 h3
    subst e1
    exact ⟨a, ns, rfl, h5, q _ F H (.refl fh) (.int _)⟩
  · rename_i d0
    obtain ⟨es, h1, h2⟩ := Option.map_eq_some_iff.mp e
    subst h2
    obtain ⟨x, rfl, rx⟩ := r.one
    cases rx with
    | tup r1 r2 => cases h1; exact ⟨_, _, rfl, .inr ⟨same_t fh r1, q _ F H (.refl fh) (.tup r1 r2)⟩⟩
    | lst r1 r2 => cases h1; exact ⟨_, _, rfl, .inl ⟨.inl (.inl (fh _ _ r1)), new_tup fh r2 q⟩⟩
    | scr r1 r2 => cases h1; exact ⟨_, _, rfl, .inl ⟨fh.seq r1, new_tup fh r2 q⟩⟩
    | mr h =>
      obtain ⟨_, zs, k1, k2⟩ := c.at_ _ _ _ h h1
      exact ⟨_, _, rfl, .inl ⟨.inl (.inl k1), new_tup fh k2 q⟩⟩
    | _ => cases h1
  · obtain ⟨es, h1, h2⟩ := Option.map_eq_some_iff.mp e
    subst h2
    obtain ⟨x, rfl, rx⟩ := r.one
    obtain ⟨a, ys, rfl, h3, h4, _⟩ := itsS_ok fh c rx h1
    exact ⟨a, ys, rfl, h3, new_lst fh h4 q⟩
  · cases e
    obtain ⟨x, rfl, rx⟩ := r.one
    cases rx
    exact .inl ⟨_, rfl, q _ F H (.refl fh) (.int _)⟩
  · cases e
    obtain ⟨x, rfl, rx⟩ := r.one
    cases rx
    exact .inr ⟨_, rfl, q _ F H (.refl fh) (.int _)⟩
  · cases e
    obtain ⟨x, rfl, rx⟩ := r.one
    cases rx
    exact .inl ⟨_, rfl, new_rg fh q⟩
  · cases e
    obtain ⟨x, y, rfl, rx, ry⟩ := r.two
    cases rx; cases ry
    exact .inr ⟨_, _, rfl, new_rg fh q⟩
  · obtain ⟨es, h1, h2⟩ := Option.bind_eq_some_iff.mp e
    obtain ⟨ps, h3, h4⟩ := Option.bind_eq_some_iff.mp h2
    split at h4
    · cases h4
    · rename_i p0 r0
      cases h4
      obtain ⟨x, rfl, rx⟩ := r.one
      obtain ⟨a, ys, rfl, h5, h6⟩ := lstS_ok fh c rx h1
      obtain ⟨h7, h8⟩ := asPairs_ok fh h6 h3
      refine ⟨a, ys, p0, r0, rfl, h5, h7, fun v i k1 k2 => ?_⟩
      obtain ⟨dd, k3, k4⟩ := h6.getV k1
      rw [h8, List.getElem?_map, k2] at k3
      cases k3
      exact q _ F H (.refl fh) k4
  · cases e
/-! ### isinstance -/
def tyN : Ty → String
  | .int => "int" | .bool => "bool" | .str => "str" | .tup => "tuple" | .lst => "list"
def tyS : Ty → Str
  | .int => "int" | .bool => "bool" | .str => "str" | .tup => "tuple" | .lst => "list"
def dN : D → String
  | .non => "NoneType" | .bl _ => "bool" | .int _ => "int" | .str _ => "str" | .tup _ => "tuple" | _ => "list"
theorem tyX_ok (fh : Same F H) {x : V} {d : D} (r : Dr K F ρ x d) (h : isiS d .int ≠ none) : TyX K H x (.type (dN d)) := by
  cases r with
  | non => exact .base .non
  | bl b => exact .base (.bl b)
  | int i => exact .base (.int i)
  | str s => exact .base (.str s)
  | tup r1 r2 =>
    rcases r1 with (r1 | ⟨o, r1⟩) | ⟨o, its, n, h1, h2, _⟩
    · exact .base (.tup (fh _ _ r1))
    · exact .fTuple (fh _ _ r1)
    · exact .kTuple h1 h2
  | lst r1 r2 => exact .base (.lst (fh _ _ r1))
  | _ => exact absurd rfl h
theorem kit_ok (d : D) (t : Ty) (b : Bool) (h : isiS d t = some b) : kitB (dN d) (tyN t) = some b := by
  cases d <;> cases t <;> first
    | (cases h; dsimp only [dN, tyN]; decide +kernel)
    | cases h
theorem isiS_ok (fh : Same F H) {x : V} {d : D} {t : Ty} {b : Bool} {Q : VK} (r : Dr K F ρ x d) (e : isiS d t = some b) (q : Q (.bl b) H) : rIsi K [x, .ty (tyN t)] H Q := by
  refine ⟨x, _, .type (dN d), .type (tyN t), b, rfl, .ty _, tyX_ok fh r ?_, kit_ty (kit_ok d t b e), q⟩
  cases d <;> cases t <;> first | (cases e; exact fun z => nomatch z) | cases e
end
end Py
end
section
set_option Elab.async false
set_option linter.all false
set_option maxRecDepth 100000
namespace Py
open PySem L2
/-! ### which text a syntax stands for -/
structure MC where
  N : List Str
  fns : List Str
  gls : List Str
def visB (sc : Scope) (x : Str) : Bool := match sc.names.lookup x with
  | some .local => true | some .cell => true | some .free => true | _ => false
def locB (sc : Scope) (x : Str) : Bool := match sc.names.lookup x with
  | some .local => true | some .cell => true | _ => false
def gloB (sc : Scope) (x : Str) : Bool := match sc.names.lookup x with
  | some .globalImplicit => true | _ => false
def okName (x : Str) : Bool := !(x == ("__debug__" : Str)) && !(x == ("__classdict__" : Str))
mutual
def mT (C : MC) (sc : Scope) : T → Expr → Bool
  | .nm i, .Name x _ => decide (C.N[i]? = some x) && locB sc x
  | .tp ts, .Tuple es _ _ => mTs C sc ts es
  | _, _ => false
def mTs (C : MC) (sc : Scope) : List T → List Expr → Bool
  | [], [] => true
  | t :: ts, e :: es => mT C sc t e && mTs C sc ts es
  | _, _ => false
end
def sliceB : Expr → Bool
  | .Slice .. => true | _ => false
def isCallB : Expr → Bool
  | .Call .. => true | _ => false
def isNameB : Expr → Bool
  | .Name .. => true | _ => false
def isTup : Expr → Bool
  | .Tuple .. => true | _ => false
mutual
def mE (C : MC) (sc : Scope) : E → Expr → Bool
  | .slot i, .Name x _ => decide (C.N[i]? = some x) && visB sc x && okName x
  | .glob g, .Name x _ => decide (C.gls[g]? = some x) && gloB sc x && okName x
  | .int i, .Constant (.int j) _ _ => decide (i = j)
  | .bl i, .Constant (.bool j) _ _ => decide (i = j)
  | .non, .Constant .none _ _ => true
  | .str i, .Constant (.str j) _ _ => decide (i = j)
  | .bin op a b, .BinOp x op' y _ => decide (op = op') && mE C sc a x && mE C sc b y
  | .neg a, .UnaryOp .USub x _ => mE C sc a x
  | .cmp op a b, .Compare x [op'] [y] _ => decide (op = op') && mE C sc a x && mE C sc b y
  | .isN a, .Compare x [.Is] [.Constant .none _ _] _ => mE C sc a x
  | .notN a, .Compare x [.IsNot] [.Constant .none _ _] _ => mE C sc a x
  | .not a, .UnaryOp .Not x _ => mE C sc a x
  | .and a r, .BoolOp .And (x :: xs) _ => mE C sc a x && mEs C sc r xs
  | .or a r, .BoolOp .Or (x :: xs) _ => mE C sc a x && mEs C sc r xs
  | .ite c a b, .IfExp z x y _ => mE C sc c z && mE C sc a x && mE C sc b y
  | .tup es, .Tuple xs _ _ => mEs C sc es xs
  | .lst es, .List xs _ => mEs C sc es xs
  | .mlst es, .List xs _ => mEs C sc es xs
  | .ix a b, .Subscript x y _ => mE C sc a x && mE C sc b y
  | .slc a lo hi, .Subscript x (.Slice l h none _) _ => mE C sc a x && mEo C sc lo l && mEo C sc hi h
  | .call f e es, .Call (.Name x _) (y :: ys) [] _ => decide (C.fns[f]? = some x) && gloB sc x && okName x && mE C sc e y && mEs C sc es ys
  | .bi b e es, .Call (.Name x _) (y :: ys) [] _ => decide (x = biName b) && gloB sc x && mE C sc e y && mEs C sc es ys
  | .isi e t, .Call (.Name x _) [y, .Name z _] [] _ => decide (x = ("isinstance" : Str)) && gloB sc x && mE C sc e y && decide (z = tyS t) && gloB sc z
  | .lc e t it c vs, .ListComp x [⟨tg, iter, ifs, a⟩] scope _ => decide (a = 0) && blkC C.N sc scope (vs.map fun i => (C.N.getD i "", i)) && (tgS t).all (fun i => vs.contains i) && mI C sc it iter (isTup tg) && mT C scope t tg && mEc C scope c ifs && mE C scope e x
  | .bor _ e, x => mE C sc e x
  | .dIn neg i e, .Compare x [op] [.Name y _] _ => decide (op = if neg then .NotIn else .In) && decide (C.N[i]? = some y) && visB sc y && okName y && mE C sc e x
  | .dAt i e, .Subscript (.Name y _) x _ => decide (C.N[i]? = some y) && visB sc y && okName y && mE C sc e x
  | .dVals i, .Call (.Name f _) [.Call (.Attribute (.Name y _) m ap) [] [] cp] [] _ => decide (f = ("list" : Str)) && gloB sc f && decide (C.N[i]? = some y) && visB sc y && okName y && decide (m = ("values" : Str)) && (ap.endLine == cp.line)
  | .kBor _ e, x => isCallB x && mE C sc e x
  | .kAt i e, .Subscript (.Name y _) x _ => decide (C.N[i]? = some y) && visB sc y && okName y && mE C sc e x
  | .kGet a k d, .Call (.Attribute o m ap) [y, z] [] cp => decide (m = ("get" : Str)) && (ap.endLine == cp.line) && isNameB o && mE C sc a o && mE C sc k y && mE C sc d z
  | .rngL e, .Call (.Name f _) [.Call (.Name g _) [x] [] _] [] _ => decide (f = ("list" : Str)) && gloB sc f && decide (g = ("range" : Str)) && gloB sc g && mE C sc e x
  | .rngL2 a b, .Call (.Name f _) [.Call (.Name g _) [x, y] [] _] [] _ => decide (f = ("list" : Str)) && gloB sc f && decide (g = ("range" : Str)) && gloB sc g && mE C sc a x && mE C sc b y
  | .rev e, .Subscript x (.Slice none none (some (.UnaryOp .USub (.Constant (.int 1) _ _) _)) _) _ => mE C sc e x
  | .chain op op' a b c, .Compare x [o, o'] [y, z] _ => decide (op = o) && decide (op' = o') && mE C sc a x && mE C sc b y && mE C sc c z
  | _, _ => false
def mEs (C : MC) (sc : Scope) : Es → List Expr → Bool
  | .nil, [] => true
  | .cons e es, x :: xs => mE C sc e x && mEs C sc es xs
  | _, _ => false
def mEo (C : MC) (sc : Scope) : Eo → Option Expr → Bool
  | .none, none => true
  | .some e, some x => mE C sc e x
  | _, _ => false
def mEc (C : MC) (sc : Scope) : Eo → List Expr → Bool
  | .none, [] => true
  | .some e, [x] => mE C sc e x
  | _, _ => false
def mI (C : MC) (sc : Scope) : I → Expr → Bool → Bool
  | .seq e, x, _ => mE C sc e x
  | .rng1 e, .Call (.Name f _) [x] [] _, _ => decide (f = ("range" : Str)) && gloB sc f && mE C sc e x
  | .rng2 a b, .Call (.Name f _) [x, y] [] _, _ => decide (f = ("range" : Str)) && gloB sc f && mE C sc a x && mE C sc b y
  | .zip a b, .Call (.Name f _) [x, y] [] _, k => k && decide (f = ("zip" : Str)) && gloB sc f && mE C sc a x && mE C sc b y
  | .rngD e, .Call (.Name f _) [x, .UnaryOp .USub (.Constant (.int 1) _ _) _, .UnaryOp .USub (.Constant (.int 1) _ _) _] [] _, _ => decide (f = ("range" : Str)) && gloB sc f && mE C sc e x
  | .enum a, .Call (.Name f _) [x] [] _, k => k && decide (f = ("enumerate" : Str)) && gloB sc f && mE C sc a x
  | _, _, _ => false
end
theorem mE_nostar {C : MC} {sc : Scope} : ∀ {m : E} {e : Expr}, mE C sc m e = true → (∀ v p, e ≠ .Starred v p) ∧ sliceB e = false := by
  intro m
  induction m using E.rec (motive_2 := fun _ => True) (motive_3 := fun _ => True) (motive_4 := fun _ => True) with
  | bor i e ih => intro x h; rw [mE] at h; exact ih h
  | kBor i e ih => intro x h; rw [mE, Bool.and_eq_true] at h; exact ih h.2
  | nil => trivial
  | cons => trivial
  | none => trivial
  | some => trivial
  | seq => trivial
  | rng1 => trivial
  | rng2 => trivial
  | zip => trivial
  | enum => trivial
  | rngD => trivial
  | _ =>
    intro x h
    refine ⟨?_, ?_⟩
    · intro v p z
      subst z
      rw [mE] at h <;> first | cases h | (intros; contradiction)
    · cases x <;> first | rfl | (exfalso; rw [mE] at h <;> first | cases h | (intros; contradiction))
end Py
end
section
set_option Elab.async false
set_option linter.all false
set_option maxRecDepth 100000
namespace Py
open PySem L2
theorem mE_slot {C : MC} {sc : Scope} {e : Expr} {i : Nat} (h : mE C sc (.slot i) e = true) : ∃ x p, e = .Name x p ∧ (C.N[i]? = some x ∧ visB sc x = true) ∧ okName x = true := by
  unfold mE at h
  split at h <;> first | contradiction | skip
  rename_i q; cases q
  try simp only [Bool.and_eq_true, decide_eq_true_eq, Bool.not_eq_true'] at h
  exact ⟨_, _, rfl, h⟩
theorem mE_glob {C : MC} {sc : Scope} {e : Expr} {i : Nat} (h : mE C sc (.glob i) e = true) : ∃ x p, e = .Name x p ∧ (C.gls[i]? = some x ∧ gloB sc x = true) ∧ okName x = true := by
  unfold mE at h
  split at h <;> first | contradiction | skip
  rename_i q; cases q
  try simp only [Bool.and_eq_true, decide_eq_true_eq, Bool.not_eq_true'] at h
  exact ⟨_, _, rfl, h⟩
theorem mE_int {C : MC} {sc : Scope} {e : Expr} {i : Int} (h : mE C sc (.int i) e = true) : ∃ j k p, e = .Constant (.int j) k p ∧ i = j := by
  unfold mE at h
  split at h <;> first | contradiction | skip
  rename_i q; cases q
  try simp only [Bool.and_eq_true, decide_eq_true_eq, Bool.not_eq_true'] at h
  exact ⟨_, _, _, rfl, h⟩
theorem mE_bl {C : MC} {sc : Scope} {e : Expr} {i : Bool} (h : mE C sc (.bl i) e = true) : ∃ j k p, e = .Constant (.bool j) k p ∧ i = j := by
  unfold mE at h
  split at h <;> first | contradiction | skip
  rename_i q; cases q
  try simp only [Bool.and_eq_true, decide_eq_true_eq, Bool.not_eq_true'] at h
  exact ⟨_, _, _, rfl, h⟩
theorem mE_str {C : MC} {sc : Scope} {e : Expr} {i : Str} (h : mE C sc (.str i) e = true) : ∃ j k p, e = .Constant (.str j) k p ∧ i = j := by
  unfold mE at h
  split at h <;> first | contradiction | skip
  rename_i q; cases q
  try simp only [Bool.and_eq_true, decide_eq_true_eq, Bool.not_eq_true'] at h
  exact ⟨_, _, _, rfl, h⟩
theorem mE_bin {C : MC} {sc : Scope} {e : Expr} {op : Operator} {a b : E} (h : mE C sc (.bin op a b) e = true) : ∃ x o y p, e = .BinOp x o y p ∧ (op = o ∧ mE C sc a x = true) ∧ mE C sc b y = true := by
  unfold mE at h
  split at h <;> first | contradiction | skip
  rename_i q; cases q
  try simp only [Bool.and_eq_true, decide_eq_true_eq, Bool.not_eq_true'] at h
  exact ⟨_, _, _, _, rfl, h⟩
theorem mE_neg {C : MC} {sc : Scope} {e : Expr} {a : E} (h : mE C sc (.neg a) e = true) : ∃ x p, e = .UnaryOp .USub x p ∧ mE C sc a x = true := by
  unfold mE at h
  split at h <;> first | contradiction | skip
  rename_i q; cases q
  try simp only [Bool.and_eq_true, decide_eq_true_eq, Bool.not_eq_true'] at h
  exact ⟨_, _, rfl, h⟩
theorem mE_not {C : MC} {sc : Scope} {e : Expr} {a : E} (h : mE C sc (.not a) e = true) : ∃ x p, e = .UnaryOp .Not x p ∧ mE C sc a x = true := by
  unfold mE at h
  split at h <;> first | contradiction | skip
  rename_i q; cases q
  try simp only [Bool.and_eq_true, decide_eq_true_eq, Bool.not_eq_true'] at h
  exact ⟨_, _, rfl, h⟩
theorem mE_cmp {C : MC} {sc : Scope} {e : Expr} {op : CmpOp} {a b : E} (h : mE C sc (.cmp op a b) e = true) : ∃ x o y p, e = .Compare x [o] [y] p ∧ (op = o ∧ mE C sc a x = true) ∧ mE C sc b y = true := by
  unfold mE at h
  split at h <;> first | contradiction | skip
  rename_i q; cases q
  try simp only [Bool.and_eq_true, decide_eq_true_eq, Bool.not_eq_true'] at h
  exact ⟨_, _, _, _, rfl, h⟩
theorem mE_dIn {C : MC} {sc : Scope} {e : Expr} {neg : Bool} {i : Nat} {a : E} (h : mE C sc (.dIn neg i a) e = true) : ∃ x o y p2 p, e = .Compare x [o] [.Name y p2] p ∧ (((o = (if neg then .NotIn else .In) ∧ C.N[i]? = some y) ∧ visB sc y = true) ∧ okName y = true) ∧ mE C sc a x = true := by
  unfold mE at h
  split at h <;> first | contradiction | skip
  rename_i q; cases q
  try simp only [Bool.and_eq_true, decide_eq_true_eq, Bool.not_eq_true'] at h
  exact ⟨_, _, _, _, _, rfl, h⟩
theorem mE_dAt {C : MC} {sc : Scope} {e : Expr} {i : Nat} {a : E} (h : mE C sc (.dAt i a) e = true) : ∃ y p2 x p, e = .Subscript (.Name y p2) x p ∧ ((C.N[i]? = some y ∧ visB sc y = true) ∧ okName y = true) ∧ mE C sc a x = true := by
  unfold mE at h
  split at h <;> first | contradiction | skip
  rename_i q; cases q
  try simp only [Bool.and_eq_true, decide_eq_true_eq, Bool.not_eq_true'] at h
  exact ⟨_, _, _, _, rfl, h⟩
theorem mE_kAt {C : MC} {sc : Scope} {e : Expr} {i : Nat} {a : E} (h : mE C sc (.kAt i a) e = true) : ∃ y p2 x p, e = .Subscript (.Name y p2) x p ∧ ((C.N[i]? = some y ∧ visB sc y = true) ∧ okName y = true) ∧ mE C sc a x = true := by
  unfold mE at h
  split at h <;> first | contradiction | skip
  rename_i q; cases q
  try simp only [Bool.and_eq_true, decide_eq_true_eq, Bool.not_eq_true'] at h
  exact ⟨_, _, _, _, rfl, h⟩
theorem mE_kGet {C : MC} {sc : Scope} {e : Expr} {a k d : E} (h : mE C sc (.kGet a k d) e = true) : ∃ o m ap y z cp, e = .Call (.Attribute o m ap) [y, z] [] cp ∧ ((((m = ("get" : Str) ∧ (ap.endLine == cp.line) = true) ∧ isNameB o = true) ∧ mE C sc a o = true) ∧ mE C sc k y = true) ∧ mE C sc d z = true := by
  unfold mE at h
  split at h <;> first | contradiction | skip
  rename_i q; cases q
  try simp only [Bool.and_eq_true, decide_eq_true_eq, Bool.not_eq_true'] at h
  exact ⟨_, _, _, _, _, _, rfl, h⟩
theorem mE_dVals {C : MC} {sc : Scope} {e : Expr} {i : Nat} (h : mE C sc (.dVals i) e = true) : ∃ f p2 y p3 m ap cp p, e = .Call (.Name f p2) [.Call (.Attribute (.Name y p3) m ap) [] [] cp] [] p ∧ (((((f = ("list" : Str) ∧ gloB sc f = true) ∧ C.N[i]? = some y) ∧ visB sc y = true) ∧ okName y = true) ∧ m = ("values" : Str)) ∧ (ap.endLine == cp.line) = true := by
  unfold mE at h
  split at h <;> first | contradiction | skip
  rename_i q; cases q
  try simp only [Bool.and_eq_true, decide_eq_true_eq, Bool.not_eq_true'] at h
  exact ⟨_, _, _, _, _, _, _, _, rfl, h⟩
theorem mE_rngL {C : MC} {sc : Scope} {e : Expr} {a : E} (h : mE C sc (.rngL a) e = true) : ∃ f p2 g p3 x p4 p, e = .Call (.Name f p2) [.Call (.Name g p3) [x] [] p4] [] p ∧ (((f = ("list" : Str) ∧ gloB sc f = true) ∧ g = ("range" : Str)) ∧ gloB sc g = true) ∧ mE C sc a x = true := by
  unfold mE at h
  split at h <;> first | contradiction | skip
  rename_i q; cases q
  try simp only [Bool.and_eq_true, decide_eq_true_eq, Bool.not_eq_true'] at h
  exact ⟨_, _, _, _, _, _, _, rfl, h⟩
theorem mE_rngL2 {C : MC} {sc : Scope} {e : Expr} {a b : E} (h : mE C sc (.rngL2 a b) e = true) : ∃ f p2 g p3 x y p4 p, e = .Call (.Name f p2) [.Call (.Name g p3) [x, y] [] p4] [] p ∧ ((((f = ("list" : Str) ∧ gloB sc f = true) ∧ g = ("range" : Str)) ∧ gloB sc g = true) ∧ mE C sc a x = true) ∧ mE C sc b y = true := by
  unfold mE at h
  split at h <;> first | contradiction | skip
  rename_i q; cases q
  try simp only [Bool.and_eq_true, decide_eq_true_eq, Bool.not_eq_true'] at h
  exact ⟨_, _, _, _, _, _, _, _, rfl, h⟩
theorem mE_rev {C : MC} {sc : Scope} {e : Expr} {a : E} (h : mE C sc (.rev a) e = true) : ∃ x k p1 p2 p3 p, e = .Subscript x (.Slice none none (some (.UnaryOp .USub (.Constant (.int 1) k p1) p2)) p3) p ∧ mE C sc a x = true := by
  unfold mE at h
  split at h <;> first | contradiction | skip
  rename_i q; cases q
  try simp only [Bool.and_eq_true, decide_eq_true_eq, Bool.not_eq_true'] at h
  exact ⟨_, _, _, _, _, _, rfl, h⟩
theorem mE_chain {C : MC} {sc : Scope} {e : Expr} {op op2 : CmpOp} {a b c : E} (h : mE C sc (.chain op op2 a b c) e = true) : ∃ x o o2 y z p, e = .Compare x [o, o2] [y, z] p ∧ (((op = o ∧ op2 = o2) ∧ mE C sc a x = true) ∧ mE C sc b y = true) ∧ mE C sc c z = true := by
  unfold mE at h
  split at h <;> first | contradiction | skip
  rename_i q; cases q
  try simp only [Bool.and_eq_true, decide_eq_true_eq, Bool.not_eq_true'] at h
  exact ⟨_, _, _, _, _, _, rfl, h⟩
theorem mE_isN {C : MC} {sc : Scope} {e : Expr} {a : E} (h : mE C sc (.isN a) e = true) : ∃ x k p2 p, e = .Compare x [.Is] [.Constant .none k p2] p ∧ mE C sc a x = true := by
  unfold mE at h
  split at h <;> first | contradiction | skip
  rename_i q; cases q
  try simp only [Bool.and_eq_true, decide_eq_true_eq, Bool.not_eq_true'] at h
  exact ⟨_, _, _, _, rfl, h⟩
theorem mE_notN {C : MC} {sc : Scope} {e : Expr} {a : E} (h : mE C sc (.notN a) e = true) : ∃ x k p2 p, e = .Compare x [.IsNot] [.Constant .none k p2] p ∧ mE C sc a x = true := by
  unfold mE at h
  split at h <;> first | contradiction | skip
  rename_i q; cases q
  try simp only [Bool.and_eq_true, decide_eq_true_eq, Bool.not_eq_true'] at h
  exact ⟨_, _, _, _, rfl, h⟩
theorem mE_and {C : MC} {sc : Scope} {e : Expr} {a : E} {r : Es} (h : mE C sc (.and a r) e = true) : ∃ x xs p, e = .BoolOp .And (x :: xs) p ∧ mE C sc a x = true ∧ mEs C sc r xs = true := by
  unfold mE at h
  split at h <;> first | contradiction | skip
  rename_i q; cases q
  try simp only [Bool.and_eq_true, decide_eq_true_eq, Bool.not_eq_true'] at h
  exact ⟨_, _, _, rfl, h⟩
theorem mE_or {C : MC} {sc : Scope} {e : Expr} {a : E} {r : Es} (h : mE C sc (.or a r) e = true) : ∃ x xs p, e = .BoolOp .Or (x :: xs) p ∧ mE C sc a x = true ∧ mEs C sc r xs = true := by
  unfold mE at h
  split at h <;> first | contradiction | skip
  rename_i q; cases q
  try simp only [Bool.and_eq_true, decide_eq_true_eq, Bool.not_eq_true'] at h
  exact ⟨_, _, _, rfl, h⟩
theorem mE_ite {C : MC} {sc : Scope} {e : Expr} {c a b : E} (h : mE C sc (.ite c a b) e = true) : ∃ z x y p, e = .IfExp z x y p ∧ (mE C sc c z = true ∧ mE C sc a x = true) ∧ mE C sc b y = true := by
  unfold mE at h
  split at h <;> first | contradiction | skip
  rename_i q; cases q
  try simp only [Bool.and_eq_true, decide_eq_true_eq, Bool.not_eq_true'] at h
  exact ⟨_, _, _, _, rfl, h⟩
theorem mE_tup {C : MC} {sc : Scope} {e : Expr} {es : Es} (h : mE C sc (.tup es) e = true) : ∃ xs k p, e = .Tuple xs k p ∧ mEs C sc es xs = true := by
  unfold mE at h
  split at h <;> first | contradiction | skip
  rename_i q; cases q
  try simp only [Bool.and_eq_true, decide_eq_true_eq, Bool.not_eq_true'] at h
  exact ⟨_, _, _, rfl, h⟩
theorem mE_lst {C : MC} {sc : Scope} {e : Expr} {es : Es} (h : mE C sc (.lst es) e = true) : ∃ xs p, e = .List xs p ∧ mEs C sc es xs = true := by
  unfold mE at h
  split at h <;> first | contradiction | skip
  rename_i q; cases q
  try simp only [Bool.and_eq_true, decide_eq_true_eq, Bool.not_eq_true'] at h
  exact ⟨_, _, rfl, h⟩
theorem mE_mlst {C : MC} {sc : Scope} {e : Expr} {es : Es} (h : mE C sc (.mlst es) e = true) : ∃ xs p, e = .List xs p ∧ mEs C sc es xs = true := by
  unfold mE at h
  split at h <;> first | contradiction | skip
  rename_i q; cases q
  try simp only [Bool.and_eq_true, decide_eq_true_eq, Bool.not_eq_true'] at h
  exact ⟨_, _, rfl, h⟩
theorem mE_ix {C : MC} {sc : Scope} {e : Expr} {a b : E} (h : mE C sc (.ix a b) e = true) : ∃ x y p, e = .Subscript x y p ∧ mE C sc a x = true ∧ mE C sc b y = true := by
  unfold mE at h
  split at h <;> first | contradiction | skip
  rename_i q; cases q
  try simp only [Bool.and_eq_true, decide_eq_true_eq, Bool.not_eq_true'] at h
  exact ⟨_, _, _, rfl, h⟩
theorem mE_slc {C : MC} {sc : Scope} {e : Expr} {a : E} {lo hi : Eo} (h : mE C sc (.slc a lo hi) e = true) : ∃ x l u p2 p, e = .Subscript x (.Slice l u none p2) p ∧ (mE C sc a x = true ∧ mEo C sc lo l = true) ∧ mEo C sc hi u = true := by
  unfold mE at h
  split at h <;> first | contradiction | skip
  rename_i q; cases q
  try simp only [Bool.and_eq_true, decide_eq_true_eq, Bool.not_eq_true'] at h
  exact ⟨_, _, _, _, _, rfl, h⟩
theorem mE_call {C : MC} {sc : Scope} {e : Expr} {f : Nat} {a : E} {es : Es} (h : mE C sc (.call f a es) e = true) : ∃ x p2 y ys p, e = .Call (.Name x p2) (y :: ys) [] p ∧ (((C.fns[f]? = some x ∧ gloB sc x = true) ∧ okName x = true) ∧ mE C sc a y = true) ∧ mEs C sc es ys = true := by
  unfold mE at h
  split at h <;> first | contradiction | skip
  rename_i q; cases q
  try simp only [Bool.and_eq_true, decide_eq_true_eq, Bool.not_eq_true'] at h
  exact ⟨_, _, _, _, _, rfl, h⟩
theorem mE_bi {C : MC} {sc : Scope} {e : Expr} {b : Bi} {a : E} {es : Es} (h : mE C sc (.bi b a es) e = true) : ∃ x p2 y ys p, e = .Call (.Name x p2) (y :: ys) [] p ∧ ((x = biName b ∧ gloB sc x = true) ∧ mE C sc a y = true) ∧ mEs C sc es ys = true := by
  unfold mE at h
  split at h <;> first | contradiction | skip
  rename_i q; cases q
  try simp only [Bool.and_eq_true, decide_eq_true_eq, Bool.not_eq_true'] at h
  exact ⟨_, _, _, _, _, rfl, h⟩
theorem mE_isi {C : MC} {sc : Scope} {e : Expr} {a : E} {t : Ty} (h : mE C sc (.isi a t) e = true) : ∃ x p2 y z p3 p, e = .Call (.Name x p2) [y, .Name z p3] [] p ∧ (((x = ("isinstance" : Str) ∧ gloB sc x = true) ∧ mE C sc a y = true) ∧ z = tyS t) ∧ gloB sc z = true := by
  unfold mE at h
  split at h <;> first | contradiction | skip
  rename_i q; cases q
  try simp only [Bool.and_eq_true, decide_eq_true_eq, Bool.not_eq_true'] at h
  exact ⟨_, _, _, _, _, _, rfl, h⟩
theorem mE_lc {C : MC} {sc : Scope} {e : Expr} {a : E} {t : T} {it : I} {c : Eo} {vs : List Nat} (h : mE C sc (.lc a t it c vs) e = true) : ∃ x tg iter ifs n scope p, e = .ListComp x [⟨tg, iter, ifs, n⟩] scope p ∧ ((((((n = 0 ∧ blkC C.N sc scope (vs.map fun i => (C.N.getD i "", i)) = true) ∧ (tgS t).all (fun i => vs.contains i) = true) ∧ mI C sc it iter (isTup tg) = true) ∧ mT C scope t tg = true) ∧ mEc C scope c ifs = true) ∧ mE C scope a x = true) := by
  unfold mE at h
  split at h <;> first | contradiction | skip
  rename_i q; cases q
  try simp only [Bool.and_eq_true, decide_eq_true_eq, Bool.not_eq_true'] at h
  exact ⟨_, _, _, _, _, _, _, rfl, h⟩
theorem mEs_cons {C : MC} {sc : Scope} {l : List Expr}  {a : E} {es : Es} (h : mEs C sc (.cons a es) l = true) : ∃ y ys, l = y :: ys ∧ mE C sc a y = true ∧ mEs C sc es ys = true := by
  unfold mEs at h
  split at h <;> first | contradiction | skip
  rename_i q; cases q
  try simp only [Bool.and_eq_true, decide_eq_true_eq] at h
  exact ⟨_, _, rfl, h⟩
theorem mEo_some {C : MC} {sc : Scope} {l : Option Expr}  {a : E} (h : mEo C sc (.some a) l = true) : ∃ y, l = some y ∧ mE C sc a y = true := by
  unfold mEo at h
  split at h <;> first | contradiction | skip
  rename_i q; cases q
  try simp only [Bool.and_eq_true, decide_eq_true_eq] at h
  exact ⟨_, rfl, h⟩
theorem mEc_some {C : MC} {sc : Scope} {l : List Expr}  {a : E} (h : mEc C sc (.some a) l = true) : ∃ y, l = [y] ∧ mE C sc a y = true := by
  unfold mEc at h
  split at h <;> first | contradiction | skip
  rename_i q; cases q
  try simp only [Bool.and_eq_true, decide_eq_true_eq] at h
  exact ⟨_, rfl, h⟩
theorem mI_rng1 {C : MC} {sc : Scope} {l : Expr} {k : Bool} {a : E} (h : mI C sc (.rng1 a) l k = true) : ∃ f p2 y p, l = .Call (.Name f p2) [y] [] p ∧ (f = ("range" : Str) ∧ gloB sc f = true) ∧ mE C sc a y = true := by
  unfold mI at h
  split at h <;> first | contradiction | skip
  rename_i q; cases q
  try simp only [Bool.and_eq_true, decide_eq_true_eq] at h
  exact ⟨_, _, _, _, rfl, h⟩
theorem mI_rng2 {C : MC} {sc : Scope} {l : Expr} {k : Bool} {a b : E} (h : mI C sc (.rng2 a b) l k = true) : ∃ f p2 y z p, l = .Call (.Name f p2) [y, z] [] p ∧ ((f = ("range" : Str) ∧ gloB sc f = true) ∧ mE C sc a y = true) ∧ mE C sc b z = true := by
  unfold mI at h
  split at h <;> first | contradiction | skip
  rename_i q; cases q
  try simp only [Bool.and_eq_true, decide_eq_true_eq] at h
  exact ⟨_, _, _, _, _, rfl, h⟩
theorem mI_zip {C : MC} {sc : Scope} {l : Expr} {k : Bool} {a b : E} (h : mI C sc (.zip a b) l k = true) : ∃ f p2 y z p, l = .Call (.Name f p2) [y, z] [] p ∧ (((k = true ∧ f = ("zip" : Str)) ∧ gloB sc f = true) ∧ mE C sc a y = true) ∧ mE C sc b z = true := by
  unfold mI at h
  split at h <;> first | contradiction | skip
  rename_i q; cases q
  try simp only [Bool.and_eq_true, decide_eq_true_eq] at h
  exact ⟨_, _, _, _, _, rfl, h⟩
theorem mI_rngD {C : MC} {sc : Scope} {l : Expr} {k : Bool} {a : E} (h : mI C sc (.rngD a) l k = true) : ∃ f p2 y k1 p3 p4 k2 p5 p6 p, l = .Call (.Name f p2) [y, .UnaryOp .USub (.Constant (.int 1) k1 p3) p4, .UnaryOp .USub (.Constant (.int 1) k2 p5) p6] [] p ∧ (f = ("range" : Str) ∧ gloB sc f = true) ∧ mE C sc a y = true := by
  unfold mI at h
  split at h <;> first | contradiction | skip
  rename_i q; cases q
  try simp only [Bool.and_eq_true, decide_eq_true_eq] at h
  exact ⟨_, _, _, _, _, _, _, _, _, _, rfl, h⟩
theorem mI_enum {C : MC} {sc : Scope} {l : Expr} {k : Bool} {a : E} (h : mI C sc (.enum a) l k = true) : ∃ f p2 y p, l = .Call (.Name f p2) [y] [] p ∧ ((k = true ∧ f = ("enumerate" : Str)) ∧ gloB sc f = true) ∧ mE C sc a y = true := by
  unfold mI at h
  split at h <;> first | contradiction | skip
  rename_i q; cases q
  try simp only [Bool.and_eq_true, decide_eq_true_eq] at h
  exact ⟨_, _, _, _, rfl, h⟩
theorem mI_seq {C : MC} {sc : Scope} {l : Expr} {k : Bool} {a : E} (h : mI C sc (.seq a) l k = true) : mE C sc a l = true := by
  rw [mI] at h; exact h
theorem mE_non {C : MC} {sc : Scope} {e : Expr} (h : mE C sc .non e = true) : ∃ k p, e = .Constant .none k p := by
  unfold mE at h
  split at h <;> first | contradiction | skip
  exact ⟨_, _, rfl⟩
theorem mEs_nil {C : MC} {sc : Scope} {l : List Expr} (h : mEs C sc .nil l = true) : l = [] := by
  unfold mEs at h
  split at h <;> first | contradiction | rfl
theorem mEo_none {C : MC} {sc : Scope} {l : Option Expr} (h : mEo C sc .none l = true) : l = none := by
  unfold mEo at h
  split at h <;> first | contradiction | rfl
theorem mEc_none {C : MC} {sc : Scope} {l : List Expr} (h : mEc C sc .none l = true) : l = [] := by
  unfold mEc at h
  split at h <;> first | contradiction | rfl
theorem mE_kBor {C : MC} {sc : Scope} {e : Expr} {i : Nat} {a : E} (h : mE C sc (.kBor i a) e = true) : mE C sc a e = true := by
  rw [mE, Bool.and_eq_true] at h; exact h.2
theorem mE_bor {C : MC} {sc : Scope} {e : Expr} {i : Nat} {a : E} (h : mE C sc (.bor i a) e = true) : mE C sc a e = true := by
  rw [mE] at h; exact h
end Py
end
section
set_option Elab.async false
set_option linter.all false
set_option maxRecDepth 100000
namespace Py
open PySem L2
abbrev FnS : Type := Nat → List D → Store → Option (D × Store)
abbrev GlS : Type := Nat → Option D
/-- what a def promises, by its function on data -/
def spF (K : PySem.W.Frag) (φ : List D → Store → Option (D × Store)) : Sp := fun vs H Q _ => ∃ F ρ μ ds d μ', Same F H ∧ Cells K F H ρ μ ∧ DrL K F ρ vs ds ∧ φ ds μ = some (d, μ') ∧
  ∀ v F' H' ρ', Ext F H ρ F' H' ρ' → Same F' H' → Cells K F' H' ρ' μ' → Dr K F' ρ' v d → Q v H'
def biAll : List Str := ["len", "abs", "max", "min", "sum", "tuple", "list", "int", "range", "zip", "enumerate", "isinstance", "bool", "str"]
/-- where the text is served -/
structure CG (C : MC) (Φ : FnS) (Γ : GlS) (k : Nat) (X : Cx) (sc : Scope) : Prop where
  hN : X.N = C.N
  nd : X.N.Nodup
  calm : X.calm = true
  room : Room k X.A
  loc : ∀ x, sc.names.lookup x = some .local → X.env.scope.names.lookup x = some .local
  cel : ∀ x, sc.names.lookup x = some .cell → X.env.scope.names.lookup x = some .cell
  fre : ∀ x, sc.names.lookup x = some .free → X.env.scope.names.lookup x = some .cell ∨ X.env.scope.names.lookup x = some .free
  glo : ∀ x, sc.names.lookup x = some .globalImplicit → X.env.scope.names.lookup x = some .globalImplicit
  kind : X.env.scope.kind = .function
  cfn : ∀ x, sc.names.lookup x = some .cell → X.fn x = true
  fns : ∀ f x, C.fns[f]? = some x → ∃ fa fd ps, X.mg x = some (.ref fa) ∧ PySem.W.keepIn X.K (.ref fa) = true ∧ FnOk X.prog X.w X.K X.mg X.base CX0 k fa fd ps (spF X.K (Φ f)) ∧ Binds X.K fd ps []
  gls : ∀ g x d, C.gls[g]? = some x → Γ g = some d → ∃ v u, X.mg x = some u ∧ RelV v u ∧ ∀ F ρ, Dr X.K F ρ v d
  bis : ∀ x ∈ biAll, X.mg x = none
section
variable {C : MC} {Φ : FnS} {Γ : GlS} {k : Nat} {X : Cx} {sc : Scope}
theorem CG.vis (G : CG C Φ Γ k X sc) {x : Str} (h : visB sc x = true) : Vis X.env.scope x := by
  unfold visB at h
  split at h
  · exact .inl (G.loc _ ‹_›)
  · exact .inr (.inl (G.cel _ ‹_›))
  · exact .inr (G.fre _ ‹_›)
  · cases h
theorem CG.locv (G : CG C Φ Γ k X sc) {x : Str} (h : locB sc x = true) : Loc X.env.scope x ∧ (X.fn x = true ∨ X.env.scope.names.lookup x = some .local) := by
  unfold locB at h
  split at h
  · exact ⟨.inl (G.loc _ ‹_›), .inr (G.loc _ ‹_›)⟩
  · exact ⟨.inr (G.cel _ ‹_›), .inl (G.cfn _ ‹_›)⟩
  · cases h
theorem CG.gl (G : CG C Φ Γ k X sc) {x : Str} (h : gloB sc x = true) : Gl X x := by
  unfold gloB at h
  split at h
  · exact G.glo _ ‹_›
  · cases h
theorem CG.bi (G : CG C Φ Γ k X sc) {x : Str} (h : x ∈ biAll) : X.mg x = none := G.bis x h
theorem okName_1 {x : Str} (h : okName x = true) : (x == ("__debug__" : Str)) = false := by
  unfold okName at h
  simp only [Bool.and_eq_true, Bool.not_eq_true'] at h
  exact h.1
theorem okName_2 {x : Str} (h : okName x = true) : (x == ("__classdict__" : Str)) = false := by
  unfold okName at h
  simp only [Bool.and_eq_true, Bool.not_eq_true'] at h
  exact h.2
theorem lookup_free {sc : Scope} : ∀ {names : List (Str × NameKind)} {x : Str}, names.lookup x = some .free →
    (names.map fun (n, k) => if (k == NameKind.free && sc.kind == .function && sc.names.lookup n == some .cell) then (n, NameKind.cell) else (n, k)).lookup x = some .cell ∨
    (names.map fun (n, k) => if (k == NameKind.free && sc.kind == .function && sc.names.lookup n == some .cell) then (n, NameKind.cell) else (n, k)).lookup x = some .free
  | [], _, h => by simp at h
  | (n, k₀) :: r, x, h => by
    have ih := @lookup_free sc r x
    show List.lookup x ((if (k₀ == NameKind.free && sc.kind == .function && sc.names.lookup n == some .cell) = true then (n, NameKind.cell) else (n, k₀)) :: (r.map _)) = some _ ∨ List.lookup x ((if (k₀ == NameKind.free && sc.kind == .function && sc.names.lookup n == some .cell) = true then (n, NameKind.cell) else (n, k₀)) :: (r.map _)) = some _
    cases hx : x == n with
    | true =>
      simp only [List.lookup_cons, hx] at h
      cases h
      by_cases hc : (NameKind.free == NameKind.free && sc.kind == .function && sc.names.lookup n == some .cell) = true
      · rw [if_pos hc]; left; simp only [List.lookup_cons, hx]
      · rw [if_neg hc]; right; simp only [List.lookup_cons, hx]
    | false =>
      simp only [List.lookup_cons, hx] at h
      by_cases hc : (k₀ == NameKind.free && sc.kind == .function && sc.names.lookup n == some .cell) = true
      · rw [if_pos hc]; simp only [List.lookup_cons, hx]; exact ih h
      · rw [if_neg hc]; simp only [List.lookup_cons, hx]; exact ih h
theorem CG.blk (G : CG C Φ Γ k X sc) {scope : Scope} (hk : scope.kind = .function) (s : Shared) (H : Hp) (Cc : Addr) (cl : List (Str × Addr)) (fp : List Addr) : CG C Φ Γ k (X.blk s H scope (compEnvC scope cl Cc X.env) fp) scope where
  hN := G.hN
  nd := G.nd
  calm := G.calm
  room := G.room
  loc := fun x h => lookup_relS_keep (by decide) h
  cel := fun x h => lookup_relS_keep (by decide) h
  fre := fun x h => lookup_free h
  glo := fun x h => lookup_relS_keep (by decide) h
  kind := hk
  cfn := fun x h => by
    show (scope.names.lookup x == some .cell) = true
    rw [h]; rfl
  fns := G.fns
  gls := G.gls
  bis := G.bis
theorem CG.blkOk (G : CG C Φ Γ k X sc) {scope : Scope} {own : List (Str × Nat)} (h : blkC C.N sc scope own = true) : BlkOk X.N X.env.scope scope own := by
  have b := blkOk_by h
  refine ⟨b.kind, b.uniq, by rw [G.hN]; exact b.ix, fun y hy e => ?_, by rw [G.hN]; exact b.own⟩
  rcases b.free y hy e with q | q
  · exact .inl (G.cel _ q)
  · exact G.fre _ q
end
/-! ### readings by data -/
def RE {α β : Type} (rel : Hp → List Addr → α → β → Prop) (K : PySem.W.Frag) (f : Env → Store → Option (β × Store)) (σ : L2.St) (H : Hp) (Q : α → Hp → Prop) : Prop :=
  ∃ B F ρ env μ d μ', SR K B F H ρ σ env μ ∧ f env μ = some (d, μ') ∧ ∀ v F' H' ρ', Ext F H ρ F' H' ρ' → Same F' H' → Cells K F' H' ρ' μ' → rel F' ρ' v d → Q v H'
section
variable (K : PySem.W.Frag) (Φ : FnS) (Γ : GlS)
def tE (e : E) : TE := RE (fun F ρ v d => Dr K F ρ v d) K (ev Φ Γ e)
def tT (e : E) : TT := RE (fun _ _ (a b : Bool) => a = b) K (evT Φ Γ e)
def tEs (e : Es) : TA := RE (fun F ρ v d => DrL K F ρ v d) K (evs Φ Γ e)
def tO (e : Eo) : TO := RE (fun _ _ (a b : Option Int) => a = b) K (evo Φ Γ e)
def tC (e : Eo) : TT := RE (fun _ _ (a b : Bool) => a = b) K (evc Φ Γ e)
end
theorem PE.imp {X : Cx} {e : Expr} {t t' : TE} (h : PE X e t) (w : ∀ σ H Q, t' σ H Q → t σ H Q) : PE X e t' := ⟨fun pins s σ H Q I q => h.run pins s σ H Q I (w σ H Q q)⟩
theorem PT.imp {X : Cx} {e : Expr} {t t' : TT} (h : PT X e t) (w : ∀ σ H Q, t' σ H Q → t σ H Q) : PT X e t' := ⟨fun pins s σ H Q I q => h.run pins s σ H Q I (w σ H Q q)⟩
theorem PW.imp {X : Cx} {e : Expr} {t t' : TT} (h : PW X e t) (w : ∀ σ H Q, t' σ H Q → t σ H Q) : PW X e t' := ⟨fun wh pins s σ H Q I q => h.run wh pins s σ H Q I (w σ H Q q)⟩
theorem PA.imp {X : Cx} {e : List Expr} {t t' : TA} (h : PA X e t) (w : ∀ σ H Q, t' σ H Q → t σ H Q) : PA X e t' := ⟨fun pos pins s σ H Q I q => h.run pos pins s σ H Q I (w σ H Q q)⟩
theorem PO.imp {X : Cx} {e : Option Expr} {t t' : TO} (h : PO X e t) (w : ∀ σ H Q, t' σ H Q → t σ H Q) : PO X e t' := ⟨fun pins s σ H Q I q => h.run pins s σ H Q I (w σ H Q q)⟩
theorem PTs.imp {X : Cx} {e : List Expr} {t t' : TT} (h : PTs X e t) (w : ∀ σ H Q, t' σ H Q → t σ H Q) : PTs X e t' := ⟨fun pins s σ H Q I q => h.run pins s σ H Q I (w σ H Q q)⟩
section
variable {K : PySem.W.Frag} {B F H : Hp} {ρ : List Addr} {σ : L2.St} {env : Env} {μ μ1 μ2 : Store}
/-- one part, and what follows -/
theorem RE.go {α β : Type} {rel : Hp → List Addr → α → β → Prop} {f : Env → Store → Option (β × Store)} {x : β} {R : α → Hp → Prop} (S : SR K B F H ρ σ env μ) (h : f env μ = some (x, μ1))
    (k : ∀ v F1 H1 ρ1, Ext F H ρ F1 H1 ρ1 → SR K B F1 H1 ρ1 σ env μ1 → rel F1 ρ1 v x → R v H1) : RE rel K f σ H R :=
  ⟨B, F, ρ, env, μ, x, μ1, S, h, fun v F1 H1 ρ1 e1 s1 c1 r1 => k v F1 H1 ρ1 e1 (S.step e1 s1 c1) r1⟩
end
/-- the end of an operation that lays new things -/
theorem fin_px {K : PySem.W.Frag} {F H F1 H1 : Hp} {ρ ρ1 : List Addr} {μ : Store} {d : D} {Q : VK} (post : ∀ v F' H' ρ', Ext F H ρ F' H' ρ' → Same F' H' → Cells K F' H' ρ' μ → Dr K F' ρ' v d → Q v H')
    (e : Ext F H ρ F1 H1 ρ1) (c : Cells K F1 H1 ρ1 μ) : ∀ v F' H', PX F1 H1 F' H' → Dr K F' ρ1 v d → Q v H' := fun v F' H' p r => post v F' H' ρ1 (e.trans p.ext) p.fh (c.px p) r
end Py
end
section
set_option Elab.async false
set_option linter.all false
set_option maxRecDepth 100000
namespace Py
open PySem L2 RZ
/-! ### what is walked -/
def SrcOk (K : PySem.W.Frag) (F : Hp) (ρ : List Addr) (J : It) (ds : List D) : Prop := ∃ (G : Hp → Prop) (Y : Nat → Hp → V → Hp → Prop), Walk J ds.length G Y ∧ (∀ F1 H, Same F F1 → Same F1 H → G H) ∧
  ∀ i x H H' F1, i < ds.length → Same F F1 → Same F1 H → Y i H x H' → ∃ F2 d, PX F1 H F2 H' ∧ ds[i]? = some d ∧ ∀ ρ1, (∀ (j : Nat) (a : Addr), ρ[j]? = some a → ρ1[j]? = some a) → Dr K F2 ρ1 x d
def tI (K : PySem.W.Frag) (Φ : FnS) (Γ : GlS) (it : I) : TI := RE (fun F ρ J ds => SrcOk K F ρ J ds) K (evI Φ Γ it)
theorem PI.imp {X : Cx} {tg e : Expr} {t t' : TI} (h : PI X tg e t) (w : ∀ σ H Q, t' σ H Q → t σ H Q) : PI X tg e t' := ⟨fun pins s σ H Q I q => h.run pins s σ H Q I (w σ H Q q)⟩
section
variable {K : PySem.W.Frag} {F H : Hp} {ρ : List Addr} {a b : Addr} {xs ys : List V} {ds es : List D}
theorem src_at (r : DrL K F ρ xs ds) {i : Nat} {x : V} {H H' F1 : Hp} (hF : Same F F1) (fh : Same F1 H) (y : YAt xs i H x H') :
    ∃ F2 d, PX F1 H F2 H' ∧ ds[i]? = some d ∧ ∀ ρ1, (∀ (j : Nat) (a : Addr), ρ[j]? = some a → ρ1[j]? = some a) → Dr K F2 ρ1 x d := by
  obtain ⟨rfl, e⟩ := y
  obtain ⟨d, h1, h2⟩ := r.getV e
  exact ⟨F1, d, .refl fh, h1, fun ρ1 hp => Dr.mono hF hp _ _ h2⟩
theorem src_list (h : SqL K F a xs) (r : DrL K F ρ xs ds) : SrcOk K F ρ (Itl K a) ds := by
  refine ⟨fun H => SqL K H a xs, YAt xs, ?_, fun F1 H h1 h2 => h2.seq (h1.seq h), fun i x H H' F1 _ hF fh y => src_at r hF fh y⟩
  rw [← r.length]
  exact walk_list
theorem src_tup (h : SqT K F a xs) (r : DrL K F ρ xs ds) : SrcOk K F ρ (Itt K a) ds := by
  refine ⟨fun H => SqT K H a xs, YAt xs, ?_, fun F1 H h1 h2 => same_t h2 (same_t h1 h), fun i x H H' F1 _ hF fh y => src_at r hF fh y⟩
  rw [← r.length]
  exact walk_tup
theorem src_range {lo : Int} {n : Nat} : SrcOk K F ρ (Itr lo n) (rangeD lo n) := by
  have hl : (rangeD lo n).length = n := by unfold rangeD; simp
  refine ⟨fun _ => True, YFn fun i => .int (lo + i), ?_, fun _ _ _ _ => trivial, fun i x H H' F1 hi hF fh y => ?_⟩
  · rw [hl]; exact walk_range
  · obtain ⟨rfl, rfl⟩ := y
    rw [hl] at hi
    refine ⟨F1, .int (lo + i), .refl fh, ?_, fun _ _ => .int _⟩
    unfold rangeD
    simp [hi]
theorem zipD_len (ds es : List D) : (zipD ds es).length = min ds.length es.length := by unfold zipD; simp
theorem zipD_get {ds es : List D} {i : Nat} {x y : D} (h1 : ds[i]? = some x) (h2 : es[i]? = some y) : (zipD ds es)[i]? = some (.tup [x, y]) := by
  unfold zipD
  rw [List.getElem?_map, (List.getElem?_zip_eq_some (z := (x, y))).mpr ⟨h1, h2⟩]
  rfl
theorem src_pair (r : DrL K F ρ xs ds) (r' : DrL K F ρ ys es) {i : Nat} {x : V} {H H' F1 : Hp} (hF : Same F F1) (fh : Same F1 H) (y : YPair (fun i => xs[i]?) (fun i => ys[i]?) i H x H') :
    ∃ F2 d, PX F1 H F2 H' ∧ (zipD ds es)[i]? = some d ∧ ∀ ρ1, (∀ (j : Nat) (a : Addr), ρ[j]? = some a → ρ1[j]? = some a) → Dr K F2 ρ1 x d := by
  obtain ⟨T, v, w, rfl, h1, rfl, h2, h3⟩ := y
  obtain ⟨d, h4, h5⟩ := r.getV h2
  obtain ⟨e, h6, h7⟩ := r'.getV h3
  have P := PX.new_ (o := .tup [v, w]) fh h1
  refine ⟨_, .tup [d, e], P, zipD_get h4 h6, fun ρ1 hp => .tup (.inl (.inl upd_same)) (.cons ?_ (.cons ?_ .nil))⟩
  · exact Dr.mono (hF.trans P.ff) hp _ _ h5
  · exact Dr.mono (hF.trans P.ff) hp _ _ h7
theorem walk_zipT {n : Nat} (hn : n = min xs.length ys.length) : Walk (ItzT K a b) n (fun H => SqT K H a xs ∧ SqT K H b ys) (YPair (fun i => xs[i]?) (fun i => ys[i]?)) := by
  subst hn
  refine ⟨fun i _ hi q => ?_, fun _ q => ⟨xs, ys, q.1, q.2, by omega⟩, fun i H v H' _ q y => ?_⟩
  · have h1 : i < xs.length := by omega
    have h2 : i < ys.length := by omega
    exact ⟨xs, ys, xs[i], ys[i], q.1, q.2, by simp [h1], by simp [h2]⟩
  · obtain ⟨T, x, z, h1, h2, h3, h4, h5⟩ := y
    exact ⟨T, x, z, h1, h2, h3, h4 xs q.1, h5 ys q.2⟩
theorem walk_zipM {n : Nat} (hn : n = min xs.length ys.length) : Walk (ItzM K a b) n (fun H => SqT K H a xs ∧ SqL K H b ys) (YPair (fun i => xs[i]?) (fun i => ys[i]?)) := by
  subst hn
  refine ⟨fun i _ hi q => ?_, fun _ q => ⟨xs, ys, q.1, q.2, by omega⟩, fun i H v H' _ q y => ?_⟩
  · have h1 : i < xs.length := by omega
    have h2 : i < ys.length := by omega
    exact ⟨xs, ys, xs[i], ys[i], q.1, q.2, by simp [h1], by simp [h2]⟩
  · obtain ⟨T, x, z, h1, h2, h3, h4, h5⟩ := y
    exact ⟨T, x, z, h1, h2, h3, h4 xs q.1, h5 ys q.2⟩
theorem src_zipM (h : SqT K F a xs) (h' : SqL K F b ys) (r : DrL K F ρ xs ds) (r' : DrL K F ρ ys es) : SrcOk K F ρ (ItzM K a b) (zipD ds es) := by
  refine ⟨fun H => SqT K H a xs ∧ SqL K H b ys, YPair (fun i => xs[i]?) (fun i => ys[i]?), ?_, fun F1 H h1 h2 => ⟨same_t h2 (same_t h1 h), h2.seq (h1.seq h')⟩, fun i x H H' F1 _ hF fh y => src_pair r r' hF fh y⟩
  exact walk_zipM (by rw [zipD_len, r.length, r'.length])
theorem src_zipL (h : SqL K F a xs) (h' : SqL K F b ys) (r : DrL K F ρ xs ds) (r' : DrL K F ρ ys es) : SrcOk K F ρ (Itz K a b) (zipD ds es) := by
  refine ⟨fun H => SqL K H a xs ∧ SqL K H b ys, YPair (fun i => xs[i]?) (fun i => ys[i]?), ?_, fun F1 H h1 h2 => ⟨h2.seq (h1.seq h), h2.seq (h1.seq h')⟩, fun i x H H' F1 _ hF fh y => src_pair r r' hF fh y⟩
  exact walk_zip (by rw [zipD_len, r.length, r'.length])
theorem src_zipT (h : SqT K F a xs) (h' : SqT K F b ys) (r : DrL K F ρ xs ds) (r' : DrL K F ρ ys es) : SrcOk K F ρ (ItzT K a b) (zipD ds es) := by
  refine ⟨fun H => SqT K H a xs ∧ SqT K H b ys, YPair (fun i => xs[i]?) (fun i => ys[i]?), ?_, fun F1 H h1 h2 => ⟨same_t h2 (same_t h1 h), same_t h2 (same_t h1 h')⟩, fun i x H H' F1 _ hF fh y => src_pair r r' hF fh y⟩
  exact walk_zipT (by rw [zipD_len, r.length, r'.length])
theorem enumD_len : ∀ (k : Nat) (ds : List D), (enumD k ds).length = ds.length
  | _, [] => rfl
  | k, d :: ds => by show (enumD (k + 1) ds).length + 1 = _; rw [enumD_len]; rfl
theorem enumD_get : ∀ {k : Nat} {ds : List D} {i : Nat} {d : D}, ds[i]? = some d → (enumD k ds)[i]? = some (.tup [.int ((k + i : Nat) : Int), d])
  | k, [], i, _, h => by simp at h
  | k, e :: ds, 0, _, h => by simp at h; subst h; rfl
  | k, e :: ds, i + 1, d, h => by
    have h' : ds[i]? = some d := by simpa using h
    have := enumD_get (k := k + 1) h'
    show (enumD (k + 1) ds)[i]? = _
    rw [this, show k + 1 + i = k + (i + 1) by omega]
theorem src_rngD {j : Int} : SrcOk K F ρ (Itc j (-1) (j - -1).toNat) (rangeDn j) := by
  have hl : (rangeDn j).length = (j - -1).toNat := by unfold rangeDn; simp
  refine ⟨fun _ => True, YFn fun i => .int (j + (i : Nat) * (-1)), ?_, fun _ _ _ _ => trivial, fun i x H H' F1 hi hF fh y => ?_⟩
  · rw [hl]; exact walk_rangeC
  · obtain ⟨rfl, rfl⟩ := y
    rw [hl] at hi
    refine ⟨F1, .int (j + (i : Nat) * (-1)), .refl fh, ?_, fun _ _ => .int _⟩
    unfold rangeDn
    have h1 : i < (j + 1).toNat := by omega
    rw [List.getElem?_map, List.getElem?_range h1]
    show some (D.int (j - (i : Nat))) = _
    rw [show j + (i : Int) * (-1) = j - (i : Nat) by omega]
theorem src_enumT (h : SqT K F a xs) (r : DrL K F ρ xs ds) : SrcOk K F ρ (IteT K a) (enumD 0 ds) := by
  refine ⟨fun H => SqT K H a xs, YPair (fun i => some (.int (i : Nat))) (fun i => xs[i]?), ?_, fun F1 H h1 h2 => same_t h2 (same_t h1 h), fun i x H H' F1 _ hF fh y => ?_⟩
  · rw [enumD_len, ← r.length]
    exact walk_enumT
  · obtain ⟨T, v, w, rfl, h1, rfl, h2, h3⟩ := y
    cases h2
    obtain ⟨e, h6, h7⟩ := r.getV h3
    have P := PX.new_ (o := .tup [.int (i : Nat), w]) fh h1
    refine ⟨_, .tup [.int (i : Nat), e], P, by have := enumD_get (k := 0) h6; rwa [Nat.zero_add] at this, fun ρ1 hp => .tup (.inl (.inl upd_same)) (.cons (.int _) (.cons ?_ .nil))⟩
    exact Dr.mono (hF.trans P.ff) hp _ _ h7
theorem src_enum (h : SqL K F a xs) (r : DrL K F ρ xs ds) : SrcOk K F ρ (Ite K a) (enumD 0 ds) := by
  refine ⟨fun H => SqL K H a xs, YPair (fun i => some (.int (i : Nat))) (fun i => xs[i]?), ?_, fun F1 H h1 h2 => h2.seq (h1.seq h), fun i x H H' F1 _ hF fh y => ?_⟩
  · rw [enumD_len, ← r.length]
    exact walk_enum
  · obtain ⟨T, v, w, rfl, h1, rfl, h2, h3⟩ := y
    cases h2
    obtain ⟨e, h6, h7⟩ := r.getV h3
    have P := PX.new_ (o := .tup [.int (i : Nat), w]) fh h1
    refine ⟨_, .tup [.int (i : Nat), e], P, by have := enumD_get (k := 0) h6; rwa [Nat.zero_add] at this, fun ρ1 hp => .tup (.inl (.inl upd_same)) (.cons (.int _) (.cons ?_ .nil))⟩
    exact Dr.mono (hF.trans P.ff) hp _ _ h7
end
/-! ### slots stored -/
section
variable {K : PySem.W.Frag} {B F H : Hp} {ρ : List Addr} {σ σ' : L2.St} {env env' : Env} {μ : Store}
theorem getV_eq {i : Nat} {d : D} (h : getV env i = some d) : env[i]? = some (some (.val d)) := by
  unfold getV at h
  split at h
  · cases h; assumption
  · cases h
theorem getO_eq {i : Nat} {ds : List D} (h : getO env i = some ds) : env[i]? = some (some (.own ds)) := by
  unfold getO at h
  split at h
  · cases h; assumption
  · cases h
theorem getD_eq {i : Nat} {ds : List (NestedKey × D)} (h : getD' env i = some ds) : env[i]? = some (some (.dct true ds)) := by
  unfold getD' at h
  split at h
  · cases h; assumption
  · cases h
theorem getK_eq {i : Nat} {ds : List (NestedKey × D)} (h : getK env i = some ds) : env[i]? = some (some (.dct false ds)) := by
  unfold getK at h
  split at h
  · cases h; assumption
  · cases h
/-- a slot gets a value; whatever it was -/
theorem EnvR.setV (E : EnvR K B F H ρ σ env) {i : Nat} {v : V} {d : D} (r : Dr K F ρ v d) : EnvR K B F H ρ (σ.set i (some v)) (env.set i (some (.val d))) := by
  refine ⟨by rw [List.length_set, List.length_set]; exact E.len, fun j sv h => ?_, fun j l es fs a h1 h2 h3 h4 => ?_, fun j l t u es fs a h1 h2 h3 h4 => ?_⟩
  · by_cases q : i = j
    · subst q
      have hl : i < env.length := by
        by_cases hl : i < env.length
        · exact hl
        · rw [List.getElem?_eq_none (by rw [List.length_set]; omega)] at h; cases h
      rw [List.getElem?_set_self hl] at h
      cases h
      exact ⟨v, List.getElem?_set_self (by rw [E.len]; exact hl), r⟩
    · rw [List.getElem?_set_ne q] at h
      obtain ⟨w, h1, h2⟩ := E.at_ j sv h
      exact ⟨w, by rw [List.getElem?_set_ne q]; exact h1, h2⟩
  · have own_ne : ∀ {j : Nat} {es : List D}, (env.set i (some (.val d)))[j]? = some (some (.own es)) → i ≠ j := fun {j es} h q => by
      subst q
      by_cases hl : i < env.length
      · rw [List.getElem?_set_self hl] at h; cases h
      · rw [List.getElem?_eq_none (by rw [List.length_set]; omega)] at h; cases h
    have n1 := own_ne h1
    have n2 := own_ne h2
    rw [List.getElem?_set_ne n1] at h1 h3
    rw [List.getElem?_set_ne n2] at h2 h4
    exact E.apart j l es fs a h1 h2 h3 h4
  · have own_ne : ∀ {j : Nat} {t : Bool} {es : List (NestedKey × D)}, (env.set i (some (.val d)))[j]? = some (some (.dct t es)) → i ≠ j := fun {j t es} h q => by
      subst q
      by_cases hl : i < env.length
      · rw [List.getElem?_set_self hl] at h; cases h
      · rw [List.getElem?_eq_none (by rw [List.length_set]; omega)] at h; cases h
    have n1 := own_ne h1
    have n2 := own_ne h2
    rw [List.getElem?_set_ne n1] at h1 h3
    rw [List.getElem?_set_ne n2] at h2 h4
    exact E.apd j l t u es fs a h1 h2 h3 h4
/-- a slot is forgotten -/
theorem EnvR.setN (E : EnvR K B F H ρ σ env) {i : Nat} : EnvR K B F H ρ (σ.set i none) (env.set i none) := by
  have ne : ∀ {j : Nat} {sv : SV}, (env.set i none)[j]? = some (some sv) → i ≠ j := fun {j es} h q => by
    subst q
    by_cases hl : i < env.length
    · rw [List.getElem?_set_self hl] at h; cases h
    · rw [List.getElem?_eq_none (by rw [List.length_set]; omega)] at h; cases h
  refine ⟨by rw [List.length_set, List.length_set]; exact E.len, fun j sv h => ?_, fun j l es fs a h1 h2 h3 h4 => ?_, fun j l t u es fs a h1 h2 h3 h4 => ?_⟩
  · have q := ne h
    rw [List.getElem?_set_ne q] at h ⊢
    exact E.at_ j sv h
  · have n1 := ne h1
    have n2 := ne h2
    rw [List.getElem?_set_ne n1] at h1 h3
    rw [List.getElem?_set_ne n2] at h2 h4
    exact E.apart j l es fs a h1 h2 h3 h4
  · have n1 := ne h1
    have n2 := ne h2
    rw [List.getElem?_set_ne n1] at h1 h3
    rw [List.getElem?_set_ne n2] at h2 h4
    exact E.apd j l t u es fs a h1 h2 h3 h4
theorem EnvR.wipe (E : EnvR K B F H ρ σ env) : ∀ vs : List Nat, EnvR K B F H ρ (L2.wipe σ vs) (wipeE env vs)
  | [] => E
  | v :: vs => (EnvR.wipe E vs).setN
theorem SR.setV (S : SR K B F H ρ σ env μ) {i : Nat} {v : V} {d : D} (r : Dr K F ρ v d) : SR K B F H ρ (σ.set i (some v)) (env.set i (some (.val d))) μ := ⟨S.fh, S.cells, S.env.setV r⟩
theorem SR.wipe (S : SR K B F H ρ σ env μ) (vs : List Nat) : SR K B F H ρ (L2.wipe σ vs) (wipeE env vs) μ := ⟨S.fh, S.cells, S.env.wipe vs⟩
/-- two slot lists that agree outside of vs are alike when wiped -/
theorem wipe_get (σ : L2.St) (j : Nat) : ∀ vs : List Nat, (L2.wipe σ vs)[j]? = if j ∈ vs ∧ j < σ.length then some none else σ[j]?
  | [] => by simp [L2.wipe]
  | v :: vs => by
    show ((L2.wipe σ vs).set v none)[j]? = _
    have ih := wipe_get σ j vs
    have hl := wipe_length σ vs
    by_cases q : v = j
    · subst q
      by_cases hj : v < σ.length
      · rw [List.getElem?_set_self (by rw [hl]; exact hj), if_pos ⟨List.mem_cons_self, hj⟩]
      · rw [List.getElem?_eq_none (by rw [List.length_set, hl]; omega), if_neg (fun z => hj z.2), List.getElem?_eq_none (by omega)]
    · rw [List.getElem?_set_ne q, ih]
      have : (j ∈ v :: vs ∧ j < σ.length) ↔ (j ∈ vs ∧ j < σ.length) := by
        simp only [List.mem_cons]
        constructor
        · rintro ⟨h | h, h2⟩
          · exact absurd h.symm q
          · exact ⟨h, h2⟩
        · rintro ⟨h, h2⟩; exact ⟨.inr h, h2⟩
      simp only [this]
theorem wipe_same {vs : List Nat} (hl : σ'.length = σ.length) (h : ∀ j, j ∉ vs → σ'[j]? = σ[j]?) : L2.wipe σ' vs = L2.wipe σ vs := by
  apply List.ext_getElem?
  intro j
  rw [wipe_get, wipe_get, hl]
  by_cases q : j ∈ vs
  · by_cases q2 : j < σ.length
    · rw [if_pos ⟨q, q2⟩, if_pos ⟨q, q2⟩]
    · rw [if_neg (fun z => q2 z.2), if_neg (fun z => q2 z.2), List.getElem?_eq_none (by omega), List.getElem?_eq_none (by omega)]
  · rw [if_neg (fun z => q z.1), if_neg (fun z => q z.1)]
    exact h j q
theorem wipe_idem (σ : L2.St) (vs : List Nat) : L2.wipe (L2.wipe σ vs) vs = L2.wipe σ vs := wipe_same (wipe_length σ vs) fun j hj => by rw [wipe_get, if_neg (fun z => hj z.1)]
end
/-! ### targets -/
def gT (K : PySem.W.Frag) (t : T) : TG := fun v σ H Q => ∃ B F ρ env μ d env', SR K B F H ρ σ env μ ∧ Dr K F ρ v d ∧ asgT t d env = some env' ∧
  ∀ σ', SR K B F H ρ σ' env' μ → σ'.length = σ.length → (∀ j, j ∉ tgS t → σ'[j]? = σ[j]?) → Q σ' H
def gTs (K : PySem.W.Frag) (t : List T) : TGs := fun vs σ H Q => ∃ B F ρ env μ ds env', SR K B F H ρ σ env μ ∧ DrL K F ρ vs ds ∧ asgTs t ds env = some env' ∧
  ∀ σ', SR K B F H ρ σ' env' μ → σ'.length = σ.length → (∀ j, j ∉ tgsS t → σ'[j]? = σ[j]?) → Q σ' H
theorem PG.imp {X : Cx} {e : Expr} {t t' : TG} (h : PG X e t) (w : ∀ v σ H Q, t' v σ H Q → t v σ H Q) : PG X e t' := ⟨fun pins s σ H v u Q I r q => h.run pins s σ H v u Q I r (w v σ H Q q)⟩
theorem PGs.imp {X : Cx} {e : List Expr} {t t' : TGs} (h : PGs X e t) (w : ∀ v σ H Q, t' v σ H Q → t v σ H Q) : PGs X e t' := ⟨fun pins s σ H v u Q I r q => h.run pins s σ H v u Q I r (w v σ H Q q)⟩
theorem mT_form {C : MC} {sc : Scope} {t : T} {e : Expr} (h : mT C sc t e = true) : (∃ x p, e = .Name x p) ∨ ∃ es k p, e = .Tuple es k p := by
  unfold mT at h
  split at h
  · exact .inl ⟨_, _, rfl⟩
  · exact .inr ⟨_, _, _, rfl⟩
  · cases h
theorem assignEach_cons {e : Expr} {es : List Expr} {env : PySem.Env} (h : ∀ v p, e ≠ .Starred v p) : assignEach (e :: es) env = (false, assign e env) :: assignEach es env := by
  cases e <;> first | rfl | exact absurd rfl (h _ _)
theorem mT_nostar {C : MC} {sc : Scope} {t : T} {e : Expr} (h : mT C sc t e = true) : ∀ v p, e ≠ .Starred v p := by
  rcases mT_form h with ⟨x, p, rfl⟩ | ⟨es, k, p, rfl⟩ <;> exact fun v p z => nomatch z
theorem assignEach_plain {C : MC} {sc : Scope} {env : PySem.Env} : ∀ {ts : List T} {es : List Expr}, mTs C sc ts es = true → (assignEach es env).length = ts.length ∧ (assignEach es env).findIdx? (·.1) = none ∧ es.length = ts.length
  | [], [], _ => ⟨rfl, rfl, rfl⟩
  | t :: ts, e :: es, h => by
    rw [mTs, Bool.and_eq_true] at h
    obtain ⟨h1, h2, h3⟩ := assignEach_plain (env := env) h.2
    rw [assignEach_cons (mT_nostar h.1)]
    refine ⟨by simp [h1], ?_, by simp [h3]⟩
    rw [List.findIdx?_cons]
    simp [h2]
  | [], _ :: _, h => by rw [mTs] at h <;> first | cases h | (intros; contradiction)
  | _ :: _, [], h => by rw [mTs] at h <;> first | cases h | (intros; contradiction)
section
variable {C : MC} {Φ : FnS} {Γ : GlS} {k : Nat} {X : Cx} {sc : Scope}
theorem pg_or {tg : Expr} {t1 t2 : TG} (h1 : PG X tg t1) (h2 : PG X tg t2) : PG X tg (fun v σ H Q => t1 v σ H Q ∨ t2 v σ H Q) := ⟨fun pins s σ H v u Q I r hw => hw.elim (h1.run pins s σ H v u Q I r) (h2.run pins s σ H v u Q I r)⟩
theorem asgTs_len : ∀ {ts : List T} {ds : List D} {env env' : Env}, asgTs ts ds env = some env' → ds.length = ts.length := by
  intro ts
  induction ts with
  | nil => intro ds env env' h; cases ds with
    | nil => rfl
    | cons d ds => rw [asgTs] at h <;> first | cases h | (intros; contradiction)
  | cons t ts ih => intro ds env env' h; cases ds with
    | nil => rw [asgTs] at h <;> first | cases h | (intros; contradiction)
    | cons d ds =>
      rw [asgTs] at h
      obtain ⟨e1, _, h2⟩ := Option.bind_eq_some_iff.mp h
      rw [List.length_cons, List.length_cons, ih h2]
mutual
theorem pgT (G : CG C Φ Γ k X sc) : ∀ (t : T) (e : Expr), mT C sc t e = true → PG X e (gT X.K t)
  | .nm i, e, h => by
    unfold mT at h
    split at h <;> first | contradiction | skip
    rename_i q; cases q
    simp only [Bool.and_eq_true, decide_eq_true_eq] at h
    obtain ⟨h1, h2⟩ := h
    obtain ⟨l1, l2⟩ := G.locv h2
    refine PG.imp (pg_name G.nd (by rw [G.hN]; exact h1) l1 l2) fun v σ H Q q => ?_
    obtain ⟨B, F, ρ, env, μ, d, env', S, r, ha, q⟩ := q
    unfold asgT Py.setV at ha
    split at ha
    · cases ha
      exact q _ (S.setV r) (by rw [List.length_set]) fun j hj => List.getElem?_set_ne (fun z => hj (by rw [tgS]; simp [z]))
    · cases ha
  | .tp ts, e, h => by
    unfold mT at h
    split at h <;> first | contradiction | skip
    rename_i q; cases q
    obtain ⟨p1, p2, p3⟩ := assignEach_plain (env := X.env) h
    refine PG.imp (pg_or (pg_tup (n := ts.length) G.calm (pgTs G ts _ h) p1 p2) (pg_unl (n := ts.length) G.calm (pgTs G ts _ h) p1 p2)) fun v σ H Q q => ?_
    obtain ⟨B, F, ρ, env, μ, d, env', S, r, ha, q⟩ := q
    cases r with
    | tup r1 r2 =>
      rw [asgT] at ha
      exact .inl ⟨_, _, rfl, same_t S.fh r1, by rw [r2.length]; exact asgTs_len ha, B, F, ρ, env, μ, _, env', S, r2, ha, fun σ' S' hl hj => q σ' S' hl fun j h => hj j (by rw [tgS] at h; exact h)⟩
    | lst r1 r2 =>
      rw [asgT] at ha
      exact .inr ⟨_, _, rfl, .inl (.inl (S.fh _ _ r1)), by rw [r2.length]; exact asgTs_len ha, B, F, ρ, env, μ, _, env', S, r2, ha, fun σ' S' hl hj => q σ' S' hl fun j h => hj j (by rw [tgS] at h; exact h)⟩
    | _ => rw [asgT] at ha <;> first | cases ha | (intros; contradiction)
theorem pgTs (G : CG C Φ Γ k X sc) : ∀ (t : List T) (e : List Expr), mTs C sc t e = true → PGs X e (gTs X.K t)
  | [], [], _ => PGs.imp pgs_nil fun v σ H Q q => by
    obtain ⟨B, F, ρ, env, μ, ds, env', S, r, ha, q⟩ := q
    cases ds with
    | cons d ds => rw [asgTs] at ha <;> first | cases ha | (intros; contradiction)
    | nil =>
      cases r
      rw [asgTs] at ha
      cases ha
      exact ⟨rfl, q σ S rfl fun _ _ => rfl⟩
  | t :: ts, e :: es, h => by
    rw [mTs, Bool.and_eq_true] at h
    refine PGs.imp (pgs_cons (pgT G t e h.1) (pgTs G ts es h.2) (by rw [assignEach_cons (mT_nostar h.1)]; rfl)) fun v σ H Q q => ?_
    obtain ⟨B, F, ρ, env, μ, ds, env', S, r, ha, q⟩ := q
    cases r with
    | nil => rw [asgTs] at ha <;> first | cases ha | (intros; contradiction)
    | cons r1 r2 =>
      rw [asgTs] at ha
      obtain ⟨env1, h1, h2⟩ := Option.bind_eq_some_iff.mp ha
      refine ⟨_, _, rfl, B, F, ρ, env, μ, _, env1, S, r1, h1, fun σ1 S1 l1 j1 => ⟨B, F, ρ, env1, μ, _, env', S1, r2, h2, fun σ2 S2 l2 j2 => q σ2 S2 (l2.trans l1) fun j hj => ?_⟩⟩
      rw [tgsS, List.mem_append] at hj
      exact (j2 j fun z => hj (.inr z)).trans (j1 j fun z => hj (.inl z))
  | [], _ :: _, h => by rw [mTs] at h <;> first | cases h | (intros; contradiction)
  | _ :: _, [], h => by rw [mTs] at h <;> first | cases h | (intros; contradiction)
end
end
end Py
end
section
set_option Elab.async false
set_option linter.all false
set_option maxRecDepth 100000
namespace Py
open PySem L2 RZ
section
variable {C : MC} {Φ : FnS} {Γ : GlS} {k : Nat} {X : Cx} {sc : Scope}
theorem s_slot {i : Nat} {x : Str} {p : Pos} (G : CG C Φ Γ k X sc) (h1 : C.N[i]? = some x) (h2 : visB sc x = true) (h3 : okName x = true) : PE X (.Name x p) (tE X.K Φ Γ (.slot i)) := by
  refine PE.imp (pe_var (i := i) (by rw [G.hN]; exact h1) (G.vis h2) (okName_1 h3) (okName_2 h3)) fun σ H Q q => ?_
  obtain ⟨B, F, ρ, env, μ, d, μ', S, he, q⟩ := q
  rw [ev] at he
  obtain ⟨d', h4, h5⟩ := Option.map_eq_some_iff.mp he
  cases h5
  obtain ⟨v, h6, h7⟩ := S.env.at_ _ _ (getV_eq h4)
  exact ⟨v, h6, q v F H ρ .refl S.fh S.cells h7⟩
theorem s_glob {i : Nat} {x : Str} {p : Pos} (G : CG C Φ Γ k X sc) (h1 : C.gls[i]? = some x) (h2 : gloB sc x = true) (h3 : okName x = true) : PE X (.Name x p) (tE X.K Φ Γ (.glob i)) := by
  refine ⟨fun pins s σ H Q I q => ?_⟩
  obtain ⟨B, F, ρ, env, μ, d, μ', S, he, q⟩ := q
  rw [ev] at he
  obtain ⟨d', h4, h5⟩ := Option.map_eq_some_iff.mp he
  cases h5
  obtain ⟨v, u, h6, h7, h8⟩ := G.gls _ _ _ h1 h4
  exact (pe_glob (G.gl h2) h6 h7 (okName_1 h3)).run pins s σ H Q I (q v F H ρ .refl S.fh S.cells (h8 F ρ))
theorem s_int {i : Int} {n : Nat} {p : Pos} : PE X (.Constant (.int i) n p) (tE X.K Φ Γ (.int i)) := PE.imp pe_int fun σ H Q q => by
  obtain ⟨B, F, ρ, env, μ, d, μ', S, he, q⟩ := q
  rw [ev] at he; cases he
  exact q _ F H ρ .refl S.fh S.cells (.int _)
theorem s_bl {i : Bool} {n : Nat} {p : Pos} : PE X (.Constant (.bool i) n p) (tE X.K Φ Γ (.bl i)) := PE.imp pe_bl fun σ H Q q => by
  obtain ⟨B, F, ρ, env, μ, d, μ', S, he, q⟩ := q
  rw [ev] at he; cases he
  exact q _ F H ρ .refl S.fh S.cells (.bl _)
theorem s_non {n : Nat} {p : Pos} : PE X (.Constant .none n p) (tE X.K Φ Γ .non) := PE.imp pe_non fun σ H Q q => by
  obtain ⟨B, F, ρ, env, μ, d, μ', S, he, q⟩ := q
  rw [ev] at he; cases he
  exact q _ F H ρ .refl S.fh S.cells .non
theorem s_str {i : Str} {n : Nat} {p : Pos} : PE X (.Constant (.str i) n p) (tE X.K Φ Γ (.str i)) := PE.imp pe_str fun σ H Q q => by
  obtain ⟨B, F, ρ, env, μ, d, μ', S, he, q⟩ := q
  rw [ev] at he; cases he
  exact q _ F H ρ .refl S.fh S.cells (.str _)
theorem s_bin {a b : E} {x y : Expr} {op : Operator} {p : Pos} (ha : PE X x (tE X.K Φ Γ a)) (hb : PE X y (tE X.K Φ Γ b)) : PE X (.BinOp x op y p) (tE X.K Φ Γ (.bin op a b)) := by
  refine PE.imp (pe_op (op_of X op) ha hb) fun σ H Q q => ?_
  obtain ⟨B, F, ρ, env, μ, d, μ', S, he, q⟩ := q
  rw [ev] at he
  obtain ⟨⟨dx, μ1⟩, h1, h2⟩ := Option.bind_eq_some_iff.mp he
  obtain ⟨⟨dy, μ2⟩, h3, h4⟩ := Option.bind_eq_some_iff.mp h2
  obtain ⟨d', h5, h6⟩ := Option.map_eq_some_iff.mp h4
  cases h6
  refine RE.go S h1 fun v F1 H1 ρ1 e1 S1 r1 => RE.go S1 h3 fun w F2 H2 ρ2 e2 S2 r2 => ?_
  exact binS_ok op F2 H2 ρ2 v w dx dy _ Q S2.fh (r1.ext e2) r2 h5 (fin_px q (e1.trans e2) S2.cells)
theorem s_neg {a : E} {x : Expr} {p : Pos} (ha : PE X x (tE X.K Φ Γ a)) : PE X (.UnaryOp .USub x p) (tE X.K Φ Γ (.neg a)) := by
  refine PE.imp (pe_un un_neg ha) fun σ H Q q => ?_
  obtain ⟨B, F, ρ, env, μ, d, μ', S, he, q⟩ := q
  rw [ev] at he
  obtain ⟨⟨dx, μ1⟩, h1, h2⟩ := Option.bind_eq_some_iff.mp he
  obtain ⟨d', h5, h6⟩ := Option.map_eq_some_iff.mp h2
  cases h6
  refine RE.go S h1 fun v F1 H1 ρ1 e1 S1 r1 => ?_
  unfold asInt at h5
  split at h5
  · cases h5; cases r1
    exact ⟨_, rfl, q _ F1 H1 ρ1 e1 S1.fh S1.cells (.int _)⟩
  · cases h5
theorem s_not {a : E} {x : Expr} {p : Pos} (ha : PE X x (tE X.K Φ Γ a)) : PE X (.UnaryOp .Not x p) (tE X.K Φ Γ (.not a)) := by
  refine ⟨fun pins s σ H Q I q => ?_⟩
  obtain ⟨B, F, ρ, env, μ, d, μ', S, he, q⟩ := q
  rw [ev] at he
  obtain ⟨⟨dx, μ1⟩, h1, h2⟩ := Option.bind_eq_some_iff.mp he
  obtain ⟨b, h5, h6⟩ := Option.map_eq_some_iff.mp h2
  cases h6
  refine PyProof.Rows.UnaryOp_ (thn (ha.run pins s σ H _ I (RE.go (R := fun v H1 => TruV X.K v H1 b ∧ Q (.bl (!b)) H1) S h1 fun v F1 H1 ρ1 e1 S1 r1 => ⟨truS_ok S1.fh r1 h5, q _ F1 H1 ρ1 e1 S1.fh S1.cells (.bl _)⟩)) ?_)
  rintro u s1 ⟨v, H1, I1, r1, h7, h8⟩
  refine PyProof.Rows.not_of (thn (tru_ok pins s1 σ H1 v u (fun c H2 => Q (.bl (!c)) H2) I1 r1 ⟨b, h7, h8⟩) ?_)
  rintro c s2 ⟨H2, I2, q2⟩
  exact ⟨.bl (!c), H2, I2, rfl, q2⟩
theorem s_cmp {a b : E} {x y : Expr} {op : CmpOp} {p : Pos} (G : CG C Φ Γ k X sc) (hm : behindInMarks op y = false) (ha : PE X x (tE X.K Φ Γ a)) (hb : PE X y (tE X.K Φ Γ b)) : PE X (.Compare x [op] [y] p) (tE X.K Φ Γ (.cmp op a b)) := by
  refine PE.imp (pe_cmpR (cmp_of X (by have := G.room.un; omega) op) ha hb hm) fun σ H Q q => ?_
  obtain ⟨B, F, ρ, env, μ, d, μ', S, he, q⟩ := q
  rw [ev] at he
  obtain ⟨⟨dx, μ1⟩, h1, h2⟩ := Option.bind_eq_some_iff.mp he
  obtain ⟨⟨dy, μ2⟩, h3, h4⟩ := Option.bind_eq_some_iff.mp h2
  obtain ⟨d', h5, h6⟩ := Option.map_eq_some_iff.mp h4
  cases h6
  refine RE.go S h1 fun v F1 H1 ρ1 e1 S1 r1 => RE.go S1 h3 fun w F2 H2 ρ2 e2 S2 r2 => ?_
  exact cmpS_ok op S2.fh (r1.ext e2) r2 h5 (q _ F2 H2 ρ2 (e1.trans e2) S2.fh S2.cells (.bl _))
theorem sT_cmp {a b : E} {x y : Expr} {op : CmpOp} {p : Pos} (G : CG C Φ Γ k X sc) (hm : behindInMarks op y = false) (ha : PE X x (tE X.K Φ Γ a)) (hb : PE X y (tE X.K Φ Γ b)) : PT X (.Compare x [op] [y] p) (tT X.K Φ Γ (.cmp op a b)) := by
  refine PT.imp (pt_cmpR (cmp_of X (by have := G.room.un; omega) op) ha hb hm) fun σ H Q q => ?_
  obtain ⟨B, F, ρ, env, μ, d, μ', S, he, q⟩ := q
  rw [evT] at he
  obtain ⟨⟨dx, μ1⟩, h1, h2⟩ := Option.bind_eq_some_iff.mp he
  obtain ⟨⟨dy, μ2⟩, h3, h4⟩ := Option.bind_eq_some_iff.mp h2
  obtain ⟨d', h5, h6⟩ := Option.map_eq_some_iff.mp h4
  cases h6
  refine RE.go S h1 fun v F1 H1 ρ1 e1 S1 r1 => RE.go S1 h3 fun w F2 H2 ρ2 e2 S2 r2 => ?_
  exact cmpS_ok op S2.fh (r1.ext e2) r2 h5 ⟨_, rfl, q _ F2 H2 ρ2 (e1.trans e2) S2.fh S2.cells rfl⟩
theorem s_isN {a : E} {x : Expr} {n : Nat} {p2 p : Pos} (ha : PE X x (tE X.K Φ Γ a)) : PE X (.Compare x [.Is] [.Constant .none n p2] p) (tE X.K Φ Γ (.isN a)) := by
  refine PE.imp (pe_cmp (pc_isN ha) rfl) fun σ H Q q => ?_
  obtain ⟨B, F, ρ, env, μ, d, μ', S, he, q⟩ := q
  rw [ev] at he
  obtain ⟨⟨dx, μ1⟩, h1, h6⟩ := Option.map_eq_some_iff.mp he
  cases h6
  exact RE.go S h1 fun v F1 H1 ρ1 e1 S1 r1 => q _ F1 H1 ρ1 e1 S1.fh S1.cells (by rw [isNon_ok r1]; exact .bl _)
theorem s_notN {a : E} {x : Expr} {n : Nat} {p2 p : Pos} (ha : PE X x (tE X.K Φ Γ a)) : PE X (.Compare x [.IsNot] [.Constant .none n p2] p) (tE X.K Φ Γ (.notN a)) := by
  refine PE.imp (pe_cmp (pc_notN ha) rfl) fun σ H Q q => ?_
  obtain ⟨B, F, ρ, env, μ, d, μ', S, he, q⟩ := q
  rw [ev] at he
  obtain ⟨⟨dx, μ1⟩, h1, h6⟩ := Option.map_eq_some_iff.mp he
  cases h6
  exact RE.go S h1 fun v F1 H1 ρ1 e1 S1 r1 => q _ F1 H1 ρ1 e1 S1.fh S1.cells (by rw [isNon_ok r1]; exact .bl _)
theorem sT_isN {a : E} {x : Expr} {n : Nat} {p2 p : Pos} (ha : PE X x (tE X.K Φ Γ a)) : PT X (.Compare x [.Is] [.Constant .none n p2] p) (tT X.K Φ Γ (.isN a)) := by
  refine PT.imp (pt_cmp (pc_isN ha) rfl) fun σ H Q q => ?_
  obtain ⟨B, F, ρ, env, μ, d, μ', S, he, q⟩ := q
  rw [evT] at he
  obtain ⟨⟨dx, μ1⟩, h1, h6⟩ := Option.map_eq_some_iff.mp he
  cases h6
  exact RE.go S h1 fun v F1 H1 ρ1 e1 S1 r1 => ⟨_, rfl, q _ F1 H1 ρ1 e1 S1.fh S1.cells (isNon_ok r1)⟩
theorem sT_notN {a : E} {x : Expr} {n : Nat} {p2 p : Pos} (ha : PE X x (tE X.K Φ Γ a)) : PT X (.Compare x [.IsNot] [.Constant .none n p2] p) (tT X.K Φ Γ (.notN a)) := by
  refine PT.imp (pt_cmp (pc_notN ha) rfl) fun σ H Q q => ?_
  obtain ⟨B, F, ρ, env, μ, d, μ', S, he, q⟩ := q
  rw [evT] at he
  obtain ⟨⟨dx, μ1⟩, h1, h6⟩ := Option.map_eq_some_iff.mp he
  cases h6
  exact RE.go S h1 fun v F1 H1 ρ1 e1 S1 r1 => ⟨_, rfl, q _ F1 H1 ρ1 e1 S1.fh S1.cells (by rw [isNon_ok r1])⟩
/-- a value's truth, as a test -/
theorem sT_tru {f : Env → Store → Option (D × Store)} {g : Env → Store → Option (Bool × Store)} {x : Expr} (ha : PE X x (RE (fun F ρ v d => Dr X.K F ρ v d) X.K f)) (he : ∀ whole, isTrue x X.env whole = (do let v ← whole; standAt x.pos; holding [v] (truthy v)))
    (hg : ∀ env μ r, g env μ = some r → ∃ d, f env μ = some (d, r.2) ∧ truS d = some r.1) : PT X x (RE (fun _ _ (a b : Bool) => a = b) X.K g) := by
  refine PT.imp (pt_truth ha he) fun σ H Q q => ?_
  obtain ⟨B, F, ρ, env, μ, d, μ', S, h0, q⟩ := q
  obtain ⟨dx, h1, h2⟩ := hg env μ _ h0
  exact RE.go S h1 fun v F1 H1 ρ1 e1 S1 r1 => ⟨d, truS_ok S1.fh r1 h2, q _ F1 H1 ρ1 e1 S1.fh S1.cells rfl⟩
theorem s_ite {a b c : E} {x y z : Expr} {p : Pos} (hc : PT X z (tT X.K Φ Γ c)) (ha : PE X x (tE X.K Φ Γ a)) (hb : PE X y (tE X.K Φ Γ b)) : PE X (.IfExp z x y p) (tE X.K Φ Γ (.ite c a b)) := by
  refine PE.imp (pe_ifExp hc ha hb) fun σ H Q q => ?_
  obtain ⟨B, F, ρ, env, μ, d, μ', S, he, q⟩ := q
  rw [ev] at he
  obtain ⟨⟨dx, μ1⟩, h1, h2⟩ := Option.bind_eq_some_iff.mp he
  refine RE.go S h1 fun v F1 H1 ρ1 e1 S1 r1 => ?_
  cases r1
  cases dx with
  | true => exact iteT (RE.go S1 h2 fun w F2 H2 ρ2 e2 S2 r2 => q w F2 H2 ρ2 (e1.trans e2) S2.fh S2.cells r2)
  | false => exact iteF (RE.go S1 h2 fun w F2 H2 ρ2 e2 S2 r2 => q w F2 H2 ρ2 (e1.trans e2) S2.fh S2.cells r2)
theorem s_tup {es : Es} {xs : List Expr} {n : Nat} {p : Pos} (ha : PA X xs (tEs X.K Φ Γ es)) : PE X (.Tuple xs n p) (tE X.K Φ Γ (.tup es)) := by
  refine PE.imp (pe_tup ha) fun σ H Q q => ?_
  obtain ⟨B, F, ρ, env, μ, d, μ', S, he, q⟩ := q
  rw [ev] at he
  obtain ⟨⟨ds, μ1⟩, h1, h2⟩ := Option.bind_eq_some_iff.mp he
  dsimp only at h2
  split at h2
  · rename_i hz
    cases h2
    exact RE.go S h1 fun v F1 H1 ρ1 e1 S1 r1 => ⟨by rw [sz, r1.length]; exact hz, new_tup S1.fh r1 (fin_px q e1 S1.cells)⟩
  · cases h2
theorem s_lst {es : Es} {xs : List Expr} {p : Pos} (ha : PA X xs (tEs X.K Φ Γ es)) : PE X (.List xs p) (tE X.K Φ Γ (.lst es)) := by
  refine PE.imp (pe_lst ha) fun σ H Q q => ?_
  obtain ⟨B, F, ρ, env, μ, d, μ', S, he, q⟩ := q
  rw [ev] at he
  obtain ⟨⟨ds, μ1⟩, h1, h2⟩ := Option.bind_eq_some_iff.mp he
  dsimp only at h2
  split at h2
  · rename_i hz
    cases h2
    exact RE.go S h1 fun v F1 H1 ρ1 e1 S1 r1 => ⟨by rw [sz, r1.length]; exact hz, new_lst S1.fh r1 (fin_px q e1 S1.cells)⟩
  · cases h2
theorem new_cell {K : PySem.W.Frag} {F H : Hp} {ρ : List Addr} {μ : Store} {xs : List V} {ds : List D} {p : Addr} (fh : Same F H) (c : Cells K F H ρ μ) (r : DrL K F ρ xs ds) (hp : H p = none) :
    Ext F H ρ F (upd H p (.lst xs)) (ρ ++ [p]) ∧ Same F (upd H p (.lst xs)) ∧ Cells K F (upd H p (.lst xs)) (ρ ++ [p]) (μ ++ [ds]) := by
  have fp : F p = none := fh.free hp
  have hup : ∀ (i : Nat) (a : Addr), ρ[i]? = some a → (ρ ++ [p])[i]? = some a := fun i a h => by
    rw [List.getElem?_append_left (List.getElem?_eq_some_iff.mp h).1]; exact h
  have hne : ∀ (i : Nat) (a : Addr), ρ[i]? = some a → a ≠ p := fun i a h z => by
    have hi := (List.getElem?_eq_some_iff.mp h).1
    rw [c.len] at hi
    obtain ⟨_, ys, h2, _⟩ := c.at_ i a μ[i] h (List.getElem?_eq_getElem hi)
    rw [z, hp] at h2; cases h2
  have hcase : ∀ (i : Nat) (a : Addr), (ρ ++ [p])[i]? = some a → ρ[i]? = some a ∨ (i = ρ.length ∧ a = p) := fun i a h => by
    by_cases hi : i < ρ.length
    · rw [List.getElem?_append_left hi] at h; exact .inl h
    · rw [List.getElem?_append_right (by omega)] at h
      have : i - ρ.length = 0 := by
        by_cases q : i - ρ.length = 0
        · exact q
        · rw [List.getElem?_eq_none (by simp; omega)] at h; cases h
      rw [this] at h
      simp at h
      exact .inr ⟨by omega, h.symm⟩
  refine ⟨⟨Same.refl _, fun a o h _ => by rw [upd_ne (ne_of_none h hp)]; exact h, fun a h => ?_, fun a h1 h2 => absurd h1 h2, hup, fun a h => ?_⟩, fh.trans (same_upd' hp), ⟨by simp [c.len], fun i j a h1 h2 => ?_, fun i a es h1 h2 => ?_⟩⟩
  · by_cases q : a = p
    · subst q; exact absurd hp h
    · rw [upd_ne q]; exact h
  · rcases List.mem_append.mp h with h | h
    · exact .inl h
    · simp at h; subst h; exact .inr hp
  · rcases hcase i a h1 with q1 | ⟨q1, q2⟩
    · rcases hcase j a h2 with q3 | ⟨q3, q4⟩
      · exact c.nd i j a q1 q3
      · exact absurd q4 (hne i a q1)
    · rcases hcase j a h2 with q3 | ⟨q3, q4⟩
      · exact absurd q2 (hne j a q3)
      · omega
  · rcases hcase i a h1 with q1 | ⟨q1, q2⟩
    · have hi := (List.getElem?_eq_some_iff.mp q1).1
      rw [List.getElem?_append_left (by rw [← c.len]; exact hi)] at h2
      obtain ⟨z1, ys, z2, z3⟩ := c.at_ i a es q1 h2
      exact ⟨z1, ys, by rw [upd_ne (hne i a q1)]; exact z2, DrL.mono (Same.refl _) hup _ _ z3⟩
    · subst q2
      rw [List.getElem?_append_right (by rw [← c.len]; omega), q1, c.len, Nat.sub_self] at h2
      simp at h2
      subst h2
      exact ⟨fp, xs, upd_same, DrL.mono (Same.refl _) hup _ _ r⟩
theorem s_mlst {es : Es} {xs : List Expr} {p : Pos} (ha : PA X xs (tEs X.K Φ Γ es)) : PE X (.List xs p) (tE X.K Φ Γ (.mlst es)) := by
  refine PE.imp (pe_lst ha) fun σ H Q q => ?_
  obtain ⟨B, F, ρ, env, μ, d, μ', S, he, q⟩ := q
  rw [ev] at he
  obtain ⟨⟨ds, μ1⟩, h1, h2⟩ := Option.bind_eq_some_iff.mp he
  dsimp only at h2
  split at h2
  · rename_i hz
    cases h2
    refine RE.go S h1 fun v F1 H1 ρ1 e1 S1 r1 => ⟨by rw [sz, r1.length]; exact hz, fun p hp => ?_⟩
    obtain ⟨n1, n2, n3⟩ := new_cell S1.fh S1.cells r1 hp
    refine q _ _ _ _ (e1.trans n1) n2 n3 (.mr ?_)
    rw [← S1.cells.len, List.getElem?_append_right (Nat.le_refl _), Nat.sub_self]
    rfl
  · cases h2
theorem plainIx_of {b : Expr} (h : sliceB b = false) : PlainIx b := by
  cases b <;> first | exact fun _ _ => rfl | cases h
theorem s_ix {a b : E} {x y : Expr} {p : Pos} (hs : sliceB y = false) (ha : PE X x (tE X.K Φ Γ a)) (hb : PE X y (tE X.K Φ Γ b)) : PE X (.Subscript x y p) (tE X.K Φ Γ (.ix a b)) := by
  refine PE.imp (pe_ix ix_seq ha hb (plainIx_of hs)) fun σ H Q q => ?_
  obtain ⟨B, F, ρ, env, μ, d, μ', S, he, q⟩ := q
  rw [ev] at he
  obtain ⟨⟨dx, μ1⟩, h1, h2⟩ := Option.bind_eq_some_iff.mp he
  obtain ⟨⟨dy, μ2⟩, h3, h4⟩ := Option.bind_eq_some_iff.mp h2
  obtain ⟨d', h5, h6⟩ := Option.map_eq_some_iff.mp h4
  cases h6
  refine RE.go S h1 fun v F1 H1 ρ1 e1 S1 r1 => RE.go S1 h3 fun w F2 H2 ρ2 e2 S2 r2 => ?_
  exact ixS_ok S2.fh S2.cells (r1.ext e2) r2 h5 fun u r => q u F2 H2 ρ2 (e1.trans e2) S2.fh S2.cells r
theorem s_slc {a : E} {lo hi : Eo} {x : Expr} {l h : Option Expr} {p2 p : Pos} (ha : PE X x (tE X.K Φ Γ a)) (hl : PO X l (tO X.K Φ Γ lo)) (hh : PO X h (tO X.K Φ Γ hi)) : PE X (.Subscript x (.Slice l h none p2) p) (tE X.K Φ Γ (.slc a lo hi)) := by
  refine PE.imp (pe_slice (sl_of X) ha hl hh) fun σ H Q q => ?_
  obtain ⟨B, F, ρ, env, μ, d, μ', S, he, q⟩ := q
  rw [ev] at he
  obtain ⟨⟨dx, μ1⟩, h1, h2⟩ := Option.bind_eq_some_iff.mp he
  obtain ⟨⟨dl, μ2⟩, h3, h4⟩ := Option.bind_eq_some_iff.mp h2
  obtain ⟨⟨dh, μ3⟩, h5, h6⟩ := Option.bind_eq_some_iff.mp h4
  obtain ⟨d', h7, h8⟩ := Option.map_eq_some_iff.mp h6
  cases h8
  refine RE.go S h1 fun v F1 H1 ρ1 e1 S1 r1 => RE.go S1 h3 fun w F2 H2 ρ2 e2 S2 r2 => RE.go S2 h5 fun w' F3 H3 ρ3 e3 S3 r3 => ?_
  cases r2; cases r3
  exact slcS_ok S3.fh ((r1.ext e2).ext e3) h7 (fin_px q ((e1.trans e2).trans e3) S3.cells)
/-- an argument list without stars -/
theorem spliced_plain {env : PySem.Env} {pos : Pos} : ∀ {es : List Expr}, (∀ e ∈ es, ∀ v p, e ≠ .Starred v p) → (backTo pos (starEach es env)).any (·.1) = false
  | [], _ => rfl
  | e :: es, h => by
    rw [starEach_cons (h e List.mem_cons_self)]
    have ih := spliced_plain (env := env) (pos := pos) (es := es) fun e' he => h e' (List.mem_cons_of_mem _ he)
    show (false || (backTo pos (starEach es env)).any (·.1)) = false
    rw [Bool.false_or]
    exact ih
theorem mEs_nostar {C : MC} {sc : Scope} : ∀ {ms : Es} {es : List Expr}, mEs C sc ms es = true → ∀ e ∈ es, ∀ v p, e ≠ .Starred v p
  | .nil, es, h, e, he => by rw [mEs_nil h] at he; cases he
  | .cons m ms, es, h, e, he => by
    obtain ⟨y, ys, rfl, h1, h2⟩ := mEs_cons h
    rcases List.mem_cons.mp he with rfl | he
    · exact (mE_nostar h1).1
    · exact mEs_nostar h2 e he
theorem s_call {f : Nat} {a : E} {es : Es} {x : Str} {y : Expr} {ys : List Expr} {p2 p : Pos} (G : CG C Φ Γ k X sc) (h1 : C.fns[f]? = some x) (h2 : gloB sc x = true) (h3 : okName x = true)
    (ha : PA X (y :: ys) (tEs X.K Φ Γ (.cons a es))) (n1 : ∀ v p, y ≠ .Starred v p) (n2 : ∀ e ∈ ys, ∀ v p, e ≠ .Starred v p) : PE X (.Call (.Name x p2) (y :: ys) [] p) (tE X.K Φ Γ (.call f a es)) := by
  obtain ⟨fa, fd, ps, g1, g2, g3, g4⟩ := G.fns f x h1
  refine PE.imp (pe_call g3 G.room (G.gl h2) g1 g2 g4 .nil pass0 ha (okName_1 h3) (starEach_cons n1) (spliced_plain n2)) fun σ H Q q => ?_
  obtain ⟨B, F, ρ, env, μ, d, μ', S, he, q⟩ := q
  rw [ev] at he
  obtain ⟨⟨dx, μ1⟩, h1, h2⟩ := Option.bind_eq_some_iff.mp he
  obtain ⟨⟨dl, μ2⟩, h3, h4⟩ := Option.bind_eq_some_iff.mp h2
  have h5 : evs Φ Γ (.cons a es) env μ = some (dx :: dl, μ2) := by
    rw [evs, h1]
    show Option.map _ (evs Φ Γ es env μ1) = _
    rw [h3]
    rfl
  refine RE.go S h5 fun v F1 H1 ρ1 e1 S1 r1 => ⟨F1, ρ1, μ2, dx :: dl, d, μ', S1.fh, S1.cells, by rw [List.append_nil]; exact r1, h4, fun w F2 H2 ρ2 e2 s2 c2 r2 => q w F2 H2 ρ2 (e1.trans e2) s2 c2 r2⟩
theorem s_bi {b : Bi} {a : E} {es : Es} {y : Expr} {ys : List Expr} {p2 p : Pos} (G : CG C Φ Γ k X sc) (h2 : gloB sc (biName b) = true)
    (ha : PA X (y :: ys) (tEs X.K Φ Γ (.cons a es))) (n1 : ∀ v p, y ≠ .Starred v p) (n2 : ∀ e ∈ ys, ∀ v p, e ≠ .Starred v p) : PE X (.Call (.Name (biName b) p2) (y :: ys) [] p) (tE X.K Φ Γ (.bi b a es)) := by
  refine PE.imp (pe_bi b (by have := G.room.un; omega) G.calm (G.gl h2) (G.bi (by cases b <;> decide +kernel)) ha n1 (spliced_plain n2)) fun σ H Q q => ?_
  obtain ⟨B, F, ρ, env, μ, d, μ', S, he, q⟩ := q
  rw [ev] at he
  obtain ⟨⟨dx, μ1⟩, h1, h2⟩ := Option.bind_eq_some_iff.mp he
  obtain ⟨⟨dl, μ2⟩, h3, h4⟩ := Option.bind_eq_some_iff.mp h2
  obtain ⟨d', h7, h8⟩ := Option.map_eq_some_iff.mp h4
  cases h8
  have h5 : evs Φ Γ (.cons a es) env μ = some (dx :: dl, μ') := by
    rw [evs, h1]
    show Option.map _ (evs Φ Γ es env μ1) = _
    rw [h3]
    rfl
  exact RE.go S h5 fun v F1 H1 ρ1 e1 S1 r1 => biS_ok b S1.fh S1.cells r1 h7 (fin_px q e1 S1.cells)
theorem s_isi {a : E} {t : Ty} {y : Expr} {p3 p2 p : Pos} (G : CG C Φ Γ k X sc) (h1 : gloB sc "isinstance" = true) (h2 : gloB sc (tyS t) = true) (ha : PE X y (tE X.K Φ Γ a)) (n1 : ∀ v p, y ≠ .Starred v p) :
    PE X (.Call (.Name "isinstance" p2) [y, .Name (tyS t) p3] [] p) (tE X.K Φ Γ (.isi a t)) := by
  have ht : PE X (.Name (tyS t) p3) (L2.tC (.ty (tyN t))) := by
    refine pe_bltn (u := .type (tyN t)) (G.gl h2) (G.bi (by cases t <;> decide +kernel)) (by cases t <;> decide +kernel) rfl (by cases t <;> decide +kernel) (by cases t <;> decide +kernel)
  refine PE.imp (pe_callB call_isi (G.gl h1) (G.bi (by decide +kernel)) (by decide +kernel) (pa_cons ha (pa_cons ht pa_nil (starEach_cons (fun _ _ z => nomatch z))) (starEach_cons n1)) (by decide) (by decide) (starEach_cons n1) (spliced_plain (by simp))) fun σ H Q q => ?_
  obtain ⟨B, F, ρ, env, μ, d, μ', S, he, q⟩ := q
  rw [ev] at he
  obtain ⟨⟨dx, μ1⟩, h1, h2⟩ := Option.bind_eq_some_iff.mp he
  obtain ⟨d', h7, h8⟩ := Option.map_eq_some_iff.mp h2
  cases h8
  exact RE.go S h1 fun v F1 H1 ρ1 e1 S1 r1 => isiS_ok S1.fh r1 h7 (q _ F1 H1 ρ1 e1 S1.fh S1.cells (.bl _))
end
end Py
end
section
set_option Elab.async false
set_option linter.all false
set_option maxRecDepth 100000
set_option maxHeartbeats 4000000
namespace Py
open PySem L2 RZ
section
variable {K : PySem.W.Frag} {F : Hp} {ρ : List Addr}
mutual
theorem keyN_ok : ∀ (d : D) (v : V) (k : NestedKey), Dr K F ρ v d → keyN d = some k → NKey K F k v ∧ nNum k = true
  | .non, _, k, h, e => by cases h; cases e; exact ⟨.none, rfl⟩
  | .int i, _, k, h, e => by cases h; cases e; exact ⟨.num i, rfl⟩
  | .tup ds, _, k, h, e => by
    cases h with
    | tup h1 h2 =>
      rw [keyN] at e
      obtain ⟨ks, e1, e2⟩ := Option.map_eq_some_iff.mp e
      subst e2
      obtain ⟨g1, g2⟩ := keyNs_ok ds _ ks h2 e1
      exact ⟨.tup h1 g1, by rw [nNum]; exact g2⟩
  | .bl _, _, _, _, e => by unfold keyN at e; cases e
  | .str _, _, _, _, e => by unfold keyN at e; cases e
  | .lst _, _, _, _, e => by unfold keyN at e; cases e
  | .scr _, _, _, _, e => by unfold keyN at e; cases e
  | .mr _, _, _, _, e => by unfold keyN at e; cases e
  | .rg _ _, _, _, _, e => by unfold keyN at e; cases e
  | .dk _ _, _, _, _, e => by unfold keyN at e; cases e
theorem keyNs_ok : ∀ (ds : List D) (vs : List V) (ks : List NestedKey), DrL K F ρ vs ds → keyNs ds = some ks → NKeys K F ks vs ∧ nNums ks = true
  | [], _, ks, h, e => by cases h; cases e; exact ⟨.nil, rfl⟩
  | d :: ds, _, ks, h, e => by
    cases h with
    | cons h1 h2 =>
      rw [keyNs] at e
      obtain ⟨k, e1, e2⟩ := Option.bind_eq_some_iff.mp e
      obtain ⟨ks', e3, e4⟩ := Option.map_eq_some_iff.mp e2
      subst e4
      obtain ⟨g1, g2⟩ := keyN_ok d _ k h1 e1
      obtain ⟨g3, g4⟩ := keyNs_ok ds _ ks' h2 e3
      exact ⟨.cons g1 g3, by rw [nNums, g2, g4]; rfl⟩
end
theorem keyS_ok {d : D} {v : V} {k : NestedKey} (h : Dr K F ρ v d) (e : keyS d = some k) : ∃ b, v = .ref b ∧ NKey K F k (.ref b) ∧ k.depth ≤ 8 ∧ nNum k = true := by
  unfold keyS at e
  split at e
  · obtain ⟨k', e1, e2⟩ := Option.bind_eq_some_iff.mp e
    split at e2
    · cases e2
      obtain ⟨g1, g2⟩ := keyN_ok _ _ _ h e1
      cases h with
      | tup h1 h2 => exact ⟨_, rfl, g1, ‹_›, g2⟩
    · cases e2
  · cases e
theorem kd_at : ∀ {ps : List NE} {qs : List (NestedKey × D)}, KD K F ρ ps qs → ∀ k, (nAt ps k).isSome = (dAtS qs k).isSome ∧ ∀ d, dAtS qs k = some d → ∃ v, nAt ps k = some v ∧ Dr K F ρ v d
  | _, _, .nil, k => ⟨rfl, fun d h => by cases h⟩
  | _, _, .cons (a := p) (b := q) h t, k => by
    by_cases e : p.1 = k
    · have e2 : q.1 = k := h.1 ▸ e
      refine ⟨by simp [nAt, dAtS, e, e2], fun d hd => ?_⟩
      simp only [dAtS, List.find?_cons, e2, decide_true, Option.map_some, Option.some.injEq] at hd
      subst hd
      exact ⟨p.2.2, by simp [nAt, e], h.2.2.2.2⟩
    · have e2 : ¬ q.1 = k := fun z => e (h.1.trans z)
      have ih := kd_at t k
      simpa [nAt, dAtS, e, e2] using ih
theorem kd_len : ∀ {ps : List NE} {qs : List (NestedKey × D)}, KD K F ρ ps qs → ps.length = qs.length
  | _, _, .nil => rfl
  | _, _, .cons _ t => by simp [kd_len t]
theorem kd_vals : ∀ {ps : List NE} {qs : List (NestedKey × D)}, KD K F ρ ps qs → DrL K F ρ (ps.map (·.2.2)) (qs.map (·.2))
  | _, _, .nil => .nil
  | _, _, .cons h t => .cons h.2.2.2.2 (kd_vals t)
theorem kd_map {k : NestedKey} {v : V} {d : D} (r : Dr K F ρ v d) : ∀ {ps : List NE} {qs : List (NestedKey × D)}, KD K F ρ ps qs → KD K F ρ (ps.map fun x => if x.1 = k then (x.1, x.2.1, v) else x) (qs.map fun x => if x.1 = k then (x.1, d) else x)
  | _, _, .nil => .nil
  | _, _, .cons (a := p) (b := q) h t => by
    refine .cons ?_ (kd_map r t)
    by_cases e : p.1 = k
    · have e2 : q.1 = k := h.1 ▸ e
      simp only [if_pos e, if_pos e2]
      exact ⟨h.1, h.2.1, h.2.2.1, h.2.2.2.1, r⟩
    · have e2 : ¬ q.1 = k := fun z => e (h.1.trans z)
      simp only [if_neg e, if_neg e2]
      exact h
theorem kd_snoc {p : NE} {q : NestedKey × D} (r : p.1 = q.1 ∧ NKey K F p.1 (.ref p.2.1) ∧ p.1.depth ≤ 8 ∧ nNum p.1 = true ∧ Dr K F ρ p.2.2 q.2) : ∀ {ps : List NE} {qs : List (NestedKey × D)}, KD K F ρ ps qs → KD K F ρ (ps ++ [p]) (qs ++ [q])
  | _, _, .nil => .cons r .nil
  | _, _, .cons h t => .cons h (kd_snoc r t)
theorem kd_put {ps : List NE} {qs : List (NestedKey × D)} {k : NestedKey} {b : Addr} {v : V} {d : D} (h : KD K F ρ ps qs) (kk : NKey K F k (.ref b)) (k8 : k.depth ≤ 8) (kn : nNum k = true) (r : Dr K F ρ v d) : KD K F ρ (nPut ps k b v) (dPutS qs k d) := by
  unfold nPut dPutS
  rw [(kd_at h k).1]
  split
  · exact kd_map r h
  · exact kd_snoc ⟨rfl, kk, k8, kn, r⟩ h
end
def RelD (K : PySem.W.Frag) (F : Hp) (ρ : List Addr) : Option V → Option D → Prop
  | some v, some d => Dr K F ρ v d
  | none, none => True
  | _, _ => False
theorem asInt_eq {d : D} {i : Int} (h : asInt d = some i) : d = .int i := by
  unfold asInt at h
  split at h
  · cases h; rfl
  · cases h
section
variable {C : MC} {Φ : FnS} {Γ : GlS} {k : Nat} {X : Cx} {sc : Scope}
theorem s_chain {a b c : E} {x y z : Expr} {op op' : CmpOp} {p : Pos} (G : CG C Φ Γ k X sc) (hm : lastMarks [op, op'] [y, z] = false) (ha : PE X x (tE X.K Φ Γ a)) (hb : PE X y (tE X.K Φ Γ b)) (hc : PE X z (tE X.K Φ Γ c)) : PE X (.Compare x [op, op'] [y, z] p) (tE X.K Φ Γ (.chain op op' a b c)) := by
  refine PE.imp (pe_chain (cmp_of X (by have := G.room.un; omega) op) (cmp_of X (by have := G.room.un; omega) op') ha hb hc hm) fun σ H Q q => ?_
  obtain ⟨B, F, ρ, env, μ, d, μ', S, he, q⟩ := q
  rw [ev] at he
  obtain ⟨⟨dx, μ1⟩, h1, h2⟩ := Option.bind_eq_some_iff.mp he
  obtain ⟨⟨dy, μ2⟩, h3, h4⟩ := Option.bind_eq_some_iff.mp h2
  obtain ⟨d', h5, h6⟩ := Option.bind_eq_some_iff.mp h4
  refine RE.go S h1 fun v F1 H1 ρ1 e1 S1 r1 => RE.go S1 h3 fun w F2 H2 ρ2 e2 S2 r2 => ?_
  refine cmpS_ok op S2.fh (r1.ext e2) r2 h5 ⟨d', rfl, ?_⟩
  cases d' with
  | true =>
    rw [if_pos rfl] at h6 ⊢
    obtain ⟨⟨dz, μ3⟩, h7, h8⟩ := Option.bind_eq_some_iff.mp h6
    obtain ⟨d2, h9, h10⟩ := Option.map_eq_some_iff.mp h8
    cases h10
    refine RE.go S2 h7 fun u F3 H3 ρ3 e3 S3 r3 => ?_
    exact cmpS_ok op' S3.fh (r2.ext e3) r3 h9 (q _ F3 H3 ρ3 ((e1.trans e2).trans e3) S3.fh S3.cells (.bl _))
  | false =>
    rw [if_neg Bool.false_ne_true] at h6 ⊢
    cases h6
    exact q _ F2 H2 ρ2 (e1.trans e2) S2.fh S2.cells (.bl _)
theorem sT_chain {a b c : E} {x y z : Expr} {op op' : CmpOp} {p : Pos} (G : CG C Φ Γ k X sc) (hm : lastMarks [op, op'] [y, z] = false) (ha : PE X x (tE X.K Φ Γ a)) (hb : PE X y (tE X.K Φ Γ b)) (hc : PE X z (tE X.K Φ Γ c)) : PT X (.Compare x [op, op'] [y, z] p) (tT X.K Φ Γ (.chain op op' a b c)) := by
  refine PT.imp (pt_chain (cmp_of X (by have := G.room.un; omega) op) (cmp_of X (by have := G.room.un; omega) op') ha hb hc hm) fun σ H Q q => ?_
  obtain ⟨B, F, ρ, env, μ, d, μ', S, he, q⟩ := q
  rw [evT] at he
  obtain ⟨⟨dx, μ1⟩, h1, h2⟩ := Option.bind_eq_some_iff.mp he
  obtain ⟨⟨dy, μ2⟩, h3, h4⟩ := Option.bind_eq_some_iff.mp h2
  obtain ⟨d', h5, h6⟩ := Option.bind_eq_some_iff.mp h4
  refine RE.go S h1 fun v F1 H1 ρ1 e1 S1 r1 => RE.go S1 h3 fun w F2 H2 ρ2 e2 S2 r2 => ?_
  refine cmpS_ok op S2.fh (r1.ext e2) r2 h5 ⟨d', rfl, ?_⟩
  cases d' with
  | true =>
    rw [if_pos rfl] at h6 ⊢
    obtain ⟨⟨dz, μ3⟩, h7, h8⟩ := Option.bind_eq_some_iff.mp h6
    obtain ⟨d2, h9, h10⟩ := Option.map_eq_some_iff.mp h8
    cases h10
    refine RE.go S2 h7 fun u F3 H3 ρ3 e3 S3 r3 => ?_
    exact cmpS_ok op' S3.fh (r2.ext e3) r3 h9 ⟨_, rfl, q _ F3 H3 ρ3 ((e1.trans e2).trans e3) S3.fh S3.cells rfl⟩
  | false =>
    rw [if_neg Bool.false_ne_true] at h6 ⊢
    cases h6
    exact ⟨_, rfl, q _ F2 H2 ρ2 (e1.trans e2) S2.fh S2.cells rfl⟩
/-- the dict at a slot -/
theorem dct_at {B F H : Hp} {ρ : List Addr} {σ : L2.St} {env : Env} {μ : Store} {i : Nat} {kvs : List (NestedKey × D)} (S : SR X.K B F H ρ σ env μ) (h : getD' env i = some kvs) :
    ∃ a nes, σ[i]? = some (some (.ref a)) ∧ H a = some (dnO X.prog X.w a nes) ∧ NOk X.K H nes ∧ KD X.K F ρ nes kvs ∧ F a = none ∧ a ∉ ρ ∧ B a = none := by
  obtain ⟨v, h1, a, rfl, h2, h4, h5, h6⟩ := S.env.at_ _ _ (getD_eq h)
  rcases h2 with ⟨_, nes, P, w, h2, h3⟩ | ⟨z, _⟩
  case inr => cases z
  exact ⟨a, nes, h1, by rw [h2, dnO_eq (P' := X.prog) (w' := X.w) h3.num], h3.ok S.fh, h3, h4, h5, h6⟩
theorem s_dAt {i : Nat} {a : E} {y : Str} {x : Expr} {p2 p : Pos} (G : CG C Φ Γ k X sc) (h1 : C.N[i]? = some y) (h2 : visB sc y = true) (h3 : okName y = true) (hs : sliceB x = false) (ha : PE X x (tE X.K Φ Γ a)) : PE X (.Subscript (.Name y p2) x p) (tE X.K Φ Γ (.dAt i a)) := by
  have hv : PE X (.Name y p2) (tVar i) := pe_var (by rw [G.hN]; exact h1) (G.vis h2) (okName_1 h3) (okName_2 h3)
  refine PE.imp (pe_nget (by have := G.room.un; omega) hv ha (by cases x <;> first | exact fun _ _ => rfl | cases hs)) fun σ H Q q => ?_
  obtain ⟨B, F, ρ, env, μ, d, μ', S, he, q⟩ := q
  rw [ev] at he
  obtain ⟨⟨dx, μ1⟩, g1, g2⟩ := Option.bind_eq_some_iff.mp he
  obtain ⟨kvs, g3, g4⟩ := Option.bind_eq_some_iff.mp g2
  obtain ⟨kk, g5, g6⟩ := Option.bind_eq_some_iff.mp g4
  obtain ⟨dv, g7, g8⟩ := Option.map_eq_some_iff.mp g6
  cases g8
  obtain ⟨a0, nes0, j1, _⟩ := dct_at S g3
  refine ⟨_, j1, RE.go S g1 fun v F1 H1 ρ1 e1 S1 r1 => ?_⟩
  obtain ⟨a1, nes, k1, k2, k3, k4, _⟩ := dct_at S1 g3
  rw [j1] at k1; cases k1
  obtain ⟨b, rfl, m1, m2, m3⟩ := keyS_ok r1 g5
  obtain ⟨vv, m4, m5⟩ := (kd_at k4 kk).2 _ g7
  exact ⟨_, b, nes, kk, vv, _, _, rfl, rfl, rfl, rfl, k2, k3, NKey.mono S1.fh _ _ m1, m2, m4, q vv F1 H1 ρ1 e1 S1.fh S1.cells m5⟩
theorem s_dIn {neg : Bool} {i : Nat} {a : E} {y : Str} {x : Expr} {p2 p : Pos} (G : CG C Φ Γ k X sc) (h1 : C.N[i]? = some y) (h2 : visB sc y = true) (h3 : okName y = true) (ha : PE X x (tE X.K Φ Γ a)) : PE X (.Compare x [if neg then .NotIn else .In] [.Name y p2] p) (tE X.K Φ Γ (.dIn neg i a)) := by
  have hv : PE X (.Name y p2) (tVar i) := pe_var (by rw [G.hN]; exact h1) (G.vis h2) (okName_1 h3) (okName_2 h3)
  have hc : PC X (if neg then .NotIn else .In) x (.Name y p2) (tNIn (X := X) (fun b => if neg then !b else b) (tE X.K Φ Γ a) (tVar i)) := by
    cases neg with
    | true => exact pc_nnotin (by have := G.room.un; omega) ha hv
    | false => exact pc_nin (by have := G.room.un; omega) ha hv
  refine PE.imp (pe_cmp hc (by cases neg <;> rfl)) fun σ H Q q => ?_
  obtain ⟨B, F, ρ, env, μ, d, μ', S, he, q⟩ := q
  rw [ev] at he
  obtain ⟨⟨dx, μ1⟩, g1, g2⟩ := Option.bind_eq_some_iff.mp he
  obtain ⟨kvs, g3, g4⟩ := Option.bind_eq_some_iff.mp g2
  obtain ⟨kk, g5, g6⟩ := Option.map_eq_some_iff.mp g4
  cases g6
  refine RE.go S g1 fun v F1 H1 ρ1 e1 S1 r1 => ?_
  obtain ⟨a1, nes, k1, k2, k3, k4, _⟩ := dct_at S1 g3
  obtain ⟨b, rfl, m1, m2, m3⟩ := keyS_ok r1 g5
  refine ⟨_, k1, _, b, nes, kk, _, _, rfl, rfl, rfl, rfl, k2, k3, NKey.mono S1.fh _ _ m1, m2, ?_⟩
  rw [(kd_at k4 kk).1]
  exact q _ F1 H1 ρ1 e1 S1.fh S1.cells (.bl _)
theorem sT_dIn {neg : Bool} {i : Nat} {a : E} {y : Str} {x : Expr} {p2 p : Pos} (G : CG C Φ Γ k X sc) (h1 : C.N[i]? = some y) (h2 : visB sc y = true) (h3 : okName y = true) (ha : PE X x (tE X.K Φ Γ a)) : PT X (.Compare x [if neg then .NotIn else .In] [.Name y p2] p) (tT X.K Φ Γ (.dIn neg i a)) := by
  have hv : PE X (.Name y p2) (tVar i) := pe_var (by rw [G.hN]; exact h1) (G.vis h2) (okName_1 h3) (okName_2 h3)
  have hc : PC X (if neg then .NotIn else .In) x (.Name y p2) (tNIn (X := X) (fun b => if neg then !b else b) (tE X.K Φ Γ a) (tVar i)) := by
    cases neg with
    | true => exact pc_nnotin (by have := G.room.un; omega) ha hv
    | false => exact pc_nin (by have := G.room.un; omega) ha hv
  refine PT.imp (pt_cmp hc (by cases neg <;> rfl)) fun σ H Q q => ?_
  obtain ⟨B, F, ρ, env, μ, d, μ', S, he, q⟩ := q
  rw [evT] at he
  obtain ⟨⟨dx, μ1⟩, g1, g2⟩ := Option.bind_eq_some_iff.mp he
  obtain ⟨kvs, g3, g4⟩ := Option.bind_eq_some_iff.mp g2
  obtain ⟨kk, g5, g6⟩ := Option.map_eq_some_iff.mp g4
  cases g6
  refine RE.go S g1 fun v F1 H1 ρ1 e1 S1 r1 => ?_
  obtain ⟨a1, nes, k1, k2, k3, k4, _⟩ := dct_at S1 g3
  obtain ⟨b, rfl, m1, m2, m3⟩ := keyS_ok r1 g5
  refine ⟨_, k1, _, b, nes, kk, _, _, rfl, rfl, rfl, rfl, k2, k3, NKey.mono S1.fh _ _ m1, m2, _, rfl, ?_⟩
  rw [(kd_at k4 kk).1]
  exact q _ F1 H1 ρ1 e1 S1.fh S1.cells rfl
theorem s_dVals {i : Nat} {y : Str} {p2 p3 ap cp p : Pos} (G : CG C Φ Γ k X sc) (hg : gloB sc "list" = true) (h1 : C.N[i]? = some y) (h2 : visB sc y = true) (h3 : okName y = true) (hl : (ap.endLine == cp.line) = true) : PE X (.Call (.Name "list" p2) [.Call (.Attribute (.Name y p3) "values" ap) [] [] cp] [] p) (tE X.K Φ Γ (.dVals i)) := by
  have hv : PE X (.Name y p3) (tVar i) := pe_var (by rw [G.hN]; exact h1) (G.vis h2) (okName_1 h3) (okName_2 h3)
  have hw := pe_nvals (cpos := cp) hv rfl hl
  refine PE.imp (pe_callTy (call_listN G.calm) (G.gl hg) (G.bi (by decide +kernel)) rfl (pa_cons hw pa_nil rfl)) fun σ H Q q => ?_
  obtain ⟨B, F, ρ, env, μ, d, μ', S, he, q⟩ := q
  rw [ev] at he
  obtain ⟨kvs, g3, g4⟩ := Option.map_eq_some_iff.mp he
  cases g4
  obtain ⟨a1, nes, k1, k2, k3, k4, k5, k6, k7⟩ := dct_at S g3
  refine ⟨_, k1, a1, nes, _, _, rfl, rfl, rfl, k2, k3, fun r hr => ?_⟩
  have na : a1 ≠ r := ne_of_none k2 hr
  refine ⟨r, a1, nes, _, _, rfl, rfl, rfl, upd_same, by rw [upd_ne na]; exact k2, ⟨fun x hx => NKey.mono (same_upd' hr) _ _ (k3.1 x hx), k3.2⟩, fun p' hp' => ?_⟩
  have P1 := PX.new_ (o := nvO r a1) S.fh hr
  exact new_lst P1.fh (DrL.mono P1.ff (fun _ _ h => h) _ _ (kd_vals k4)) (fin_px q P1.ext (S.cells.px P1)) p' hp'
/-! dicts keyed by ints -/
theorem ki_at {K : PySem.W.Frag} {F : Hp} {ρ : List Addr} (i : Int) : ∀ {ps : List (Key × V)} {qs : List (NestedKey × D)}, KI K F ρ ps qs → (valV ps (Sum.inl i)).isSome = (dAtS qs (.num i)).isSome ∧ ∀ d, dAtS qs (.num i) = some d → ∃ v, valV ps (Sum.inl i) = some v ∧ Dr K F ρ v d
  | _, _, .nil => ⟨rfl, fun d h => by cases h⟩
  | _, _, .cons (a := p) (b := q) ⟨⟨j, h1, h2⟩, h3⟩ t => by
    by_cases e : j = i
    · subst e
      have e1 : p.1 = Sum.inl j := h1
      have e2 : q.1 = .num j := h2
      refine ⟨by rw [valV_pos e1]; simp [dAtS, e2], fun d hd => ?_⟩
      simp only [dAtS, List.find?_cons, e2, decide_true, Option.map_some, Option.some.injEq] at hd
      subst hd
      exact ⟨p.2, valV_pos e1, h3⟩
    · have e1 : ¬ p.1 = Sum.inl i := fun z => by rw [h1] at z; cases z; exact e rfl
      have e2 : ¬ q.1 = .num i := fun z => by rw [h2] at z; cases z; exact e rfl
      have ih := ki_at i t
      rw [valV_neg e1]
      simpa [dAtS, e2] using ih
theorem ki_len {K : PySem.W.Frag} {F : Hp} {ρ : List Addr} : ∀ {ps : List (Key × V)} {qs : List (NestedKey × D)}, KI K F ρ ps qs → ps.length = qs.length
  | _, _, .nil => rfl
  | _, _, .cons _ t => by simp [ki_len t]
theorem ki_map {K : PySem.W.Frag} {F : Hp} {ρ : List Addr} {i : Int} {v : V} {d : D} (r : Dr K F ρ v d) : ∀ {ps : List (Key × V)} {qs : List (NestedKey × D)}, KI K F ρ ps qs → KI K F ρ (ps.map fun kv => if kv.1 = Sum.inl i then (kv.1, v) else kv) (qs.map fun x => if x.1 = .num i then (x.1, d) else x)
  | _, _, .nil => .nil
  | _, _, .cons (a := p) (b := q) ⟨⟨j, h1, h2⟩, h3⟩ t => by
    refine .cons ?_ (ki_map r t)
    by_cases e : j = i
    · subst e
      simp only [if_pos h1, if_pos h2]
      exact ⟨⟨j, h1, h2⟩, r⟩
    · have e1 : ¬ p.1 = Sum.inl i := fun z => by rw [h1] at z; cases z; exact e rfl
      have e2 : ¬ q.1 = .num i := fun z => by rw [h2] at z; cases z; exact e rfl
      simp only [if_neg e1, if_neg e2]
      exact ⟨⟨j, h1, h2⟩, h3⟩
theorem ki_snoc {K : PySem.W.Frag} {F : Hp} {ρ : List Addr} {p : Key × V} {q : NestedKey × D} (r : (∃ i : Int, p.1 = Sum.inl i ∧ q.1 = .num i) ∧ Dr K F ρ p.2 q.2) : ∀ {ps : List (Key × V)} {qs : List (NestedKey × D)}, KI K F ρ ps qs → KI K F ρ (ps ++ [p]) (qs ++ [q])
  | _, _, .nil => .cons r .nil
  | _, _, .cons h t => .cons h (ki_snoc r t)
theorem ki_put {K : PySem.W.Frag} {F : Hp} {ρ : List Addr} {i : Int} {v : V} {d : D} {ps : List (Key × V)} {qs : List (NestedKey × D)} (h : KI K F ρ ps qs) (r : Dr K F ρ v d) : KI K F ρ (putK ps (Sum.inl i) v) (dPutS qs (.num i) d) := by
  unfold putK dPutS
  rw [valV_any, (ki_at i h).1]
  split
  · exact ki_map r h
  · exact ki_snoc ⟨⟨i, rfl, rfl⟩, r⟩ h
theorem ki_keys {K : PySem.W.Frag} {F : Hp} {ρ : List Addr} : ∀ {ps : List (Key × V)} {qs : List (NestedKey × D)}, KI K F ρ ps qs → ps.map (·.1) = (qs.map fun p => keyI p.1).map Sum.inl ∧ DrL K F ρ (ps.map (·.2)) (qs.map (·.2))
  | _, _, .nil => ⟨rfl, .nil⟩
  | _, _, .cons (a := p) (b := q) ⟨⟨j, h1, h2⟩, h3⟩ t => by
    obtain ⟨i1, i2⟩ := ki_keys t
    exact ⟨by simp only [List.map_cons, h1, h2, keyI, i1], .cons h3 i2⟩
theorem kfind_ok {K : PySem.W.Frag} {F : Hp} {ρ : List Addr} (j : Int) : ∀ {vs : List (Key × V)} {ks : List Int} {ds : List D}, vs.map (·.1) = ks.map Sum.inl → DrL K F ρ (vs.map (·.2)) ds → RelD K F ρ (valV vs (Sum.inl j)) (kFind ks ds j)
  | [], [], ds, _, _ => by unfold kFind; trivial
  | [], _ :: _, _, h, _ => by simp at h
  | _ :: _, [], _, h, _ => by simp at h
  | p :: vs, k :: ks, ds, h, r => by
    simp only [List.map_cons, List.cons.injEq] at h
    cases r with
    | cons r1 r2 =>
      rename_i d ds
      rw [kFind]
      by_cases e : k = j
      · subst e
        rw [if_pos rfl, valV_pos h.1]
        exact r1
      · have e1 : ¬ p.1 = Sum.inl j := fun z => by rw [h.1] at z; cases z; exact e rfl
        rw [if_neg e, valV_neg e1]
        exact kfind_ok j h.2 r2
theorem dik_at {B F H : Hp} {ρ : List Addr} {σ : L2.St} {env : Env} {μ : Store} {i : Nat} {kvs : List (NestedKey × D)} (S : SR X.K B F H ρ σ env μ) (h : getK env i = some kvs) :
    ∃ a vs, σ[i]? = some (some (.ref a)) ∧ H a = some (.dK vs) ∧ KI X.K F ρ vs kvs ∧ F a = none ∧ a ∉ ρ ∧ B a = none := by
  obtain ⟨v, h1, a, rfl, h2, h4, h5, h6⟩ := S.env.at_ _ _ (getK_eq h)
  rcases h2 with ⟨z, _⟩ | ⟨_, vs, h2, h3⟩
  · cases z
  · exact ⟨a, vs, h1, h2, h3, h4, h5, h6⟩
theorem s_kAt {i : Nat} {a : E} {y : Str} {x : Expr} {p2 p : Pos} (G : CG C Φ Γ k X sc) (h1 : C.N[i]? = some y) (h2 : visB sc y = true) (h3 : okName y = true) (hs : sliceB x = false) (ha : PE X x (tE X.K Φ Γ a)) : PE X (.Subscript (.Name y p2) x p) (tE X.K Φ Γ (.kAt i a)) := by
  have hv : PE X (.Name y p2) (tVar i) := pe_var (by rw [G.hN]; exact h1) (G.vis h2) (okName_1 h3) (okName_2 h3)
  refine PE.imp (pe_dget (by have := G.room.un; omega) hv ha (by cases x <;> first | exact fun _ _ => rfl | cases hs)) fun σ H Q q => ?_
  obtain ⟨B, F, ρ, env, μ, d, μ', S, he, q⟩ := q
  rw [ev] at he
  obtain ⟨⟨dx, μ1⟩, g1, g2⟩ := Option.bind_eq_some_iff.mp he
  obtain ⟨kvs, g3, g4⟩ := Option.bind_eq_some_iff.mp g2
  obtain ⟨j, g5, g6⟩ := Option.bind_eq_some_iff.mp g4
  obtain ⟨dv, g7, g8⟩ := Option.map_eq_some_iff.mp g6
  cases g8
  obtain ⟨a0, vs0, j1, _⟩ := dik_at S g3
  refine ⟨_, j1, RE.go S g1 fun v F1 H1 ρ1 e1 S1 r1 => ?_⟩
  obtain ⟨a1, vs, k1, k2, k3, _⟩ := dik_at S1 g3
  rw [j1] at k1; cases k1
  have e0 := asInt_eq g5
  subst e0
  cases r1
  obtain ⟨vv, m4, m5⟩ := (ki_at j k3).2 _ g7
  exact ⟨_, vv, rfl, by rw [← m4]; exact DGet.k (k := Sum.inl j) k2, q vv F1 H1 ρ1 e1 S1.fh S1.cells m5⟩
theorem s_kGet {a b c : E} {o y z : Expr} {ap cp : Pos} (G : CG C Φ Γ k X sc) (hl : (ap.endLine == cp.line) = true) (hn : isNameB o = true) (ha : PE X o (tE X.K Φ Γ a)) (hb : PE X y (tE X.K Φ Γ b)) (hc : PE X z (tE X.K Φ Γ c)) (n1 : ∀ v p, y ≠ .Starred v p) (n2 : ∀ v p, z ≠ .Starred v p) :
    PE X (.Call (.Attribute o "get" ap) [y, z] [] cp) (tE X.K Φ Γ (.kGet a b c)) := by
  have st : starEach [y, z] X.env = [(false, eval y X.env), (false, eval z X.env)] := by rw [starEach_cons n1, starEach_cons n2]; rfl
  have hm : M2 X o "get" ap y z cp := ⟨(by cases o <;> first | rfl | (cases hn; done)), (by rw [st]; rfl), hl, (by rw [st]; rfl)⟩
  refine PE.imp (pe_dget2 (by have := G.room.un; omega) ha hb hc hm) fun σ H Q q => ?_
  obtain ⟨B, F, ρ, env, μ, d, μ', S, he, q⟩ := q
  rw [ev] at he
  obtain ⟨⟨dx, μ1⟩, g1, g2⟩ := Option.bind_eq_some_iff.mp he
  obtain ⟨⟨dy, μ2⟩, g3, g4⟩ := Option.bind_eq_some_iff.mp g2
  obtain ⟨⟨dz, μ3⟩, g5, g6⟩ := Option.bind_eq_some_iff.mp g4
  obtain ⟨j, g7, g8⟩ := Option.bind_eq_some_iff.mp g6
  have e0 := asInt_eq g7
  subst e0
  split at g8
  case h_2 => cases g8
  rename_i ks ds
  cases g8
  refine RE.go S g1 fun v F1 H1 ρ1 e1 S1 r1 => ?_
  cases r1 with
  | dk w1 w2 w3 =>
    rename_i a0 vs
    refine ⟨a0, rfl, .inl ⟨vs, .inl (S1.fh _ _ w1)⟩, ?_⟩
    refine RE.go S1 g3 fun u F2 H2 ρ2 e2 S2 r2 => RE.go S2 g5 fun t F3 H3 ρ3 e3 S3 r3 => ?_
    cases r2
    have f3 : F3 a0 = some (.dK vs) := (e2.trans e3).ff _ _ w1
    refine ⟨_, DGet.k (k := Sum.inl j) (S3.fh _ _ f3), ?_⟩
    have rr := kfind_ok (K := X.K) (F := F3) (ρ := ρ3) j w2 (w3.ext (e2.trans e3))
    refine q _ F3 H3 ρ3 ((e1.trans e2).trans e3) S3.fh S3.cells ?_
    revert rr
    cases valV vs (Sum.inl j) <;> cases kFind ks ds j <;> intro rr <;> first | exact r3 | exact rr | exact rr.elim
theorem rngS_eq {lo hi : Int} {ds : List D} (h : rngS lo hi = some ds) : (-(2 ^ 62) ≤ lo ∧ lo < 2 ^ 62 ∧ -(2 ^ 62) ≤ hi ∧ hi < 2 ^ 62) ∧ (hi - lo).toNat ≤ SZ ∧ ds = rangeD lo (hi - lo).toNat := by
  unfold rngS at h
  split at h
  · rename_i q
    cases h
    simp only [Bool.and_eq_true, decide_eq_true_eq] at q
    exact ⟨⟨by omega, by omega, by omega, by omega⟩, q.2, rfl⟩
  · cases h
theorem rgV_dr {K : PySem.W.Frag} {F : Hp} {ρ : List Addr} {lo hi : Int} : DrL K F ρ (rgV lo hi) (rangeD lo (hi - lo).toNat) := by
  unfold rgV rangeD
  generalize List.range (hi - lo).toNat = l
  induction l with
  | nil => exact .nil
  | cons x xs ih => exact .cons (.int _) ih
theorem s_rngL {a : E} {x : Expr} {p2 p3 p4 p : Pos} (G : CG C Φ Γ k X sc) (hg : gloB sc "list" = true) (hr : gloB sc "range" = true) (ha : PE X x (tE X.K Φ Γ a)) (n1 : ∀ v p, x ≠ .Starred v p) : PE X (.Call (.Name "list" p2) [.Call (.Name "range" p3) [x] [] p4] [] p) (tE X.K Φ Γ (.rngL a)) := by
  refine PE.imp (pe_listRg G.calm (G.gl hg) (G.bi (by decide +kernel)) (prg_1 (G.gl hr) (G.bi (by decide +kernel)) ha (starEach_cons n1)) rfl) fun σ H Q q => ?_
  obtain ⟨B, F, ρ, env, μ, d, μ', S, he, q⟩ := q
  rw [ev] at he
  obtain ⟨⟨dx, μ1⟩, h1, h2⟩ := Option.bind_eq_some_iff.mp he
  obtain ⟨j, h3, h4⟩ := Option.bind_eq_some_iff.mp h2
  obtain ⟨es, h5, h6⟩ := Option.map_eq_some_iff.mp h4
  cases h6
  refine RE.go S h1 fun v F1 H1 ρ1 e1 S1 r1 => ?_
  have e0 := asInt_eq h3
  subst e0
  cases r1
  obtain ⟨⟨b1, b2, b3, b4⟩, b5, e2⟩ := rngS_eq h5
  subst e2
  refine ⟨j, rfl, ⟨b1, b2, b3, b4, by have : SZ = 2 ^ 24 := rfl; omega⟩, ?_⟩
  exact new_lst S1.fh rgV_dr (fin_px q e1 S1.cells)
theorem s_rngL2 {a b : E} {x y : Expr} {p2 p3 p4 p : Pos} (G : CG C Φ Γ k X sc) (hg : gloB sc "list" = true) (hr : gloB sc "range" = true) (ha : PE X x (tE X.K Φ Γ a)) (hb : PE X y (tE X.K Φ Γ b)) (n1 : ∀ v p, x ≠ .Starred v p) (n2 : ∀ v p, y ≠ .Starred v p) : PE X (.Call (.Name "list" p2) [.Call (.Name "range" p3) [x, y] [] p4] [] p) (tE X.K Φ Γ (.rngL2 a b)) := by
  refine PE.imp (pe_listRg G.calm (G.gl hg) (G.bi (by decide +kernel)) (prg_2 (G.gl hr) (G.bi (by decide +kernel)) ha hb (starEach_cons n1) (starEach_cons n2) (by rw [starEach_cons n2]; rfl)) rfl) fun σ H Q q => ?_
  obtain ⟨B, F, ρ, env, μ, d, μ', S, he, q⟩ := q
  rw [ev] at he
  obtain ⟨⟨dx, μ1⟩, h1, h2⟩ := Option.bind_eq_some_iff.mp he
  obtain ⟨⟨dy, μ2⟩, h1', h2'⟩ := Option.bind_eq_some_iff.mp h2
  obtain ⟨i, h3, h4⟩ := Option.bind_eq_some_iff.mp h2'
  obtain ⟨j, h3', h4'⟩ := Option.bind_eq_some_iff.mp h4
  obtain ⟨es, h5, h6⟩ := Option.map_eq_some_iff.mp h4'
  cases h6
  refine RE.go S h1 fun v F1 H1 ρ1 e1 S1 r1 => RE.go S1 h1' fun w F2 H2 ρ2 e2 S2 r2 => ?_
  have e0 := asInt_eq h3
  subst e0
  have e0' := asInt_eq h3'
  subst e0'
  cases r1
  cases r2
  obtain ⟨⟨b1, b2, b3, b4⟩, b5, e3⟩ := rngS_eq h5
  subst e3
  refine ⟨i, j, rfl, rfl, ⟨b1, b2, b3, b4, by have : SZ = 2 ^ 24 := rfl; omega⟩, ?_⟩
  exact new_lst S2.fh rgV_dr (fin_px q (e1.trans e2) S2.cells)
/-- a range that is held, walked -/
theorem pi_rg {tg l : Expr} {tl : TE} (hl : PE X l tl) : PI X tg l (fun σ H R => tl σ H fun x H1 => ∃ a lo hi, x = .ref a ∧ H1 a = some (.rng lo hi) ∧ (-(2 ^ 62) ≤ lo ∧ lo < 2 ^ 62 ∧ -(2 ^ 62) ≤ hi ∧ hi < 2 ^ 62) ∧ R (Itr lo (hi - lo).toNat) H1) := by
  refine ⟨fun pins s σ H R I h => ?_⟩
  refine thn (hl.run pins s σ H _ I h) fun v s1 ⟨x, H1, I1, r1, q1⟩ => ?_
  obtain ⟨a, lo, hi, e, ha, ⟨h1, h2, h3, h4⟩, q⟩ := q1
  subst e
  cases r1
  obtain ⟨t, u, w, hg⟩ := I1.hok _ _ ha
  refine wpAny_pyIter_range hg (small_one h1 h2 h3 h4) ?_
  refine ⟨s1.heap.objs.size, [s1.heap.objs.size], _, _, H1, rfl, I1.kept (t' := s1.toks) fun b o e => Heap.get?_push_of_some _ e, turn_range _ lo (hi - lo).toNat, ?_, fun b hb => ?_, q⟩
  · have e1 : lo + ((0 : Nat) : Int) * 1 = lo := by simp
    have e2 : (((hi - lo).toNat : Nat) : Int) - ((0 : Nat) : Int) = Builtin.Range.rangeSize lo hi 1 := by rw [rangeSize_one]; split <;> omega
    show IsRangeIter _ _ (lo + ((0 : Nat) : Int) * 1) ((((hi - lo).toNat : Nat) : Int) - ((0 : Nat) : Int)) 1
    rw [e1, e2]
    exact Heap.get?_push_size _ rfl
  · have e : b = s1.heap.objs.size := by simpa using hb
    subst e
    exact I1.fpOk (Nat.le_refl _) (I1.hok.fresh (Nat.le_refl _))
theorem drl_rev {K : PySem.W.Frag} {F : Hp} {ρ : List Addr} : ∀ {xs : List V} {ds : List D}, DrL K F ρ xs ds → DrL K F ρ xs.reverse ds.reverse
  | _, _, .nil => .nil
  | _, _, .cons h t => by
    rw [List.reverse_cons, List.reverse_cons]
    exact (drl_rev t).append (.cons h .nil)
theorem s_rev {a : E} {x : Expr} {n : Nat} {p1 p2 p3 p : Pos} (ha : PE X x (tE X.K Φ Γ a)) : PE X (.Subscript x (.Slice none none (some (.UnaryOp .USub (.Constant (.int 1) n p1) p2)) p3) p) (tE X.K Φ Γ (.rev a)) := by
  refine PE.imp (pe_revL ha) fun σ H Q q => ?_
  obtain ⟨B, F, ρ, env, μ, d, μ', S, he, q⟩ := q
  rw [ev] at he
  obtain ⟨⟨dx, μ1⟩, h1, h2⟩ := Option.bind_eq_some_iff.mp he
  refine RE.go S h1 fun v F1 H1 ρ1 e1 S1 r1 => ?_
  dsimp only at h2
  split at h2
  · cases h2
    cases r1 with
    | lst u1 u2 => exact ⟨_, _, rfl, .inl (.inl (S1.fh _ _ u1)), new_lst S1.fh (drl_rev u2) (fin_px q e1 S1.cells)⟩
  · cases h2
    cases r1 with
    | scr u1 u2 => exact ⟨_, _, rfl, S1.fh.seq u1, new_lst S1.fh (drl_rev u2) (fin_px q e1 S1.cells)⟩
  · cases h2
end
end Py
end
section
set_option Elab.async false
set_option linter.all false
set_option maxRecDepth 100000
namespace Py
open PySem L2 RZ
/-! ### and, or -/
def tAnd (K : PySem.W.Frag) (Φ : FnS) (Γ : GlS) (a : E) (r : Es) : TE := RE (fun F ρ v d => Dr K F ρ v d) K (fun env μ => (ev Φ Γ a env μ).bind fun p => evAnd Φ Γ p.1 r env p.2)
def tOr (K : PySem.W.Frag) (Φ : FnS) (Γ : GlS) (a : E) (r : Es) : TE := RE (fun F ρ v d => Dr K F ρ v d) K (fun env μ => (ev Φ Γ a env μ).bind fun p => evOr Φ Γ p.1 r env p.2)
def tTAnd (K : PySem.W.Frag) (Φ : FnS) (Γ : GlS) (a : E) (r : Es) : TT := RE (fun _ _ (a b : Bool) => a = b) K (fun env μ => (evT Φ Γ a env μ).bind fun p => if p.1 then evTAnd Φ Γ r env p.2 else some (false, p.2))
def tTOr (K : PySem.W.Frag) (Φ : FnS) (Γ : GlS) (a : E) (r : Es) : TT := RE (fun _ _ (a b : Bool) => a = b) K (fun env μ => (evT Φ Γ a env μ).bind fun p => if p.1 then some (true, p.2) else evTOr Φ Γ r env p.2)
section
variable {C : MC} {Φ : FnS} {Γ : GlS} {k : Nat} {X : Cx} {sc : Scope} {a b : E} {r : Es} {x y : Expr} {ys : List Expr} {p : Pos}
theorem s_and1 (ha : PE X x (tE X.K Φ Γ a)) : PE X (.BoolOp .And [x] p) (tAnd X.K Φ Γ a .nil) := by
  refine PE.imp (pe_one ha) fun σ H Q q => ?_
  obtain ⟨B, F, ρ, env, μ, d, μ', S, he, q⟩ := q
  obtain ⟨⟨dx, μ1⟩, h1, h2⟩ := Option.bind_eq_some_iff.mp he
  simp only [evAnd] at h2
  cases h2
  exact ⟨B, F, ρ, env, μ, _, _, S, h1, q⟩
theorem s_and2 (ha : PE X x (tE X.K Φ Γ a)) (hb : PE X (.BoolOp .And (y :: ys) p) (tAnd X.K Φ Γ b r)) : PE X (.BoolOp .And (x :: y :: ys) p) (tAnd X.K Φ Γ a (.cons b r)) := by
  refine PE.imp (pe_and ha hb) fun σ H Q q => ?_
  obtain ⟨B, F, ρ, env, μ, d, μ', S, he, q⟩ := q
  obtain ⟨⟨dx, μ1⟩, h1, h2⟩ := Option.bind_eq_some_iff.mp he
  refine RE.go S h1 fun v F1 H1 ρ1 e1 S1 r1 => ?_
  dsimp only at h2
  unfold evAnd at h2
  split at h2
  · contradiction
  · rename_i _ _ _ _ _ _ q1
    cases q1
    cases r1
    obtain ⟨⟨dy, μ2⟩, h3, h4⟩ := Option.bind_eq_some_iff.mp h2
    refine ⟨true, rfl, iteT ⟨B, F1, ρ1, _, _, d, μ', S1, ?_, fun w F2 H2 ρ2 e2 s2 c2 r2 => q w F2 H2 ρ2 (e1.trans e2) s2 c2 r2⟩⟩
    dsimp only; rw [h3]; exact h4
  · cases h2
    cases r1
    exact ⟨false, rfl, iteF (q _ F1 H1 ρ1 e1 S1.fh S1.cells (.bl _))⟩
  · cases h2
theorem s_or1 (ha : PE X x (tE X.K Φ Γ a)) : PE X (.BoolOp .Or [x] p) (tOr X.K Φ Γ a .nil) := by
  refine PE.imp (pe_one ha) fun σ H Q q => ?_
  obtain ⟨B, F, ρ, env, μ, d, μ', S, he, q⟩ := q
  obtain ⟨⟨dx, μ1⟩, h1, h2⟩ := Option.bind_eq_some_iff.mp he
  simp only [evOr] at h2
  cases h2
  exact ⟨B, F, ρ, env, μ, _, _, S, h1, q⟩
theorem s_or2 (ha : PE X x (tE X.K Φ Γ a)) (hb : PE X (.BoolOp .Or (y :: ys) p) (tOr X.K Φ Γ b r)) : PE X (.BoolOp .Or (x :: y :: ys) p) (tOr X.K Φ Γ a (.cons b r)) := by
  refine PE.imp (pe_or ha hb) fun σ H Q q => ?_
  obtain ⟨B, F, ρ, env, μ, d, μ', S, he, q⟩ := q
  obtain ⟨⟨dx, μ1⟩, h1, h2⟩ := Option.bind_eq_some_iff.mp he
  refine RE.go S h1 fun v F1 H1 ρ1 e1 S1 r1 => ?_
  dsimp only at h2
  unfold evOr at h2
  split at h2
  · contradiction
  · rename_i _ _ _ _ _ _ q1
    cases q1
    cases r1
    obtain ⟨⟨dy, μ2⟩, h3, h4⟩ := Option.bind_eq_some_iff.mp h2
    refine ⟨false, rfl, iteF ⟨B, F1, ρ1, _, _, d, μ', S1, ?_, fun w F2 H2 ρ2 e2 s2 c2 r2 => q w F2 H2 ρ2 (e1.trans e2) s2 c2 r2⟩⟩
    dsimp only; rw [h3]; exact h4
  · cases h2
    cases r1
    exact ⟨true, rfl, iteT (q _ F1 H1 ρ1 e1 S1.fh S1.cells (.bl _))⟩
  · cases h2
theorem sT_and1 (ha : PT X x (tT X.K Φ Γ a)) : PW X (.BoolOp .And [x] p) (tTAnd X.K Φ Γ a .nil) := by
  refine PW.imp (pw_and1 ha) fun σ H Q q => ?_
  obtain ⟨B, F, ρ, env, μ, d, μ', S, he, q⟩ := q
  obtain ⟨⟨dx, μ1⟩, h1, h2⟩ := Option.bind_eq_some_iff.mp he
  refine ⟨B, F, ρ, env, μ, _, _, S, h1, fun w F2 H2 ρ2 e2 s2 c2 r2 => ?_⟩
  dsimp only at h2
  cases dx with
  | true => rw [if_pos rfl, evTAnd] at h2; cases h2; exact q w F2 H2 ρ2 e2 s2 c2 r2
  | false => rw [if_neg Bool.false_ne_true] at h2; cases h2; exact q w F2 H2 ρ2 e2 s2 c2 r2
theorem sT_and2 (ha : PT X x (tT X.K Φ Γ a)) (hb : PW X (.BoolOp .And (y :: ys) p) (tTAnd X.K Φ Γ b r)) : PW X (.BoolOp .And (x :: y :: ys) p) (tTAnd X.K Φ Γ a (.cons b r)) := by
  refine PW.imp (pw_and ha hb) fun σ H Q q => ?_
  obtain ⟨B, F, ρ, env, μ, d, μ', S, he, q⟩ := q
  obtain ⟨⟨dx, μ1⟩, h1, h2⟩ := Option.bind_eq_some_iff.mp he
  refine RE.go S h1 fun v F1 H1 ρ1 e1 S1 r1 => ?_
  cases r1
  dsimp only at h2
  cases dx with
  | true =>
    rw [if_pos rfl, evTAnd] at h2
    exact iteT ⟨B, F1, ρ1, env, μ1, d, μ', S1, h2, fun w F2 H2 ρ2 e2 s2 c2 r2 => q w F2 H2 ρ2 (e1.trans e2) s2 c2 r2⟩
  | false =>
    rw [if_neg Bool.false_ne_true] at h2; cases h2
    exact iteF (q _ F1 H1 ρ1 e1 S1.fh S1.cells rfl)
theorem sT_or1 (ha : PT X x (tT X.K Φ Γ a)) : PW X (.BoolOp .Or [x] p) (tTOr X.K Φ Γ a .nil) := by
  refine PW.imp (pw_or1 ha) fun σ H Q q => ?_
  obtain ⟨B, F, ρ, env, μ, d, μ', S, he, q⟩ := q
  obtain ⟨⟨dx, μ1⟩, h1, h2⟩ := Option.bind_eq_some_iff.mp he
  refine ⟨B, F, ρ, env, μ, _, _, S, h1, fun w F2 H2 ρ2 e2 s2 c2 r2 => ?_⟩
  dsimp only at h2
  cases dx with
  | true => rw [if_pos rfl] at h2; cases h2; exact q w F2 H2 ρ2 e2 s2 c2 r2
  | false => rw [if_neg Bool.false_ne_true, evTOr] at h2; cases h2; exact q w F2 H2 ρ2 e2 s2 c2 r2
theorem sT_or2 (ha : PT X x (tT X.K Φ Γ a)) (hb : PW X (.BoolOp .Or (y :: ys) p) (tTOr X.K Φ Γ b r)) : PW X (.BoolOp .Or (x :: y :: ys) p) (tTOr X.K Φ Γ a (.cons b r)) := by
  refine PW.imp (pw_or ha hb) fun σ H Q q => ?_
  obtain ⟨B, F, ρ, env, μ, d, μ', S, he, q⟩ := q
  obtain ⟨⟨dx, μ1⟩, h1, h2⟩ := Option.bind_eq_some_iff.mp he
  refine RE.go S h1 fun v F1 H1 ρ1 e1 S1 r1 => ?_
  cases r1
  dsimp only at h2
  cases dx with
  | false =>
    rw [if_neg Bool.false_ne_true, evTOr] at h2
    exact iteF ⟨B, F1, ρ1, env, μ1, d, μ', S1, h2, fun w F2 H2 ρ2 e2 s2 c2 r2 => q w F2 H2 ρ2 (e1.trans e2) s2 c2 r2⟩
  | true =>
    rw [if_pos rfl] at h2; cases h2
    exact iteT (q _ F1 H1 ρ1 e1 S1.fh S1.cells rfl)
/-! ### walks -/
theorem s_seq {tg : Expr} (ha : PE X x (tE X.K Φ Γ a)) : PI X tg x (tI X.K Φ Γ (.seq a)) := by
  refine ⟨fun pins s σ H R I q => ?_⟩
  obtain ⟨B, F, ρ, env, μ, ds, μ', S, he, q⟩ := q
  rw [evI] at he
  obtain ⟨⟨dx, μ1⟩, h1, h2⟩ := Option.bind_eq_some_iff.mp he
  dsimp only at h2
  split at h2
  · cases h2
    refine (pi_tup ha).run pins s σ H R I (RE.go S h1 fun v F1 H1 ρ1 e1 S1 r1 => ?_)
    cases r1 with
    | tup r1 r2 => exact ⟨_, rfl, ⟨_, same_t S1.fh r1⟩, q _ F1 H1 ρ1 e1 S1.fh S1.cells (src_tup r1 r2)⟩
  · cases h2
    refine (pi_list ha).run pins s σ H R I (RE.go S h1 fun v F1 H1 ρ1 e1 S1 r1 => ?_)
    cases r1 with
    | lst r1 r2 => exact ⟨_, rfl, ⟨_, .inl (.inl (S1.fh _ _ r1))⟩, q _ F1 H1 ρ1 e1 S1.fh S1.cells (src_list (.inl (.inl r1)) r2)⟩
  · cases h2
    refine (pi_list ha).run pins s σ H R I (RE.go S h1 fun v F1 H1 ρ1 e1 S1 r1 => ?_)
    cases r1 with
    | scr r1 r2 => exact ⟨_, rfl, ⟨_, S1.fh.seq r1⟩, q _ F1 H1 ρ1 e1 S1.fh S1.cells (src_list r1 r2)⟩
  · obtain ⟨es, h5, h6⟩ := Option.map_eq_some_iff.mp h2
    cases h6
    obtain ⟨⟨b1, b2, b3, b4⟩, b5, e3⟩ := rngS_eq h5
    subst e3
    refine (pi_rg ha).run pins s σ H R I (RE.go S h1 fun v F1 H1 ρ1 e1 S1 r1 => ?_)
    cases r1 with
    | rg r1 => exact ⟨_, _, _, rfl, S1.fh _ _ r1, ⟨b1, b2, b3, b4⟩, q _ F1 H1 ρ1 e1 S1.fh S1.cells src_range⟩
  · cases h2
theorem s_rng1 {tg : Expr} {p2 : Pos} (G : CG C Φ Γ k X sc) (hg : gloB sc "range" = true) (ha : PE X x (tE X.K Φ Γ a)) (n1 : ∀ v p, x ≠ .Starred v p) : PI X tg (.Call (.Name "range" p2) [x] [] p) (tI X.K Φ Γ (.rng1 a)) := by
  refine PI.imp (pi_range1 (G.gl hg) (G.bi (by decide +kernel)) (pa_cons ha pa_nil (starEach_cons n1)) (starEach_cons n1)) fun σ H R q => ?_
  obtain ⟨B, F, ρ, env, μ, ds, μ', S, he, q⟩ := q
  rw [evI] at he
  obtain ⟨⟨dx, μ1⟩, h1, h2⟩ := Option.bind_eq_some_iff.mp he
  obtain ⟨j, h3, h4⟩ := Option.bind_eq_some_iff.mp h2
  obtain ⟨es, h5, h6⟩ := Option.map_eq_some_iff.mp h4
  cases h6
  refine RE.go S h1 fun v F1 H1 ρ1 e1 S1 r1 => ?_
  have e0 := asInt_eq h3
  subst e0
  cases r1
  obtain ⟨⟨b1, b2, b3, b4⟩, _, e2⟩ := rngS_eq h5
  subst e2
  rw [show j - 0 = j by omega] at *
  exact ⟨j, rfl, b3, b4, q _ F1 H1 ρ1 e1 S1.fh S1.cells src_range⟩
theorem s_rng2 {tg : Expr} {p2 : Pos} (G : CG C Φ Γ k X sc) (hg : gloB sc "range" = true) (ha : PE X x (tE X.K Φ Γ a)) (hb : PE X y (tE X.K Φ Γ b)) (n1 : ∀ v p, x ≠ .Starred v p) (n2 : ∀ v p, y ≠ .Starred v p) : PI X tg (.Call (.Name "range" p2) [x, y] [] p) (tI X.K Φ Γ (.rng2 a b)) := by
  refine PI.imp (pi_range2 (G.gl hg) (G.bi (by decide +kernel)) (pa_cons ha (pa_cons hb pa_nil (starEach_cons n2)) (starEach_cons n1)) (by rw [starEach_cons n1, starEach_cons n2]; rfl) (starEach_cons n2)) fun σ H R q => ?_
  obtain ⟨B, F, ρ, env, μ, ds, μ', S, he, q⟩ := q
  rw [evI] at he
  obtain ⟨⟨dx, μ1⟩, h1, h2⟩ := Option.bind_eq_some_iff.mp he
  obtain ⟨⟨dy, μ2⟩, h1', h2'⟩ := Option.bind_eq_some_iff.mp h2
  obtain ⟨i, h3, h4⟩ := Option.bind_eq_some_iff.mp h2'
  obtain ⟨j, h3', h4'⟩ := Option.bind_eq_some_iff.mp h4
  obtain ⟨es, h5, h6⟩ := Option.map_eq_some_iff.mp h4'
  cases h6
  refine RE.go S h1 fun v F1 H1 ρ1 e1 S1 r1 => RE.go S1 h1' fun w F2 H2 ρ2 e2 S2 r2 => ?_
  have e0 := asInt_eq h3
  subst e0
  have e0' := asInt_eq h3'
  subst e0'
  cases r1
  cases r2
  obtain ⟨b1, _, e3⟩ := rngS_eq h5
  subst e3
  exact ⟨i, j, rfl, b1, q _ F2 H2 ρ2 (e1.trans e2) S2.fh S2.cells src_range⟩
theorem s_zip {tg : Expr} {p2 : Pos} (G : CG C Φ Γ k X sc) (hg : gloB sc "zip" = true) (hk : isTup tg = true) (ha : PE X x (tE X.K Φ Γ a)) (hb : PE X y (tE X.K Φ Γ b)) (n1 : ∀ v p, x ≠ .Starred v p) (n2 : ∀ v p, y ≠ .Starred v p) : PI X tg (.Call (.Name "zip" p2) [x, y] [] p) (tI X.K Φ Γ (.zip a b)) := by
  cases tg with
  | Tuple elts kk tpos =>
    have hA := pi_zipA (tpos := tpos) (elts := elts) (kk := kk) (pos := p) (p := p2) (G.gl hg) (G.bi (by decide +kernel)) (pa_cons ha (pa_cons hb pa_nil (starEach_cons n2)) (starEach_cons n1)) (starEach_cons n1) (by rw [starEach_cons n2]; rfl)
    have hM := pi_zipM (tpos := tpos) (elts := elts) (kk := kk) (pos := p) (p := p2) (G.gl hg) (G.bi (by decide +kernel)) (pa_cons ha (pa_cons hb pa_nil (starEach_cons n2)) (starEach_cons n1)) (starEach_cons n1) (by rw [starEach_cons n2]; rfl)
    refine ⟨fun pins s σ H R I q => ?_⟩
    obtain ⟨B, F, ρ, env, μ, ds, μ', S, he, q⟩ := q
    rw [evI] at he
    obtain ⟨⟨dx, μ1⟩, h1, h2⟩ := Option.bind_eq_some_iff.mp he
    obtain ⟨⟨dy, μ2⟩, h1', h2'⟩ := Option.bind_eq_some_iff.mp h2
    dsimp only at h2'
    split at h2'
    · cases h2'
      refine hA.run pins s σ H R I (RE.go S h1 fun v F1 H1 ρ1 e1 S1 r1 => RE.go S1 h1' fun w F2 H2 ρ2 e2 S2 r2 => ?_)
      cases r1 with
      | tup u1 u2 =>
        cases r2 with
        | tup w1 w2 =>
          have v1 := same_t e2.ff u1
          exact ⟨_, _, _, _, rfl, .inr ⟨same_t S2.fh v1, same_t S2.fh w1, q _ F2 H2 ρ2 (e1.trans e2) S2.fh S2.cells (src_zipT v1 w1 (u2.ext e2) w2)⟩⟩
    · cases h2'
      refine hA.run pins s σ H R I (RE.go S h1 fun v F1 H1 ρ1 e1 S1 r1 => RE.go S1 h1' fun w F2 H2 ρ2 e2 S2 r2 => ?_)
      cases r1 with
      | lst u1 u2 =>
        cases r2 with
        | lst w1 w2 =>
          have v1 := e2.ff _ _ u1
          exact ⟨_, _, _, _, rfl, .inl ⟨.inl (.inl (S2.fh _ _ v1)), .inl (.inl (S2.fh _ _ w1)), q _ F2 H2 ρ2 (e1.trans e2) S2.fh S2.cells (src_zipL (.inl (.inl v1)) (.inl (.inl w1)) (u2.ext e2) w2)⟩⟩
    · cases h2'
      refine hM.run pins s σ H R I (RE.go S h1 fun v F1 H1 ρ1 e1 S1 r1 => RE.go S1 h1' fun w F2 H2 ρ2 e2 S2 r2 => ?_)
      cases r1 with
      | tup u1 u2 =>
        cases r2 with
        | lst w1 w2 =>
          have v1 := same_t e2.ff u1
          exact ⟨_, _, _, _, rfl, same_t S2.fh v1, .inl (.inl (S2.fh _ _ w1)), q _ F2 H2 ρ2 (e1.trans e2) S2.fh S2.cells (src_zipM v1 (.inl (.inl w1)) (u2.ext e2) w2)⟩
    · cases h2'
  | _ => cases hk
theorem s_enum {tg : Expr} {p2 : Pos} (G : CG C Φ Γ k X sc) (hg : gloB sc "enumerate" = true) (hk : isTup tg = true) (ha : PE X x (tE X.K Φ Γ a)) (n1 : ∀ v p, x ≠ .Starred v p) : PI X tg (.Call (.Name "enumerate" p2) [x] [] p) (tI X.K Φ Γ (.enum a)) := by
  cases tg with
  | Tuple elts kk tpos =>
    refine PI.imp (pi_enumT (G.gl hg) (G.bi (by decide +kernel)) (pa_cons ha pa_nil (starEach_cons n1)) (starEach_cons n1)) fun σ H R q => ?_
    obtain ⟨B, F, ρ, env, μ, ds, μ', S, he, q⟩ := q
    rw [evI] at he
    obtain ⟨⟨dx, μ1⟩, h1, h2⟩ := Option.bind_eq_some_iff.mp he
    refine RE.go S h1 fun v F1 H1 ρ1 e1 S1 r1 => ?_
    dsimp only at h2
    split at h2
    · cases h2
      cases r1 with
      | lst u1 u2 => exact ⟨_, _, rfl, .inl ⟨.inl (.inl (S1.fh _ _ u1)), q _ F1 H1 ρ1 e1 S1.fh S1.cells (src_enum (.inl (.inl u1)) u2)⟩⟩
    · cases h2
      cases r1 with
      | tup u1 u2 => exact ⟨_, _, rfl, .inr ⟨same_t S1.fh u1, q _ F1 H1 ρ1 e1 S1.fh S1.cells (src_enumT u1 u2)⟩⟩
    · cases h2
  | _ => cases hk
theorem s_rngD {tg : Expr} {n1 n2 : Nat} {p2 p3 p4 p5 p6 : Pos} (G : CG C Φ Γ k X sc) (hg : gloB sc "range" = true) (ha : PE X x (tE X.K Φ Γ a)) (n1' : ∀ v p, x ≠ .Starred v p) : PI X tg (.Call (.Name "range" p2) [x, .UnaryOp .USub (.Constant (.int 1) n1 p3) p4, .UnaryOp .USub (.Constant (.int 1) n2 p5) p6] [] p) (tI X.K Φ Γ (.rngD a)) := by
  have hm : ∀ (n : Nat) (q1 q2 : Pos), PE X (.UnaryOp .USub (.Constant (.int 1) n q1) q2) (tE X.K Φ Γ (.neg (.int 1))) := fun n q1 q2 => s_neg s_int
  refine PI.imp (pi_range3 (G.gl hg) (G.bi (by decide +kernel)) (pa_cons ha (pa_cons (hm n1 p3 p4) (pa_cons (hm n2 p5 p6) pa_nil rfl) rfl) (starEach_cons n1')) (starEach_cons n1') rfl) fun σ H R q => ?_
  obtain ⟨B, F, ρ, env, μ, ds, μ', S, he, q⟩ := q
  rw [evI] at he
  obtain ⟨⟨dx, μ1⟩, h1, h2⟩ := Option.bind_eq_some_iff.mp he
  obtain ⟨j, h3, h4⟩ := Option.bind_eq_some_iff.mp h2
  obtain ⟨es, h5, h6⟩ := Option.map_eq_some_iff.mp h4
  cases h6
  have hv : ∀ μ, ev Φ Γ (.neg (.int 1)) env μ = some (.int (-1), μ) := fun μ => by rw [ev, ev]; rfl
  refine RE.go S h1 fun v F1 H1 ρ1 e1 S1 r1 => RE.go S1 (hv _) fun w F2 H2 ρ2 e2 S2 r2 => RE.go S2 (hv _) fun w3 F3 H3 ρ3 e3 S3 r3 => ?_
  have e0 := asInt_eq h3
  subst e0
  cases r1
  cases r2
  cases r3
  unfold rngDS at h5
  split at h5
  case isFalse => cases h5
  rename_i hb
  cases h5
  simp only [Bool.and_eq_true, decide_eq_true_eq] at hb
  exact ⟨j, -1, -1, (j - -1).toNat, rfl, RgC.neg (by omega) (by omega) (by omega) (by omega), q _ F3 H3 ρ3 ((e1.trans e2).trans e3) S3.fh S3.cells src_rngD⟩
end
end Py
end
section
set_option Elab.async false
set_option linter.all false
set_option maxRecDepth 100000
namespace Py
open PySem L2 RZ
section
variable {K : PySem.W.Frag} {B F H F' H' : Hp} {ρ ρ' : List Addr} {μ : Store} {p : Addr} {o : HO}
theorem write_ok (e : Ext F H ρ F' H' ρ') (fh : Same F' H') (c : Cells K F' H' ρ' μ) (hH : H p = none) (hF : F' p = none) (hρ : p ∉ ρ') : Ext F H ρ F' (upd H' p o) ρ' ∧ Same F' (upd H' p o) ∧ Cells K F' (upd H' p o) ρ' μ := by
  refine ⟨⟨e.ff, fun a u h n => ?_, fun a h => ?_, e.new, e.rr, e.rn⟩, fun a u h => ?_, ⟨c.len, c.nd, fun i a ds h1 h2 => ?_⟩⟩
  · rw [upd_ne (ne_of_none h hH)]; exact e.hh a u h n
  · by_cases q : a = p
    · subst q; exact absurd hH h
    · rw [upd_ne q]; exact e.dm a h
  · rw [upd_ne (ne_of_none h hF)]; exact fh a u h
  · obtain ⟨z1, ys, z2, z3⟩ := c.at_ i a ds h1 h2
    refine ⟨z1, ys, ?_, z3⟩
    rw [upd_ne (fun z => hρ (by rw [← z]; exact List.mem_of_getElem? h1))]
    exact z2
theorem frz_ok (e : Ext F H ρ F' H' ρ') (fh : Same F' H') (c : Cells K F' H' ρ' μ) (hH : H p = none) (h' : H' p = some o) (hF : F' p = none) (hρ : p ∉ ρ') : Ext F H ρ (upd F' p o) H' ρ' ∧ Same (upd F' p o) H' ∧ Cells K (upd F' p o) H' ρ' μ := by
  refine ⟨⟨e.ff.trans (same_upd' hF), e.hh, e.dm, fun a h1 h2 => ?_, e.rr, e.rn⟩, fun a u h => ?_, ⟨c.len, c.nd, fun i a ds h1 h2 => ?_⟩⟩
  · by_cases q : a = p
    · subst q; exact hH
    · rw [upd_ne q] at h2; exact e.new a h1 h2
  · by_cases q : a = p
    · subst q; rw [upd_same] at h; rw [h']; exact h
    · rw [upd_ne q] at h; exact fh a u h
  · obtain ⟨z1, ys, z2, z3⟩ := c.at_ i a ds h1 h2
    refine ⟨?_, ys, z2, DrL.mono (same_upd' hF) (fun _ _ h => h) _ _ z3⟩
    rw [upd_ne (fun z => hρ (by rw [← z]; exact List.mem_of_getElem? h1))]
    exact z1
end
/-- a new list, not yet frozen -/
def tN (K : PySem.W.Frag) (f : Env → Store → Option (List D × Store)) : TE := fun σ H Q => ∃ B F ρ env μ ds μ', SR K B F H ρ σ env μ ∧ f env μ = some (ds, μ') ∧
  ∀ p F' H' ρ' xs, Ext F H ρ F' H' ρ' → Same F' H' → Cells K F' H' ρ' μ' → H' p = some (.lst xs) → H p = none → F' p = none → p ∉ ρ' → DrL K F' ρ' xs ds → Q (.ref p) H'
def lcF (Φ : FnS) (Γ : GlS) (a : E) (t : T) (it : I) (c : Eo) (vs : List Nat) : Env → Store → Option (List D × Store) := fun env μ => (evI Φ Γ it env μ).bind fun (ds, μ1) => if ds.length ≤ SZ then lcS t (fun env' μ' => evc Φ Γ c env' μ') (fun env' μ' => ev Φ Γ a env' μ') (wipeE env vs) ds μ1 else none
theorem tN_freeze {K : PySem.W.Frag} {f : Env → Store → Option (List D × Store)} {g : Env → Store → Option (D × Store)} (hg : ∀ env μ r, g env μ = some r → ∃ ds, r.1 = .lst ds ∧ f env μ = some (ds, r.2)) : ∀ σ H Q, RE (fun F ρ v d => Dr K F ρ v d) K g σ H Q → tN K f σ H Q := by
  intro σ H Q q
  obtain ⟨B, F, ρ, env, μ, d, μ', S, h0, q⟩ := q
  obtain ⟨ds, h1, h2⟩ := hg env μ _ h0
  dsimp only at h1 h2
  subst h1
  refine ⟨B, F, ρ, env, μ, ds, μ', S, h2, fun p F' H' ρ' xs e s c h3 h4 h5 h6 r => ?_⟩
  obtain ⟨w1, w2, w3⟩ := frz_ok e s c h4 h3 h5 h6
  exact q _ _ H' ρ' w1 w2 w3 (.lst upd_same (DrL.mono (same_upd' h5) (fun _ _ h => h) _ _ r))
section
variable {C : MC} {Φ : FnS} {Γ : GlS} {k : Nat} {X : Cx} {sc : Scope}
theorem s_lc {a : E} {t : T} {it : I} {c : Eo} {vs : List Nat} {x tg iter : Expr} {ifs : List Expr} {scope : Scope} {p : Pos} (G : CG C Φ Γ k X sc) (hb : blkC C.N sc scope (vs.map fun i => (C.N.getD i "", i)) = true) (hsub : ∀ j ∈ tgS t, j ∈ vs)
    (hset : ∀ x, foldedSetIterable iter X.env x = pure x) (hi : PI X tg iter (tI X.K Φ Γ it))
    (hg : ∀ (s : Shared) (H : Hp) (Cc : Addr) (cl : List (Str × Addr)) (fp : List Addr), PG (X.blk s H scope (compEnvC scope cl Cc X.env) fp) tg (gT X.K t))
    (ht : ∀ (s : Shared) (H : Hp) (Cc : Addr) (cl : List (Str × Addr)) (fp : List Addr), PTs (X.blk s H scope (compEnvC scope cl Cc X.env) fp) ifs (tC X.K Φ Γ c))
    (he : ∀ (s : Shared) (H : Hp) (Cc : Addr) (cl : List (Str × Addr)) (fp : List Addr), PE (X.blk s H scope (compEnvC scope cl Cc X.env) fp) x (tE X.K Φ Γ a)) :
    (PE X (.ListComp x [⟨tg, iter, ifs, 0⟩] scope p) (tE X.K Φ Γ (.lc a t it c vs)) ∧ PE X (.ListComp x [⟨tg, iter, ifs, 0⟩] scope p) (tN X.K (lcF Φ Γ a t it c vs))) ∧ (∀ σ H Q, tE X.K Φ Γ (.lc a t it c vs) σ H Q → tN X.K (lcF Φ Γ a t it c vs) σ H Q) ∧
      ∀ σ H Q, tN X.K (lcF Φ Γ a t it c vs) σ H Q → tLc (tI X.K Φ Γ it) (gT X.K t) (tC X.K Φ Γ c) (tE X.K Φ Γ a) ((vs.map fun i => (C.N.getD i "", i)).map (·.2)) σ H Q := by
  have fz : ∀ σ H Q, tE X.K Φ Γ (.lc a t it c vs) σ H Q → tN X.K (lcF Φ Γ a t it c vs) σ H Q := by
    refine tN_freeze fun env μ r hr => ?_
    rw [ev] at hr
    obtain ⟨⟨ds, μ1⟩, h1, h2⟩ := Option.bind_eq_some_iff.mp hr
    dsimp only at h2
    split at h2
    case isFalse => cases h2
    rename_i hz
    obtain ⟨⟨xs, μe⟩, h3, h4⟩ := Option.map_eq_some_iff.mp h2
    cases h4
    refine ⟨xs, rfl, ?_⟩
    unfold lcF
    rw [h1]
    dsimp only [Option.bind_some]
    rw [if_pos hz]
    exact h3
  have key : ∀ σ H Q, tN X.K (lcF Φ Γ a t it c vs) σ H Q → tLc (tI X.K Φ Γ it) (gT X.K t) (tC X.K Φ Γ c) (tE X.K Φ Γ a) ((vs.map fun i => (C.N.getD i "", i)).map (·.2)) σ H Q := by
    intro σ H Q q
    have evs_eq : (vs.map fun i => (C.N.getD i "", i)).map (·.2) = vs := by
      rw [List.map_map]
      exact List.map_id _
    rw [evs_eq]
    obtain ⟨B, F, ρ, env, μ, xs, μe, S, h0, q⟩ := q
    unfold lcF at h0
    obtain ⟨⟨ds, μ1⟩, h1, h2⟩ := Option.bind_eq_some_iff.mp h0
    dsimp only at h2
    split at h2
    case isFalse => cases h2
    rename_i hz
    have h3 := h2
    refine RE.go S h1 fun J F1 H1 ρ1 e1 S1 r1 D0 hD => ?_
    obtain ⟨G', Y, W, hG, hY⟩ := r1
    have fD : F1 D0 = none := S1.fh.free hD
    have nD : D0 ∉ ρ1 := fun z => by
      obtain ⟨i, hi, e⟩ := List.getElem_of_mem z
      have hi' := hi
      rw [S1.cells.len] at hi'
      obtain ⟨_, ys, z2, _⟩ := S1.cells.at_ i D0 _ (by rw [List.getElem?_eq_getElem hi, e]) (List.getElem?_eq_getElem hi')
      rw [hD] at z2; cases z2
    have w0 := write_ok (o := .lst []) (Ext.refl (F := F1) (H := H1) (ρ := ρ1)) S1.fh S1.cells hD fD nD
    refine lc_it W (fun i H2 => ∃ F2 ρ2 μ2 acc accd rest, Ext F1 H1 ρ1 F2 H2 ρ2 ∧ Same F2 H2 ∧ Cells X.K F2 H2 ρ2 μ2 ∧ H2 D0 = some (.lst acc) ∧ F2 D0 = none ∧ D0 ∉ ρ2 ∧ DrL X.K F2 ρ2 acc accd ∧ acc.length ≤ i ∧
      lcS t (fun env' μ' => evc Φ Γ c env' μ') (fun env' μ' => ev Φ Γ a env' μ') (wipeE env vs) (ds.drop i) μ2 = some (rest, μe) ∧ accd ++ rest = xs) ?_ ?_ ?_ ?_
    · exact ⟨F1, ρ1, μ1, [], [], xs, w0.1, w0.2.1, w0.2.2, upd_same, fD, nD, .nil, Nat.le_refl _, h3, rfl⟩
    · rintro i H2 _ ⟨F2, ρ2, μ2, acc, accd, rest, e2, s2, _⟩
      exact hG F2 H2 e2.ff s2
    · rintro i y H2 H2' hi ⟨F2, ρ2, μ2, acc, accd, rest, e2, s2, c2, d2, f2, n2, r2, l2, q2, q3⟩ hy
      obtain ⟨F3, dx, P, g1, g2⟩ := hY i y H2 H2' F2 hi e2.ff s2 hy
      have hdrop : ds.drop i = dx :: ds.drop (i + 1) := by
        have hlt : i < ds.length := hi
        rw [List.drop_eq_getElem_cons hlt]
        rw [List.getElem?_eq_getElem hlt] at g1
        cases g1
        rfl
      rw [hdrop, lcS] at q2
      obtain ⟨env', u1, u2⟩ := Option.bind_eq_some_iff.mp q2
      obtain ⟨⟨b, μ3⟩, u3, u4⟩ := Option.bind_eq_some_iff.mp u2
      have S2 : SR X.K B F2 H2 ρ2 σ env μ2 := S1.step e2 s2 c2
      have S3 := (S2.px P).wipe vs
      have dD : H2' D0 = some (.lst acc) := P.hh _ _ d2
      have f3 : F3 D0 = none := by
        by_cases z : F3 D0 = none
        · exact z
        · have := P.new D0 f2 z
          rw [d2] at this; cases this
      refine ⟨B, F3, ρ2, wipeE env vs, μ2, dx, env', S3, g2 ρ2 e2.rr, u1, fun σ2 S4 hl hj => ⟨?_, ?_⟩⟩
      · rw [wipe_same hl fun j hj' => hj j fun z => hj' (hsub j z), wipe_idem]
      · refine RE.go S4 u3 fun b' F4 H4 ρ4 e4 S5 r => ?_
        cases r
        have d4 : H4 D0 = some (.lst acc) := e4.hh _ _ dD n2
        have f4 : F4 D0 = none := by
          by_cases z : F4 D0 = none
          · exact z
          · have := e4.new D0 f3 z
            rw [dD] at this; cases this
        have n4 : D0 ∉ ρ4 := fun z => (e4.rn D0 z).elim n2 fun z => by rw [dD] at z; cases z
        dsimp only at u4
        cases b with
        | true =>
          rw [if_pos rfl] at u4
          obtain ⟨⟨dy, μ4⟩, u5, u6⟩ := Option.bind_eq_some_iff.mp u4
          obtain ⟨⟨rest', μ5⟩, u7, u8⟩ := Option.map_eq_some_iff.mp u6
          cases u8
          refine iteT (RE.go S5 u5 fun w F5 H5 ρ5 e5 S6 r5 => ?_)
          have d5 : H5 D0 = some (.lst acc) := e5.hh _ _ d4 n4
          have f5 : F5 D0 = none := by
            by_cases z : F5 D0 = none
            · exact z
            · have := e5.new D0 f4 z
              rw [d4] at this; cases this
          have n5 : D0 ∉ ρ5 := fun z => (e5.rn D0 z).elim n4 fun z => by rw [d4] at z; cases z
          have hsz : acc.length < sizeLine := by rw [sz]; omega
          have eA := ((e2.trans P.ext).trans e4).trans e5
          obtain ⟨w1, w2, w3⟩ := write_ok (o := .lst (acc ++ [w])) eA S6.fh S6.cells hD f5 n5
          refine ⟨acc, d5, hsz, F5, ρ5, μ4, acc ++ [w], accd ++ [dy], rest', w1, w2, w3, upd_same, f5, n5, ((((r2.ext P.ext).ext e4).ext e5).append (.cons r5 .nil)), by simp; omega, u7, ?_⟩
          rw [List.append_assoc]
          exact q3
        | false =>
          rw [if_neg Bool.false_ne_true] at u4
          exact iteF ⟨F4, ρ4, μ3, acc, accd, rest, (e2.trans P.ext).trans e4, S5.fh, S5.cells, d4, f4, n4, (r2.ext P.ext).ext e4, by omega, u4, q3⟩
    · rintro H2 ⟨F2, ρ2, μ2, acc, accd, rest, e2, s2, c2, d2, f2, n2, r2, l2, q2, q3⟩
      rw [List.drop_length, lcS] at q2
      cases q2
      rw [List.append_nil] at q3
      subst q3
      have hn : H D0 = none := by
        by_cases z : H D0 = none
        · exact z
        · exact absurd hD (e1.dm D0 z)
      exact q D0 F2 H2 ρ2 acc (e1.trans e2) s2 c2 d2 hn f2 n2 r2
  have pn := PE.imp (pe_lc (pos := p) G.calm G.nd hi (G.blkOk hb) hg ht he hset) key
  exact ⟨⟨PE.imp pn fz, pn⟩, fz, key⟩
/-! ### an own list lent -/
theorem flat_dr {K : PySem.W.Frag} {F F' : Hp} {ρ ρ' : List Addr} {v : V} {d : D} (h : Dr K F ρ v d) (f : flat d = true) : Dr K F' ρ' v d := by
  cases h <;> first | exact .non | exact .bl _ | exact .int _ | exact .str _ | cases f
theorem flat_drL {K : PySem.W.Frag} {F F' : Hp} {ρ ρ' : List Addr} : ∀ {v : List V} {d : List D}, DrL K F ρ v d → d.all flat = true → DrL K F' ρ' v d
  | _, _, .nil, _ => .nil
  | _, _, .cons a b, f => by
    rw [List.all_cons, Bool.and_eq_true] at f
    exact .cons (flat_dr a f.1) (flat_drL b f.2)
theorem scalS_at : ∀ {μ : Store} {i : Nat} {ds : List D}, scalS μ = true → μ[i]? = some ds → ds.all flat = true
  | [], _, _, _, h => by simp at h
  | es :: r, 0, _, h, e => by
    rw [scalS, Bool.and_eq_true] at h
    simp at e; subst e; exact h.1
  | es :: r, i + 1, _, h, e => by
    rw [scalS, Bool.and_eq_true] at h
    exact scalS_at h.2 (by simpa using e)
theorem sqt_keep {K : PySem.W.Frag} {F F' : Hp} {b : Addr} {xs : List V} (k : ∀ c o, F c = some o → (∀ ys, o ≠ .lst ys) → (∀ ks, o ≠ .dK ks) → F' c = some o) (h : SqT K F b xs) : SqT K F' b xs := by
  rcases h with (h | ⟨o, h⟩) | h
  · exact .inl (.inl (k _ _ h (fun ys z => by cases z) (fun ys z => by cases z)))
  · exact .inl (.inr ⟨o, k _ _ h (fun ys z => by cases z) (fun ys z => by cases z)⟩)
  · exact .inr h
section
variable {K : PySem.W.Frag} {F F' : Hp} {ρ ρ' : List Addr}
mutual
theorem noL_dr (k : ∀ c o, F c = some o → (∀ ys, o ≠ .lst ys) → (∀ ks, o ≠ .dK ks) → F' c = some o) : ∀ (d : D) (v : V), Dr K F ρ v d → noL d = true → Dr K F' ρ' v d
  | .non, _, h, _ => by cases h; exact .non
  | .bl _, _, h, _ => by cases h; exact .bl _
  | .int _, _, h, _ => by cases h; exact .int _
  | .str _, _, h, _ => by cases h; exact .str _
  | .tup ds, _, h, e => by
    cases h with
    | tup a b => exact .tup (sqt_keep k a) (noL_drs k ds _ b (by rw [noL] at e; exact e))
  | .lst _, _, _, e => by rw [noL] at e; cases e
  | .scr _, _, _, e => by rw [noL] at e; cases e
  | .mr _, _, _, e => by rw [noL] at e; cases e
  | .rg _ _, _, _, e => by rw [noL] at e; cases e
  | .dk _ _, _, _, e => by rw [noL] at e; cases e
theorem noL_drs (k : ∀ c o, F c = some o → (∀ ys, o ≠ .lst ys) → (∀ ks, o ≠ .dK ks) → F' c = some o) : ∀ (ds : List D) (vs : List V), DrL K F ρ vs ds → noLs ds = true → DrL K F' ρ' vs ds
  | [], _, h, _ => by cases h; exact .nil
  | d :: ds, _, h, e => by
    rw [noLs, Bool.and_eq_true] at e
    cases h with
    | cons a b => exact .cons (noL_dr k d _ a e.1) (noL_drs k ds _ b e.2)
end
end
theorem lend {K : PySem.W.Frag} {B F H : Hp} {ρ : List Addr} {σ : L2.St} {env : Env} {μ : Store} {i : Nat} {ds : List D} (S : SR K B F H ρ σ env μ) (h : getO env i = some ds) :
    ∃ F1, SR K B F1 H ρ σ (env.set i (some (.val (.lst ds)))) μ ∧ ∀ F' H' ρ' μ', Ext F1 H ρ F' H' ρ' → Same F' H' → Cells K F' H' ρ' μ' → scalS μ' = true → ∃ F2, (∀ c o, F' c = some o → (∀ ys, o ≠ .lst ys) → (∀ ks, o ≠ .dK ks) → F2 c = some o) ∧ Ext F H ρ F2 H' ρ' ∧ Same F2 H' ∧ Cells K F2 H' ρ' μ' := by
  have he := getO_eq h
  obtain ⟨v, h1, a, xs, rfl, h2, h3, h4, h5, h6⟩ := S.env.at_ _ _ he
  have hi : i < env.length := (List.getElem?_eq_some_iff.mp he).1
  have hz : ∀ a', F a' = none → upd F a (.lst xs) a' ≠ none → a' = a := fun a' h7 h8 => by
    by_cases q : a' = a
    · exact q
    · rw [upd_ne q] at h8; exact absurd h7 h8
  refine ⟨upd F a (.lst xs), ⟨fun b o e => ?_, ⟨S.cells.len, S.cells.nd, fun j b es g1 g2 => ?_⟩, ⟨by rw [List.length_set]; exact S.env.len, fun j sv g => ?_, fun j l es fs b g1 g2 g3 g4 => ?_, fun j l t u es fs b g1 g2 g3 g4 => ?_⟩⟩, ?_⟩
  · by_cases q : b = a
    · subst q; rw [upd_same] at e; rw [h2]; exact e
    · rw [upd_ne q] at e; exact S.fh b o e
  · obtain ⟨z1, ys, z2, z3⟩ := S.cells.at_ j b es g1 g2
    refine ⟨?_, ys, z2, DrL.mono (same_upd' h4) (fun _ _ h => h) _ _ z3⟩
    rw [upd_ne (fun z => h5 (by rw [← z]; exact List.mem_of_getElem? g1))]
    exact z1
  · by_cases q : i = j
    · subst q
      rw [List.getElem?_set_self hi] at g
      cases g
      exact ⟨_, h1, .lst upd_same (DrL.mono (same_upd' h4) (fun _ _ h => h) _ _ h3)⟩
    · rw [List.getElem?_set_ne q] at g
      obtain ⟨w, w1, w2⟩ := S.env.at_ j sv g
      refine ⟨w, w1, ?_⟩
      cases sv with
      | val d => exact Dr.mono (same_upd' h4) (fun _ _ h => h) _ _ w2
      | own es =>
        obtain ⟨b, ys, rfl, k2, k3, k4, k5, k6⟩ := w2
        have nb : b ≠ a := fun z => q (S.env.apart i j ds es a he g h1 (by rw [← z]; exact w1))
        exact ⟨b, ys, rfl, k2, DrL.mono (same_upd' h4) (fun _ _ h => h) _ _ k3, by rw [upd_ne nb]; exact k4, k5, k6⟩
      | dct t es =>
        obtain ⟨b, rfl, k2, k4, k5, k6⟩ := w2
        have nb : b ≠ a := k2.ne_lst h2
        exact ⟨b, rfl, k2.mono (same_upd' h4) (fun _ _ h => h) (fun _ h => h), by rw [upd_ne nb]; exact k4, k5, k6⟩
  · have own_ne : ∀ {j : Nat} {es : List D}, (env.set i (some (.val (.lst ds))))[j]? = some (some (.own es)) → i ≠ j := fun {j es} h q => by
      subst q
      rw [List.getElem?_set_self hi] at h; cases h
    rw [List.getElem?_set_ne (own_ne g1)] at g1
    rw [List.getElem?_set_ne (own_ne g2)] at g2
    exact S.env.apart j l es fs b g1 g2 g3 g4
  · have own_ne : ∀ {j : Nat} {t : Bool} {es : List (NestedKey × D)}, (env.set i (some (.val (.lst ds))))[j]? = some (some (.dct t es)) → i ≠ j := fun {j t es} h q => by
      subst q
      rw [List.getElem?_set_self hi] at h; cases h
    rw [List.getElem?_set_ne (own_ne g1)] at g1
    rw [List.getElem?_set_ne (own_ne g2)] at g2
    exact S.env.apd j l t u es fs b g1 g2 g3 g4
  · intro F' H' ρ' μ' e s c hs
    have na : ∀ b, b ∈ ρ' → b ≠ a := fun b hb z => by
      subst z
      rcases e.rn b hb with z | z
      · exact h5 z
      · rw [h2] at z; cases z
    refine ⟨fun b => if b = a then none else F' b, fun b o g1 g2 g2' => ?_, ⟨fun b o g => ?_, e.hh, e.dm, fun b g1 g2 => ?_, e.rr, e.rn⟩, fun b o g => ?_, ⟨c.len, c.nd, fun j b es g1 g2 => ?_⟩⟩
    · have nb : b ≠ a := fun z => by
        subst z
        have := e.ff b (.lst xs) upd_same
        rw [this] at g1
        cases g1
        exact g2 xs rfl
      dsimp only
      rw [if_neg nb]
      exact g1
    · have nb : b ≠ a := ne_of_none g h4
      rw [if_neg nb]
      exact e.ff b o (by rw [upd_ne nb]; exact g)
    · by_cases q : b = a
      · rw [if_pos q] at g2; exact absurd rfl g2
      · rw [if_neg q] at g2
        exact e.new b (by rw [upd_ne q]; exact g1) g2
    · dsimp only at g
      by_cases q : b = a
      · rw [if_pos q] at g; cases g
      · rw [if_neg q] at g; exact s b o g
    · obtain ⟨z1, ys, z2, z3⟩ := c.at_ j b es g1 g2
      refine ⟨?_, ys, z2, flat_drL z3 (scalS_at hs g2)⟩
      rw [if_neg (na b (List.mem_of_getElem? g1))]
      exact z1
theorem lendK {K : PySem.W.Frag} {B F H : Hp} {ρ : List Addr} {σ : L2.St} {env : Env} {μ : Store} {i : Nat} {ds : List (NestedKey × D)} (S : SR K B F H ρ σ env μ) (h : getK env i = some ds) :
    ∃ F1, SR K B F1 H ρ σ (env.set i (some (.val (dkD ds)))) μ ∧ ∀ F' H' ρ' μ', Ext F1 H ρ F' H' ρ' → Same F' H' → Cells K F' H' ρ' μ' → scalS μ' = true → ∃ F2, (∀ c o, F' c = some o → (∀ ys, o ≠ .lst ys) → (∀ ks, o ≠ .dK ks) → F2 c = some o) ∧ Ext F H ρ F2 H' ρ' ∧ Same F2 H' ∧ Cells K F2 H' ρ' μ' := by
  have he := getK_eq h
  obtain ⟨v, h1, a, rfl, h23, h4, h5, h6⟩ := S.env.at_ _ _ he
  rcases h23 with ⟨z, _⟩ | ⟨_, xs, h2, h3⟩
  case inl => cases z
  have hi : i < env.length := (List.getElem?_eq_some_iff.mp he).1
  have hz : ∀ a', F a' = none → upd F a (.dK xs) a' ≠ none → a' = a := fun a' h7 h8 => by
    by_cases q : a' = a
    · exact q
    · rw [upd_ne q] at h8; exact absurd h7 h8
  refine ⟨upd F a (.dK xs), ⟨fun b o e => ?_, ⟨S.cells.len, S.cells.nd, fun j b es g1 g2 => ?_⟩, ⟨by rw [List.length_set]; exact S.env.len, fun j sv g => ?_, fun j l es fs b g1 g2 g3 g4 => ?_, fun j l t u es fs b g1 g2 g3 g4 => ?_⟩⟩, ?_⟩
  · by_cases q : b = a
    · subst q; rw [upd_same] at e; rw [h2]; exact e
    · rw [upd_ne q] at e; exact S.fh b o e
  · obtain ⟨z1, ys, z2, z3⟩ := S.cells.at_ j b es g1 g2
    refine ⟨?_, ys, z2, DrL.mono (same_upd' h4) (fun _ _ h => h) _ _ z3⟩
    rw [upd_ne (fun z => h5 (by rw [← z]; exact List.mem_of_getElem? g1))]
    exact z1
  · by_cases q : i = j
    · subst q
      rw [List.getElem?_set_self hi] at g
      cases g
      exact ⟨_, h1, .dk upd_same (ki_keys h3).1 (DrL.mono (same_upd' h4) (fun _ _ h => h) _ _ (ki_keys h3).2)⟩
    · rw [List.getElem?_set_ne q] at g
      obtain ⟨w, w1, w2⟩ := S.env.at_ j sv g
      refine ⟨w, w1, ?_⟩
      cases sv with
      | val d => exact Dr.mono (same_upd' h4) (fun _ _ h => h) _ _ w2
      | own es =>
        obtain ⟨b, ys, rfl, k2, k3, k4, k5, k6⟩ := w2
        have nb : b ≠ a := fun z => by rw [z, h2] at k2; cases k2
        exact ⟨b, ys, rfl, k2, DrL.mono (same_upd' h4) (fun _ _ h => h) _ _ k3, by rw [upd_ne nb]; exact k4, k5, k6⟩
      | dct t es =>
        obtain ⟨b, rfl, k2, k4, k5, k6⟩ := w2
        have nb : b ≠ a := fun z => q (S.env.apd i j false t ds es a he g h1 (by rw [← z]; exact w1))
        exact ⟨b, rfl, k2.mono (same_upd' h4) (fun _ _ h => h) (fun _ h => h), by rw [upd_ne nb]; exact k4, k5, k6⟩
  · have own_ne : ∀ {j : Nat} {es : List D}, (env.set i (some (.val (dkD ds))))[j]? = some (some (.own es)) → i ≠ j := fun {j es} h q => by
      subst q
      rw [List.getElem?_set_self hi] at h; cases h
    rw [List.getElem?_set_ne (own_ne g1)] at g1
    rw [List.getElem?_set_ne (own_ne g2)] at g2
    exact S.env.apart j l es fs b g1 g2 g3 g4
  · have own_ne : ∀ {j : Nat} {t : Bool} {es : List (NestedKey × D)}, (env.set i (some (.val (dkD ds))))[j]? = some (some (.dct t es)) → i ≠ j := fun {j t es} h q => by
      subst q
      rw [List.getElem?_set_self hi] at h; cases h
    rw [List.getElem?_set_ne (own_ne g1)] at g1
    rw [List.getElem?_set_ne (own_ne g2)] at g2
    exact S.env.apd j l t u es fs b g1 g2 g3 g4
  · intro F' H' ρ' μ' e s c hs
    have na : ∀ b, b ∈ ρ' → b ≠ a := fun b hb z => by
      subst z
      rcases e.rn b hb with z | z
      · exact h5 z
      · rw [h2] at z; cases z
    refine ⟨fun b => if b = a then none else F' b, fun b o g1 g2 g2' => ?_, ⟨fun b o g => ?_, e.hh, e.dm, fun b g1 g2 => ?_, e.rr, e.rn⟩, fun b o g => ?_, ⟨c.len, c.nd, fun j b es g1 g2 => ?_⟩⟩
    · have nb : b ≠ a := fun z => by
        subst z
        have := e.ff b (.dK xs) upd_same
        rw [this] at g1
        cases g1
        exact g2' xs rfl
      dsimp only
      rw [if_neg nb]
      exact g1
    · have nb : b ≠ a := ne_of_none g h4
      rw [if_neg nb]
      exact e.ff b o (by rw [upd_ne nb]; exact g)
    · by_cases q : b = a
      · rw [if_pos q] at g2; exact absurd rfl g2
      · rw [if_neg q] at g2
        exact e.new b (by rw [upd_ne q]; exact g1) g2
    · dsimp only at g
      by_cases q : b = a
      · rw [if_pos q] at g; cases g
      · rw [if_neg q] at g; exact s b o g
    · obtain ⟨z1, ys, z2, z3⟩ := c.at_ j b es g1 g2
      refine ⟨?_, ys, z2, flat_drL z3 (scalS_at hs g2)⟩
      rw [if_neg (na b (List.mem_of_getElem? g1))]
      exact z1
theorem s_bor {i : Nat} {a : E} {x : Expr} (ha : PE X x (tE X.K Φ Γ a)) : PE X x (tE X.K Φ Γ (.bor i a)) := by
  refine PE.imp ha fun σ H Q q => ?_
  obtain ⟨B, F, ρ, env, μ, d, μ', S, he, q⟩ := q
  rw [ev] at he
  obtain ⟨ds, h1, h2⟩ := Option.bind_eq_some_iff.mp he
  obtain ⟨⟨d', μ1⟩, h3, h4⟩ := Option.bind_eq_some_iff.mp h2
  dsimp only at h4
  split at h4
  case isFalse => cases h4
  rename_i hf
  cases h4
  rw [Bool.and_eq_true] at hf
  obtain ⟨F1, S1, k1⟩ := lend S h1
  refine ⟨B, F1, ρ, _, μ, _, _, S1, h3, fun v F' H' ρ' e s c r => ?_⟩
  obtain ⟨F2, w0, w1, w2, w3⟩ := k1 F' H' ρ' _ e s c hf.2
  exact q v F2 H' ρ' w1 w2 w3 (noL_dr w0 _ _ r hf.1)
theorem s_kBor {i : Nat} {a : E} {x : Expr} (ha : PE X x (tE X.K Φ Γ a)) : PE X x (tE X.K Φ Γ (.kBor i a)) := by
  refine PE.imp ha fun σ H Q q => ?_
  obtain ⟨B, F, ρ, env, μ, d, μ', S, he, q⟩ := q
  rw [ev] at he
  obtain ⟨ds, h1, h2⟩ := Option.bind_eq_some_iff.mp he
  obtain ⟨⟨d', μ1⟩, h3, h4⟩ := Option.bind_eq_some_iff.mp h2
  dsimp only at h4
  split at h4
  case isFalse => cases h4
  rename_i hf
  cases h4
  rw [Bool.and_eq_true] at hf
  obtain ⟨F1, S1, k1⟩ := lendK S h1
  refine ⟨B, F1, ρ, _, μ, _, _, S1, h3, fun v F' H' ρ' e s c r => ?_⟩
  obtain ⟨F2, w0, w1, w2, w3⟩ := k1 F' H' ρ' _ e s c hf.2
  exact q v F2 H' ρ' w1 w2 w3 (noL_dr w0 _ _ r hf.1)
theorem sT_bor {i : Nat} {a : E} {x : Expr} (ha : PT X x (tT X.K Φ Γ a)) : PT X x (tT X.K Φ Γ (.bor i a)) := by
  refine PT.imp ha fun σ H Q q => ?_
  obtain ⟨B, F, ρ, env, μ, d, μ', S, he, q⟩ := q
  rw [evT] at he
  obtain ⟨ds, h1, h2⟩ := Option.bind_eq_some_iff.mp he
  obtain ⟨⟨d', μ1⟩, h3, h4⟩ := Option.bind_eq_some_iff.mp h2
  dsimp only at h4
  split at h4
  case isFalse => cases h4
  rename_i hf
  cases h4
  obtain ⟨F1, S1, k1⟩ := lend S h1
  refine ⟨B, F1, ρ, _, μ, _, _, S1, h3, fun v F' H' ρ' e s c r => ?_⟩
  obtain ⟨F2, _, w1, w2, w3⟩ := k1 F' H' ρ' _ e s c hf
  exact q v F2 H' ρ' w1 w2 w3 r
end
end Py
end
section
set_option Elab.async false
set_option linter.all false
set_option maxRecDepth 100000
set_option maxHeartbeats 4000000
namespace Py
open PySem L2 RZ
theorem mE_noset {C : MC} {sc : Scope} : ∀ {m : E} {e : Expr}, mE C sc m e = true → ∀ l n p, e ≠ .Set l n p := by
  intro m
  induction m using E.rec (motive_2 := fun _ => True) (motive_3 := fun _ => True) (motive_4 := fun _ => True) with
  | bor i e ih => intro x h; rw [mE] at h; exact ih h
  | kBor i e ih => intro x h; rw [mE, Bool.and_eq_true] at h; exact ih h.2
  | nil => trivial
  | cons => trivial
  | none => trivial
  | some => trivial
  | seq => trivial
  | rng1 => trivial
  | rng2 => trivial
  | zip => trivial
  | enum => trivial
  | rngD => trivial
  | _ =>
    intro x h v n p z
    subst z
    rw [mE] at h <;> first | cases h | (intros; contradiction)
theorem marks_of {e : Expr} {op : CmpOp} (h : ∀ l n p, e ≠ .Set l n p) : behindInMarks op e = false := by
  cases e <;> first | rfl | exact absurd rfl (h _ _ _)
theorem folded_of {e : Expr} {env : PySem.Env} (h : ∀ l n p, e ≠ .Set l n p) : ∀ x, foldedSetIterable e env x = pure x := by
  cases e <;> first | exact fun _ => rfl | exact absurd rfl (h _ _ _)
theorem mI_noset {C : MC} {sc : Scope} {it : I} {e : Expr} {k : Bool} (h : mI C sc it e k = true) : ∀ l n p, e ≠ .Set l n p := by
  cases it with
  | seq a => exact mE_noset (mI_seq h)
  | rng1 a => obtain ⟨_, _, _, _, rfl, _⟩ := mI_rng1 h; exact fun _ _ _ z => nomatch z
  | rng2 a b => obtain ⟨_, _, _, _, _, rfl, _⟩ := mI_rng2 h; exact fun _ _ _ z => nomatch z
  | rngD a => obtain ⟨_, _, _, _, _, _, _, _, _, _, rfl, _⟩ := mI_rngD h; exact fun _ _ _ z => nomatch z
  | zip a b => obtain ⟨_, _, _, _, _, rfl, _⟩ := mI_zip h; exact fun _ _ _ z => nomatch z
  | enum a => obtain ⟨_, _, _, _, rfl, _⟩ := mI_enum h; exact fun _ _ _ z => nomatch z
theorem blk_kind {N : List Str} {sc scope : Scope} {own : List (Str × Nat)} (h : blkC N sc scope own = true) : scope.kind = .function := (blkOk_by h).kind
section
variable {C : MC} {Φ : FnS} {Γ : GlS} {k : Nat}
theorem sT_none {X : Cx} {m : E} {e : Expr} (h : ∀ env μ, evT Φ Γ m env μ = none) : PT X e (tT X.K Φ Γ m) := ⟨fun pins s σ H Q I q => by
  obtain ⟨B, F, ρ, env, μ, d, μ', S, he, q⟩ := q
  rw [h] at he; cases he⟩
theorem bool_of_map {α : Type} {f : α → Bool → Bool} {x : Option (D × Store)} {g : D → Option Bool} {r : Bool × Store} (h : (x.bind fun p => (g p.1).map fun k => (k, p.2)) = some r) : ∃ d, x = some (d, r.2) ∧ g d = some r.1 := by
  obtain ⟨⟨d, μ⟩, h1, h2⟩ := Option.bind_eq_some_iff.mp h
  obtain ⟨b, h3, h4⟩ := Option.map_eq_some_iff.mp h2
  cases h4
  exact ⟨d, h1, h3⟩
theorem pa_two {Φ : FnS} {Γ : GlS} {X : Cx} {m : E} {ms : Es} {y : Expr} {ys : List Expr} (h1 : PE X y (tE X.K Φ Γ m)) (n : ∀ v p, y ≠ .Starred v p) (h2 : PA X ys (tEs X.K Φ Γ ms)) : PA X (y :: ys) (tEs X.K Φ Γ (.cons m ms)) := by
  refine PA.imp (pa_cons h1 h2 (starEach_cons n)) fun σ H Q q => ?_
  obtain ⟨B, F, ρ, env, μ, d, μ', S, he, q⟩ := q
  rw [evs] at he
  obtain ⟨⟨dx, μ1⟩, h1, h2⟩ := Option.bind_eq_some_iff.mp he
  obtain ⟨⟨dl, μ2⟩, h3, h4⟩ := Option.map_eq_some_iff.mp h2
  cases h4
  exact RE.go S h1 fun v F1 H1 ρ1 e1 S1 r1 => RE.go S1 h3 fun w F2 H2 ρ2 e2 S2 r2 => q _ F2 H2 ρ2 (e1.trans e2) S2.fh S2.cells (.cons (r1.ext e2) r2)
theorem pa_nil' {Φ : FnS} {Γ : GlS} {X : Cx} : PA X [] (tEs X.K Φ Γ .nil) := PA.imp pa_nil fun σ H Q q => by
  obtain ⟨B, F, ρ, env, μ, d, μ', S, he, q⟩ := q
  rw [evs] at he
  cases he
  exact q _ F H ρ .refl S.fh S.cells .nil
theorem po_none' {Φ : FnS} {Γ : GlS} {X : Cx} : PO X none (tO X.K Φ Γ .none) := PO.imp po_none fun σ H Q q => by
  obtain ⟨B, F, ρ, env, μ, d, μ', S, he, q⟩ := q
  rw [evo] at he
  cases he
  exact q _ F H ρ .refl S.fh S.cells rfl
theorem po_some' {Φ : FnS} {Γ : GlS} {X : Cx} {m : E} {e : Expr} (h : PE X e (tE X.K Φ Γ m)) : PO X (some e) (tO X.K Φ Γ (.some m)) := PO.imp (po_some h) fun σ H Q q => by
  obtain ⟨B, F, ρ, env, μ, d, μ', S, he, q⟩ := q
  rw [evo] at he
  obtain ⟨⟨dx, μ1⟩, h1, h2⟩ := Option.bind_eq_some_iff.mp he
  obtain ⟨i, h3, h4⟩ := Option.map_eq_some_iff.mp h2
  cases h4
  refine RE.go S h1 fun v F1 H1 ρ1 e1 S1 r1 => ?_
  have e0 := asInt_eq h3
  subst e0
  cases r1
  exact ⟨_, rfl, q _ F1 H1 ρ1 e1 S1.fh S1.cells rfl⟩
theorem pc_none' {Φ : FnS} {Γ : GlS} {X : Cx} : PTs X [] (tC X.K Φ Γ .none) := PTs.imp pts_nil fun σ H Q q => by
  obtain ⟨B, F, ρ, env, μ, d, μ', S, he, q⟩ := q
  rw [evc] at he
  cases he
  exact q _ F H ρ .refl S.fh S.cells rfl
theorem pc_some' {Φ : FnS} {Γ : GlS} {X : Cx} {m : E} {e : Expr} (h : PT X e (tT X.K Φ Γ m)) : PTs X [e] (tC X.K Φ Γ (.some m)) := PTs.imp (pts_one h) fun σ H Q q => by
  obtain ⟨B, F, ρ, env, μ, d, μ', S, he, q⟩ := q
  rw [evc] at he
  exact ⟨B, F, ρ, env, μ, d, μ', S, he, q⟩
mutual
theorem peE : ∀ (m : E) (X : Cx) (sc : Scope) (e : Expr), CG C Φ Γ k X sc → mE C sc m e = true → PE X e (tE X.K Φ Γ m)
  | .slot i, X, sc, e, G, h => by obtain ⟨x, p, rfl, ⟨h1, h2⟩, h3⟩ := mE_slot h; exact s_slot G h1 h2 h3
  | .glob i, X, sc, e, G, h => by obtain ⟨x, p, rfl, ⟨h1, h2⟩, h3⟩ := mE_glob h; exact s_glob G h1 h2 h3
  | .int i, X, sc, e, G, h => by obtain ⟨j, n, p, rfl, rfl⟩ := mE_int h; exact s_int
  | .bl i, X, sc, e, G, h => by obtain ⟨j, n, p, rfl, rfl⟩ := mE_bl h; exact s_bl
  | .non, X, sc, e, G, h => by obtain ⟨n, p, rfl⟩ := mE_non h; exact s_non
  | .str i, X, sc, e, G, h => by obtain ⟨j, n, p, rfl, rfl⟩ := mE_str h; exact s_str
  | .bin op a b, X, sc, e, G, h => by
    obtain ⟨x, o, y, p, rfl, ⟨rfl, h1⟩, h2⟩ := mE_bin h
    exact s_bin (peE a X sc x G h1) (peE b X sc y G h2)
  | .neg a, X, sc, e, G, h => by
    obtain ⟨x, p, rfl, h1⟩ := mE_neg h
    exact s_neg (peE a X sc x G h1)
  | .not a, X, sc, e, G, h => by
    obtain ⟨x, p, rfl, h1⟩ := mE_not h
    exact s_not (peE a X sc x G h1)
  | .cmp op a b, X, sc, e, G, h => by
    obtain ⟨x, o, y, p, rfl, ⟨rfl, h1⟩, h2⟩ := mE_cmp h
    exact s_cmp G (marks_of (mE_noset h2)) (peE a X sc x G h1) (peE b X sc y G h2)
  | .isN a, X, sc, e, G, h => by
    obtain ⟨x, n, p2, p, rfl, h1⟩ := mE_isN h
    exact s_isN (peE a X sc x G h1)
  | .notN a, X, sc, e, G, h => by
    obtain ⟨x, n, p2, p, rfl, h1⟩ := mE_notN h
    exact s_notN (peE a X sc x G h1)
  | .and a r, X, sc, e, G, h => by
    obtain ⟨x, xs, p, rfl, h1, h2⟩ := mE_and h
    refine PE.imp (pAnd r X sc xs a x p G (peE a X sc x G h1) h2) fun σ H Q q => ?_
    obtain ⟨B, F, ρ, env, μ, d, μ', S, he, q⟩ := q
    rw [ev] at he
    exact ⟨B, F, ρ, env, μ, d, μ', S, he, q⟩
  | .or a r, X, sc, e, G, h => by
    obtain ⟨x, xs, p, rfl, h1, h2⟩ := mE_or h
    refine PE.imp (pOr r X sc xs a x p G (peE a X sc x G h1) h2) fun σ H Q q => ?_
    obtain ⟨B, F, ρ, env, μ, d, μ', S, he, q⟩ := q
    rw [ev] at he
    exact ⟨B, F, ρ, env, μ, d, μ', S, he, q⟩
  | .ite c a b, X, sc, e, G, h => by
    obtain ⟨z, x, y, p, rfl, ⟨h1, h2⟩, h3⟩ := mE_ite h
    exact s_ite (ptE c X sc z G h1) (peE a X sc x G h2) (peE b X sc y G h3)
  | .tup es, X, sc, e, G, h => by
    obtain ⟨xs, n, p, rfl, h1⟩ := mE_tup h
    exact s_tup (paEs es X sc xs G h1)
  | .lst es, X, sc, e, G, h => by
    obtain ⟨xs, p, rfl, h1⟩ := mE_lst h
    exact s_lst (paEs es X sc xs G h1)
  | .mlst es, X, sc, e, G, h => by
    obtain ⟨xs, p, rfl, h1⟩ := mE_mlst h
    exact s_mlst (paEs es X sc xs G h1)
  | .ix a b, X, sc, e, G, h => by
    obtain ⟨x, y, p, rfl, h1, h2⟩ := mE_ix h
    exact s_ix (mE_nostar h2).2 (peE a X sc x G h1) (peE b X sc y G h2)
  | .slc a lo hi, X, sc, e, G, h => by
    obtain ⟨x, l, u, p2, p, rfl, ⟨h1, h2⟩, h3⟩ := mE_slc h
    exact s_slc (peE a X sc x G h1) (poEo lo X sc l G h2) (poEo hi X sc u G h3)
  | .call f a es, X, sc, e, G, h => by
    obtain ⟨x, p2, y, ys, p, rfl, ⟨⟨⟨h1, h2⟩, h3⟩, h4⟩, h5⟩ := mE_call h
    exact s_call G h1 h2 h3 (pa_two (peE a X sc y G h4) (mE_nostar h4).1 (paEs es X sc ys G h5)) (mE_nostar h4).1 (mEs_nostar h5)
  | .bi b a es, X, sc, e, G, h => by
    obtain ⟨x, p2, y, ys, p, rfl, ⟨⟨rfl, h2⟩, h4⟩, h5⟩ := mE_bi h
    exact s_bi G h2 (pa_two (peE a X sc y G h4) (mE_nostar h4).1 (paEs es X sc ys G h5)) (mE_nostar h4).1 (mEs_nostar h5)
  | .isi a t, X, sc, e, G, h => by
    obtain ⟨x, p2, y, z, p3, p, rfl, ⟨⟨⟨rfl, h1⟩, h2⟩, rfl⟩, h3⟩ := mE_isi h
    exact s_isi G h1 h3 (peE a X sc y G h2) (mE_nostar h2).1
  | .lc a t it c vs, X, sc, e, G, h => by
    obtain ⟨x, tg, iter, ifs, n, scope, p, rfl, ⟨⟨⟨⟨⟨rfl, h1⟩, h2⟩, h3⟩, h4⟩, h5⟩, h6⟩ := mE_lc h
    exact (s_lc G h1 (fun j hj => by have := List.all_eq_true.mp h2 j hj; simpa using this) (folded_of (mI_noset h3)) (piI it X sc iter tg G h3)
      (fun s H Cc cl fp => pgT (G.blk (blk_kind h1) s H Cc cl fp) t tg h4) (fun s H Cc cl fp => pcEo c _ scope ifs (G.blk (blk_kind h1) s H Cc cl fp) h5) (fun s H Cc cl fp => peE a _ scope x (G.blk (blk_kind h1) s H Cc cl fp) h6)).1.1
  | .bor i a, X, sc, e, G, h => s_bor (peE a X sc e G (mE_bor h))
  | .dIn neg i a, X, sc, e, G, h => by
    obtain ⟨x, o, y, p2, p, rfl, ⟨⟨⟨rfl, h1⟩, h2⟩, h3⟩, h4⟩ := mE_dIn h
    exact s_dIn G h1 h2 h3 (peE a X sc x G h4)
  | .dAt i a, X, sc, e, G, h => by
    obtain ⟨y, p2, x, p, rfl, ⟨⟨h1, h2⟩, h3⟩, h4⟩ := mE_dAt h
    exact s_dAt G h1 h2 h3 (mE_nostar h4).2 (peE a X sc x G h4)
  | .kBor i a, X, sc, e, G, h => s_kBor (peE a X sc e G (mE_kBor h))
  | .kAt i a, X, sc, e, G, h => by
    obtain ⟨y, p2, x, p, rfl, ⟨⟨h1, h2⟩, h3⟩, h4⟩ := mE_kAt h
    exact s_kAt G h1 h2 h3 (mE_nostar h4).2 (peE a X sc x G h4)
  | .kGet a b c, X, sc, e, G, h => by
    obtain ⟨o, m, ap, y, z, cp, rfl, ⟨⟨⟨⟨rfl, h1⟩, h2⟩, h3⟩, h4⟩, h5⟩ := mE_kGet h
    exact s_kGet G h1 h2 (peE a X sc o G h3) (peE b X sc y G h4) (peE c X sc z G h5) (mE_nostar h4).1 (mE_nostar h5).1
  | .dVals i, X, sc, e, G, h => by
    obtain ⟨f, p2, y, p3, m, ap, cp, p, rfl, ⟨⟨⟨⟨⟨rfl, h1⟩, h2⟩, h3⟩, h4⟩, rfl⟩, h5⟩ := mE_dVals h
    exact s_dVals G h1 h2 h3 h4 h5
  | .rngL a, X, sc, e, G, h => by
    obtain ⟨f, p2, g, p3, x, p4, p, rfl, ⟨⟨⟨rfl, h1⟩, rfl⟩, h2⟩, h3⟩ := mE_rngL h
    exact s_rngL G h1 h2 (peE a X sc x G h3) (mE_nostar h3).1
  | .rngL2 a b, X, sc, e, G, h => by
    obtain ⟨f, p2, g, p3, x, y, p4, p, rfl, ⟨⟨⟨⟨rfl, h1⟩, rfl⟩, h2⟩, h3⟩, h4⟩ := mE_rngL2 h
    exact s_rngL2 G h1 h2 (peE a X sc x G h3) (peE b X sc y G h4) (mE_nostar h3).1 (mE_nostar h4).1
  | .rev a, X, sc, e, G, h => by
    obtain ⟨x, k, p1, p2, p3, p, rfl, h1⟩ := mE_rev h
    exact s_rev (peE a X sc x G h1)
  | .chain op op2 a b c, X, sc, e, G, h => by
    obtain ⟨x, o, o2, y, z, p, rfl, ⟨⟨⟨rfl, rfl⟩, h1⟩, h2⟩, h3⟩ := mE_chain h
    exact s_chain G (marks_of (mE_noset h3)) (peE a X sc x G h1) (peE b X sc y G h2) (peE c X sc z G h3)
theorem ptE : ∀ (m : E) (X : Cx) (sc : Scope) (e : Expr), CG C Φ Γ k X sc → mE C sc m e = true → PT X e (tT X.K Φ Γ m)
  | .slot i, X, sc, e, G, h => by
    have hp := peE (.slot i) X sc e G h
    obtain ⟨x, p, rfl, _⟩ := mE_slot h
    refine sT_tru hp (fun _ => rfl) fun env μ r hr => ?_
    rw [evT] at hr
    obtain ⟨d, h1, h2⟩ := Option.bind_eq_some_iff.mp hr
    obtain ⟨b, h3, h4⟩ := Option.map_eq_some_iff.mp h2
    cases h4
    exact ⟨d, by rw [ev, h1]; rfl, h3⟩
  | .ix a b, X, sc, e, G, h => by
    have hp := peE (.ix a b) X sc e G h
    obtain ⟨x, y, p, rfl, _⟩ := mE_ix h
    refine sT_tru hp (fun _ => rfl) fun env μ r hr => ?_
    rw [evT] at hr
    obtain ⟨⟨d, μ1⟩, h1, h2⟩ := Option.bind_eq_some_iff.mp hr
    obtain ⟨⟨d2, μ2⟩, h3, h4⟩ := Option.bind_eq_some_iff.mp h2
    obtain ⟨d3, h5, h6⟩ := Option.bind_eq_some_iff.mp h4
    obtain ⟨b, h7, h8⟩ := Option.map_eq_some_iff.mp h6
    cases h8
    refine ⟨d3, ?_, h7⟩
    rw [ev, h1]
    show Option.bind (ev _ _ _ _ _) _ = _
    rw [h3]
    show Option.map _ (ixS _ _ _) = _
    rw [h5]; rfl
  | .call f a es, X, sc, e, G, h => by
    have hp := peE (.call f a es) X sc e G h
    obtain ⟨x, p2, y, ys, p, rfl, _⟩ := mE_call h
    refine sT_tru hp (fun _ => rfl) fun env μ r hr => ?_
    rw [evT] at hr
    obtain ⟨⟨d, μ1⟩, h1, h2⟩ := Option.bind_eq_some_iff.mp hr
    obtain ⟨⟨d2, μ2⟩, h3, h4⟩ := Option.bind_eq_some_iff.mp h2
    obtain ⟨⟨d3, μ3⟩, h5, h6⟩ := Option.bind_eq_some_iff.mp h4
    obtain ⟨b, h7, h8⟩ := Option.map_eq_some_iff.mp h6
    cases h8
    refine ⟨d3, ?_, h7⟩
    rw [ev, h1]
    show Option.bind (evs _ _ _ _ _) _ = _
    rw [h3]
    exact h5
  | .bi b a es, X, sc, e, G, h => by
    have hp := peE (.bi b a es) X sc e G h
    obtain ⟨x, p2, y, ys, p, rfl, _⟩ := mE_bi h
    refine sT_tru hp (fun _ => rfl) fun env μ r hr => ?_
    rw [evT] at hr
    obtain ⟨⟨d, μ1⟩, h1, h2⟩ := Option.bind_eq_some_iff.mp hr
    obtain ⟨⟨d2, μ2⟩, h3, h4⟩ := Option.bind_eq_some_iff.mp h2
    obtain ⟨d3, h5, h6⟩ := Option.bind_eq_some_iff.mp h4
    obtain ⟨b, h7, h8⟩ := Option.map_eq_some_iff.mp h6
    cases h8
    refine ⟨d3, ?_, h7⟩
    rw [ev, h1]
    show Option.bind (evs _ _ _ _ _) _ = _
    rw [h3]
    show Option.map _ (biS _ _ _) = _
    rw [h5]; rfl
  | .isi a t, X, sc, e, G, h => by
    have hp := peE (.isi a t) X sc e G h
    obtain ⟨x, p2, y, z, p3, p, rfl, _⟩ := mE_isi h
    refine sT_tru hp (fun _ => rfl) fun env μ r hr => ?_
    rw [evT] at hr
    obtain ⟨⟨d, μ1⟩, h1, h2⟩ := Option.bind_eq_some_iff.mp hr
    obtain ⟨b, h7, h8⟩ := Option.map_eq_some_iff.mp h2
    cases h8
    refine ⟨.bl b, ?_, rfl⟩
    rw [ev, h1]
    show Option.map _ (isiS _ _) = _
    rw [h7]; rfl
  | .dIn neg i a, X, sc, e, G, h => by
    obtain ⟨x, o, y, p2, p, rfl, ⟨⟨⟨rfl, h1⟩, h2⟩, h3⟩, h4⟩ := mE_dIn h
    exact sT_dIn G h1 h2 h3 (peE a X sc x G h4)
  | .chain op op2 a b c, X, sc, e, G, h => by
    obtain ⟨x, o, o2, y, z, p, rfl, ⟨⟨⟨rfl, rfl⟩, h1⟩, h2⟩, h3⟩ := mE_chain h
    exact sT_chain G (marks_of (mE_noset h3)) (peE a X sc x G h1) (peE b X sc y G h2) (peE c X sc z G h3)
  | .dAt i a, X, sc, e, G, h => sT_none fun env μ => by rw [evT] <;> (intros; contradiction)
  | .kBor _ _, X, sc, e, G, h => sT_none fun env μ => by rw [evT] <;> (intros; contradiction)
  | .kAt _ _, X, sc, e, G, h => sT_none fun env μ => by rw [evT] <;> (intros; contradiction)
  | .kGet _ _ _, X, sc, e, G, h => sT_none fun env μ => by rw [evT] <;> (intros; contradiction)
  | .dVals i, X, sc, e, G, h => sT_none fun env μ => by rw [evT] <;> (intros; contradiction)
  | .rngL2 _ _, X, sc, e, G, h => sT_none fun env μ => by rw [evT] <;> (intros; contradiction)
  | .rngL _, X, sc, e, G, h => sT_none fun env μ => by rw [evT] <;> (intros; contradiction)
  | .rev _, X, sc, e, G, h => sT_none fun env μ => by rw [evT] <;> (intros; contradiction)
  | .cmp op a b, X, sc, e, G, h => by
    obtain ⟨x, o, y, p, rfl, ⟨rfl, h1⟩, h2⟩ := mE_cmp h
    exact sT_cmp G (marks_of (mE_noset h2)) (peE a X sc x G h1) (peE b X sc y G h2)
  | .isN a, X, sc, e, G, h => by
    obtain ⟨x, n, p2, p, rfl, h1⟩ := mE_isN h
    exact sT_isN (peE a X sc x G h1)
  | .notN a, X, sc, e, G, h => by
    obtain ⟨x, n, p2, p, rfl, h1⟩ := mE_notN h
    exact sT_notN (peE a X sc x G h1)
  | .not a, X, sc, e, G, h => by
    obtain ⟨x, p, rfl, h1⟩ := mE_not h
    refine PT.imp (pt_not (ptE a X sc x G h1)) fun σ H Q q => ?_
    obtain ⟨B, F, ρ, env, μ, d, μ', S, he, q⟩ := q
    rw [evT] at he
    obtain ⟨⟨b, μ1⟩, h2, h3⟩ := Option.map_eq_some_iff.mp he
    cases h3
    exact RE.go S h2 fun v F1 H1 ρ1 e1 S1 r1 => q _ F1 H1 ρ1 e1 S1.fh S1.cells (by rw [r1])
  | .and a r, X, sc, e, G, h => by
    obtain ⟨x, xs, p, rfl, h1, h2⟩ := mE_and h
    refine PT.imp (PW.pt (ptAnd r X sc xs a x p G (ptE a X sc x G h1) h2)) fun σ H Q q => ?_
    obtain ⟨B, F, ρ, env, μ, d, μ', S, he, q⟩ := q
    rw [evT] at he
    exact ⟨B, F, ρ, env, μ, d, μ', S, he, q⟩
  | .or a r, X, sc, e, G, h => by
    obtain ⟨x, xs, p, rfl, h1, h2⟩ := mE_or h
    refine PT.imp (PW.pt (ptOr r X sc xs a x p G (ptE a X sc x G h1) h2)) fun σ H Q q => ?_
    obtain ⟨B, F, ρ, env, μ, d, μ', S, he, q⟩ := q
    rw [evT] at he
    exact ⟨B, F, ρ, env, μ, d, μ', S, he, q⟩
  | .bor i a, X, sc, e, G, h => sT_bor (ptE a X sc e G (mE_bor h))
  | .ite _ _ _, X, sc, e, G, h => sT_none fun _ _ => by rw [evT]
  | .glob _, X, sc, e, G, h => sT_none fun _ _ => by rw [evT] <;> (intros; contradiction)
  | .int _, X, sc, e, G, h => sT_none fun _ _ => by rw [evT] <;> (intros; contradiction)
  | .bl _, X, sc, e, G, h => sT_none fun _ _ => by rw [evT] <;> (intros; contradiction)
  | .non, X, sc, e, G, h => sT_none fun _ _ => by rw [evT] <;> (intros; contradiction)
  | .str _, X, sc, e, G, h => sT_none fun _ _ => by rw [evT] <;> (intros; contradiction)
  | .bin _ _ _, X, sc, e, G, h => sT_none fun _ _ => by rw [evT] <;> (intros; contradiction)
  | .neg _, X, sc, e, G, h => sT_none fun _ _ => by rw [evT] <;> (intros; contradiction)
  | .tup _, X, sc, e, G, h => sT_none fun _ _ => by rw [evT] <;> (intros; contradiction)
  | .lst _, X, sc, e, G, h => sT_none fun _ _ => by rw [evT] <;> (intros; contradiction)
  | .mlst _, X, sc, e, G, h => sT_none fun _ _ => by rw [evT] <;> (intros; contradiction)
  | .slc _ _ _, X, sc, e, G, h => sT_none fun _ _ => by rw [evT] <;> (intros; contradiction)
  | .lc _ _ _ _ _, X, sc, e, G, h => sT_none fun _ _ => by rw [evT] <;> (intros; contradiction)
theorem pAnd : ∀ (r : Es) (X : Cx) (sc : Scope) (xs : List Expr) (a : E) (x : Expr) (p : Pos), CG C Φ Γ k X sc → PE X x (tE X.K Φ Γ a) → mEs C sc r xs = true → PE X (.BoolOp .And (x :: xs) p) (tAnd X.K Φ Γ a r)
  | .nil, X, sc, xs, a, x, p, G, ha, h => by rw [mEs_nil h]; exact s_and1 ha
  | .cons b r, X, sc, xs, a, x, p, G, ha, h => by
    obtain ⟨y, ys, rfl, h1, h2⟩ := mEs_cons h
    exact s_and2 ha (pAnd r X sc ys b y p G (peE b X sc y G h1) h2)
theorem pOr : ∀ (r : Es) (X : Cx) (sc : Scope) (xs : List Expr) (a : E) (x : Expr) (p : Pos), CG C Φ Γ k X sc → PE X x (tE X.K Φ Γ a) → mEs C sc r xs = true → PE X (.BoolOp .Or (x :: xs) p) (tOr X.K Φ Γ a r)
  | .nil, X, sc, xs, a, x, p, G, ha, h => by rw [mEs_nil h]; exact s_or1 ha
  | .cons b r, X, sc, xs, a, x, p, G, ha, h => by
    obtain ⟨y, ys, rfl, h1, h2⟩ := mEs_cons h
    exact s_or2 ha (pOr r X sc ys b y p G (peE b X sc y G h1) h2)
theorem ptAnd : ∀ (r : Es) (X : Cx) (sc : Scope) (xs : List Expr) (a : E) (x : Expr) (p : Pos), CG C Φ Γ k X sc → PT X x (tT X.K Φ Γ a) → mEs C sc r xs = true → PW X (.BoolOp .And (x :: xs) p) (tTAnd X.K Φ Γ a r)
  | .nil, X, sc, xs, a, x, p, G, ha, h => by rw [mEs_nil h]; exact sT_and1 ha
  | .cons b r, X, sc, xs, a, x, p, G, ha, h => by
    obtain ⟨y, ys, rfl, h1, h2⟩ := mEs_cons h
    exact sT_and2 ha (ptAnd r X sc ys b y p G (ptE b X sc y G h1) h2)
theorem ptOr : ∀ (r : Es) (X : Cx) (sc : Scope) (xs : List Expr) (a : E) (x : Expr) (p : Pos), CG C Φ Γ k X sc → PT X x (tT X.K Φ Γ a) → mEs C sc r xs = true → PW X (.BoolOp .Or (x :: xs) p) (tTOr X.K Φ Γ a r)
  | .nil, X, sc, xs, a, x, p, G, ha, h => by rw [mEs_nil h]; exact sT_or1 ha
  | .cons b r, X, sc, xs, a, x, p, G, ha, h => by
    obtain ⟨y, ys, rfl, h1, h2⟩ := mEs_cons h
    exact sT_or2 ha (ptOr r X sc ys b y p G (ptE b X sc y G h1) h2)
theorem paEs : ∀ (ms : Es) (X : Cx) (sc : Scope) (es : List Expr), CG C Φ Γ k X sc → mEs C sc ms es = true → PA X es (tEs X.K Φ Γ ms)
  | .nil, X, sc, es, G, h => by rw [mEs_nil h]; exact pa_nil'
  | .cons m ms, X, sc, es, G, h => by
    obtain ⟨y, ys, rfl, h1, h2⟩ := mEs_cons h
    exact pa_two (peE m X sc y G h1) (mE_nostar h1).1 (paEs ms X sc ys G h2)
theorem poEo : ∀ (m : Eo) (X : Cx) (sc : Scope) (e : Option Expr), CG C Φ Γ k X sc → mEo C sc m e = true → PO X e (tO X.K Φ Γ m)
  | .none, X, sc, e, G, h => by rw [mEo_none h]; exact po_none'
  | .some m, X, sc, e, G, h => by
    obtain ⟨y, rfl, h1⟩ := mEo_some h
    exact po_some' (peE m X sc y G h1)
theorem pcEo : ∀ (m : Eo) (X : Cx) (sc : Scope) (e : List Expr), CG C Φ Γ k X sc → mEc C sc m e = true → PTs X e (tC X.K Φ Γ m)
  | .none, X, sc, e, G, h => by rw [mEc_none h]; exact pc_none'
  | .some m, X, sc, e, G, h => by
    obtain ⟨y, rfl, h1⟩ := mEc_some h
    exact pc_some' (ptE m X sc y G h1)
theorem piI : ∀ (it : I) (X : Cx) (sc : Scope) (e tg : Expr), CG C Φ Γ k X sc → mI C sc it e (isTup tg) = true → PI X tg e (tI X.K Φ Γ it)
  | .seq a, X, sc, e, tg, G, h => s_seq (peE a X sc e G (mI_seq h))
  | .rng1 a, X, sc, e, tg, G, h => by
    obtain ⟨f, p2, y, p, rfl, ⟨rfl, h1⟩, h2⟩ := mI_rng1 h
    exact s_rng1 G h1 (peE a X sc y G h2) (mE_nostar h2).1
  | .rngD a, X, sc, e, tg, G, h => by
    obtain ⟨f, p2, y, k1, p3, p4, k2, p5, p6, p, rfl, ⟨rfl, h1⟩, h2⟩ := mI_rngD h
    exact s_rngD G h1 (peE a X sc y G h2) (mE_nostar h2).1
  | .rng2 a b, X, sc, e, tg, G, h => by
    obtain ⟨f, p2, y, z, p, rfl, ⟨⟨rfl, h1⟩, h2⟩, h3⟩ := mI_rng2 h
    exact s_rng2 G h1 (peE a X sc y G h2) (peE b X sc z G h3) (mE_nostar h2).1 (mE_nostar h3).1
  | .zip a b, X, sc, e, tg, G, h => by
    obtain ⟨f, p2, y, z, p, rfl, ⟨⟨⟨hk, rfl⟩, h1⟩, h2⟩, h3⟩ := mI_zip h
    exact s_zip G h1 hk (peE a X sc y G h2) (peE b X sc z G h3) (mE_nostar h2).1 (mE_nostar h3).1
  | .enum a, X, sc, e, tg, G, h => by
    obtain ⟨f, p2, y, p, rfl, ⟨⟨hk, rfl⟩, h1⟩, h2⟩ := mI_enum h
    exact s_enum G h1 hk (peE a X sc y G h2) (mE_nostar h2).1
end
end
end Py
end
section
set_option Elab.async false
set_option linter.all false
set_option maxRecDepth 100000
set_option maxHeartbeats 4000000
namespace Py
open PySem L2 RZ
def asgOk (tg x : Expr) : Bool := match x with
  | .ListComp .. => (match tg with | .Name .. => true | .Tuple .. => true | _ => false)
  | .SetComp .. => false
  | .DictComp .. => false
  | .Tuple .. => (match tg with | .Tuple .. => false | .List .. => false | _ => true)
  | _ => true
def isLc : Expr → Bool
  | .ListComp .. => true | _ => false
def isCall : Expr → Bool
  | .Call .. => true | _ => false
def isSub : Expr → Bool
  | .Subscript .. => true | _ => false
def isNew : E → Bool
  | .lst _ => true | .lc .. => true | .bi .list _ _ => true
  | .ite _ (.lst _) (.lst _) => true
  | _ => false
def lclB (sc : Scope) (x : Str) : Bool := match sc.names.lookup x with
  | some .local => true | _ => false
mutual
def mS (C : MC) (sc : Scope) : S → Stmt → Bool
  | .app i e, .Expr (.Call (.Attribute (.Name x _) m p2) [y] [] p3) _ => decide (C.N[i]? = some x) && visB sc x && okName x && decide (m = ("append" : Str)) && (p2.endLine == p3.line) && mE C sc e y
  | .expr e, .Expr x _ => isCall x && mE C sc e x
  | .asg t e, .Assign [tg] x _ => mT C sc t tg && mE C sc e x && asgOk tg x
  | .asgN i e, .Assign [.Name y py] x _ => mT C sc (.nm i) (.Name y py) && mE C sc e x && isNew e
  | .par i j a b, .Assign [.Tuple [.Name x px, .Name y py] _ _] (.Tuple [u, v] _ _) _ => decide (C.N[i]? = some x) && decide (C.N[j]? = some y) && decide (i ≠ j) && lclB sc x && lclB sc y && decide (px.line = py.line) && mE C sc a u && mE C sc b v && !(foldedForSure 8 u && foldedForSure 8 v) && !(constantsAlone 8 u && constantsAlone 8 v)
  | .aug i op e, .AugAssign (.Name x _) op' y _ => decide (C.N[i]? = some x) && locB sc x && decide (op = op') && mE C sc e y
  | .setm o i e, .Assign [.Subscript x y _] z _ => mE C sc o x && mE C sc i y && mE C sc e z && !sliceB y && asgOk (.Name "" ⟨0, 0, 0, 0⟩) z && !isLc z
  | .ret e, .Return (some x) _ => mE C sc e x
  | .retN, .Return none _ => true
  | .iff c a b, .If x ys zs _ => mE C sc c x && mSs C sc a ys && mSs C sc b zs
  | .wh c b, .While x ys [] _ => mE C sc c x && mSs C sc b ys
  | .for t it b, .For tg x ys [] _ => mT C sc t tg && mI C sc it x (isTup tg) && mSs C sc b ys
  | .brk, .Break _ => true
  | .cont, .Continue _ => true
  | .pass, .Pass _ => true
  | .frz _ s, x => mS C sc s x
  | .ext i e, .Expr (.Call (.Attribute (.Name x _) m p2) [y] [] p3) _ => decide (C.N[i]? = some x) && visB sc x && okName x && decide (m = ("extend" : Str)) && (p2.endLine == p3.line) && mE C sc e y
  | .dNew i, .Assign [.Name y py] (.Dict [] [] _) _ => mT C sc (.nm i) (.Name y py)
  | .setO i a e, .Assign [.Subscript (.Name y _) u _] z _ => decide (C.N[i]? = some y) && visB sc y && okName y && mE C sc a u && mE C sc e z && !sliceB u && asgOk (.Name "" ⟨0, 0, 0, 0⟩) z && !isLc z
  | .kNew i, .Assign [.Name y py] (.Dict [] [] _) _ => mT C sc (.nm i) (.Name y py)
  | .kPut i a e, .Assign [.Subscript (.Name y _) u _] z _ => decide (C.N[i]? = some y) && visB sc y && okName y && mE C sc a u && mE C sc e z && !sliceB u && asgOk (.Name "" ⟨0, 0, 0, 0⟩) z && !isLc z
  | .dPut i a e, .Assign [.Subscript (.Name y _) u _] z _ => decide (C.N[i]? = some y) && visB sc y && okName y && mE C sc a u && mE C sc e z && !sliceB u && asgOk (.Name "" ⟨0, 0, 0, 0⟩) z && !isLc z
  | _, _ => false
def mSs (C : MC) (sc : Scope) : List S → List Stmt → Bool
  | [], [] => true
  | s :: r, x :: xs => mS C sc s x && mSs C sc r xs
  | _, _ => false
end
section
variable {C : MC} {sc : Scope} {e : Stmt}
theorem mS_app {i : Nat} {a : E} (h : mS C sc (.app i a) e = true) : ∃ x p1 m p2 y p3 p, e = .Expr (.Call (.Attribute (.Name x p1) m p2) [y] [] p3) p ∧ ((((C.N[i]? = some x ∧ visB sc x = true) ∧ okName x = true) ∧ m = ("append" : Str)) ∧ (p2.endLine == p3.line) = true) ∧ mE C sc a y = true := by
  unfold mS at h
  split at h <;> first | contradiction | skip
  rename_i q; cases q
  simp only [Bool.and_eq_true, decide_eq_true_eq] at h
  exact ⟨_, _, _, _, _, _, _, rfl, h⟩
theorem mS_ext {i : Nat} {a : E} (h : mS C sc (.ext i a) e = true) : ∃ x p1 m p2 y p3 p, e = .Expr (.Call (.Attribute (.Name x p1) m p2) [y] [] p3) p ∧ ((((C.N[i]? = some x ∧ visB sc x = true) ∧ okName x = true) ∧ m = ("extend" : Str)) ∧ (p2.endLine == p3.line) = true) ∧ mE C sc a y = true := by
  unfold mS at h
  split at h <;> first | contradiction | skip
  rename_i q; cases q
  simp only [Bool.and_eq_true, decide_eq_true_eq] at h
  exact ⟨_, _, _, _, _, _, _, rfl, h⟩
theorem mS_expr {a : E} (h : mS C sc (.expr a) e = true) : ∃ x p, e = .Expr x p ∧ isCall x = true ∧ mE C sc a x = true := by
  unfold mS at h
  split at h <;> first | contradiction | skip
  rename_i q; cases q
  simp only [Bool.and_eq_true, decide_eq_true_eq] at h
  exact ⟨_, _, rfl, h⟩
theorem mS_asg {t : T} {a : E} (h : mS C sc (.asg t a) e = true) : ∃ tg x p, e = .Assign [tg] x p ∧ (mT C sc t tg = true ∧ mE C sc a x = true) ∧ asgOk tg x = true := by
  unfold mS at h
  split at h <;> first | contradiction | skip
  rename_i q; cases q
  simp only [Bool.and_eq_true, decide_eq_true_eq] at h
  exact ⟨_, _, _, rfl, h⟩
theorem mS_asgN {i : Nat} {a : E} (h : mS C sc (.asgN i a) e = true) : ∃ y py x p, e = .Assign [.Name y py] x p ∧ (mT C sc (.nm i) (.Name y py) = true ∧ mE C sc a x = true) ∧ isNew a = true := by
  unfold mS at h
  split at h <;> first | contradiction | skip
  rename_i q; cases q
  simp only [Bool.and_eq_true, decide_eq_true_eq] at h
  exact ⟨_, _, _, _, rfl, h⟩
theorem mS_par {i j : Nat} {a b : E} (h : mS C sc (.par i j a b) e = true) : ∃ x px y py k1 p1 u v k2 p2 p, e = .Assign [.Tuple [.Name x px, .Name y py] k1 p1] (.Tuple [u, v] k2 p2) p ∧
    ((((((((C.N[i]? = some x ∧ C.N[j]? = some y) ∧ i ≠ j) ∧ lclB sc x = true) ∧ lclB sc y = true) ∧ px.line = py.line) ∧ mE C sc a u = true) ∧ mE C sc b v = true) ∧ (foldedForSure 8 u && foldedForSure 8 v) = false) ∧ (constantsAlone 8 u && constantsAlone 8 v) = false := by
  unfold mS at h
  split at h <;> first | contradiction | skip
  rename_i q; cases q
  rw [Bool.and_eq_true, Bool.and_eq_true, Bool.not_eq_true', Bool.not_eq_true'] at h
  obtain ⟨⟨h, h1⟩, h2⟩ := h
  simp only [Bool.and_eq_true, decide_eq_true_eq] at h
  exact ⟨_, _, _, _, _, _, _, _, _, _, _, rfl, ⟨h, h1⟩, h2⟩
theorem mS_aug {i : Nat} {op : Operator} {a : E} (h : mS C sc (.aug i op a) e = true) : ∃ x p1 o y p, e = .AugAssign (.Name x p1) o y p ∧ ((C.N[i]? = some x ∧ locB sc x = true) ∧ op = o) ∧ mE C sc a y = true := by
  unfold mS at h
  split at h <;> first | contradiction | skip
  rename_i q; cases q
  simp only [Bool.and_eq_true, decide_eq_true_eq] at h
  exact ⟨_, _, _, _, _, rfl, h⟩
theorem mS_setm {o i a : E} (h : mS C sc (.setm o i a) e = true) : ∃ x y p1 z p, e = .Assign [.Subscript x y p1] z p ∧ ((((mE C sc o x = true ∧ mE C sc i y = true) ∧ mE C sc a z = true) ∧ sliceB y = false) ∧ asgOk (.Name "" ⟨0, 0, 0, 0⟩) z = true) ∧ isLc z = false := by
  unfold mS at h
  split at h <;> first | contradiction | skip
  rename_i q; cases q
  simp only [Bool.and_eq_true, Bool.not_eq_true'] at h
  exact ⟨_, _, _, _, _, rfl, h⟩
theorem mS_dNew {i : Nat} (h : mS C sc (.dNew i) e = true) : ∃ y py p1 p, e = .Assign [.Name y py] (.Dict [] [] p1) p ∧ mT C sc (.nm i) (.Name y py) = true := by
  unfold mS at h
  split at h <;> first | contradiction | skip
  rename_i q; cases q
  exact ⟨_, _, _, _, rfl, h⟩
theorem mS_setO {i : Nat} {b a : E} (h : mS C sc (.setO i b a) e = true) : ∃ y p2 u p1 z p, e = .Assign [.Subscript (.Name y p2) u p1] z p ∧ ((((((C.N[i]? = some y ∧ visB sc y = true) ∧ okName y = true) ∧ mE C sc b u = true) ∧ mE C sc a z = true) ∧ sliceB u = false) ∧ asgOk (.Name "" ⟨0, 0, 0, 0⟩) z = true) ∧ isLc z = false := by
  unfold mS at h
  split at h <;> first | contradiction | skip
  rename_i q; cases q
  simp only [Bool.and_eq_true, Bool.not_eq_true', decide_eq_true_eq] at h
  exact ⟨_, _, _, _, _, _, rfl, h⟩
theorem mS_dPut {i : Nat} {b a : E} (h : mS C sc (.dPut i b a) e = true) : ∃ y p2 u p1 z p, e = .Assign [.Subscript (.Name y p2) u p1] z p ∧ ((((((C.N[i]? = some y ∧ visB sc y = true) ∧ okName y = true) ∧ mE C sc b u = true) ∧ mE C sc a z = true) ∧ sliceB u = false) ∧ asgOk (.Name "" ⟨0, 0, 0, 0⟩) z = true) ∧ isLc z = false := by
  unfold mS at h
  split at h <;> first | contradiction | skip
  rename_i q; cases q
  simp only [Bool.and_eq_true, Bool.not_eq_true', decide_eq_true_eq] at h
  exact ⟨_, _, _, _, _, _, rfl, h⟩
theorem mS_kNew {i : Nat} (h : mS C sc (.kNew i) e = true) : ∃ y py p1 p, e = .Assign [.Name y py] (.Dict [] [] p1) p ∧ mT C sc (.nm i) (.Name y py) = true := by
  unfold mS at h
  split at h <;> first | contradiction | skip
  rename_i q; cases q
  exact ⟨_, _, _, _, rfl, h⟩
theorem mS_kPut {i : Nat} {b a : E} (h : mS C sc (.kPut i b a) e = true) : ∃ y p2 u p1 z p, e = .Assign [.Subscript (.Name y p2) u p1] z p ∧ ((((((C.N[i]? = some y ∧ visB sc y = true) ∧ okName y = true) ∧ mE C sc b u = true) ∧ mE C sc a z = true) ∧ sliceB u = false) ∧ asgOk (.Name "" ⟨0, 0, 0, 0⟩) z = true) ∧ isLc z = false := by
  unfold mS at h
  split at h <;> first | contradiction | skip
  rename_i q; cases q
  simp only [Bool.and_eq_true, Bool.not_eq_true', decide_eq_true_eq] at h
  exact ⟨_, _, _, _, _, _, rfl, h⟩
theorem mS_ret {a : E} (h : mS C sc (.ret a) e = true) : ∃ x p, e = .Return (some x) p ∧ mE C sc a x = true := by
  unfold mS at h
  split at h <;> first | contradiction | skip
  rename_i q; cases q
  exact ⟨_, _, rfl, h⟩
theorem mS_retN (h : mS C sc .retN e = true) : ∃ p, e = .Return none p := by
  unfold mS at h
  split at h <;> first | contradiction | skip
  exact ⟨_, rfl⟩
theorem mS_iff {c : E} {a b : List S} (h : mS C sc (.iff c a b) e = true) : ∃ x ys zs p, e = .If x ys zs p ∧ (mE C sc c x = true ∧ mSs C sc a ys = true) ∧ mSs C sc b zs = true := by
  unfold mS at h
  split at h <;> first | contradiction | skip
  rename_i q; cases q
  simp only [Bool.and_eq_true] at h
  exact ⟨_, _, _, _, rfl, h⟩
theorem mS_wh {c : E} {b : List S} (h : mS C sc (.wh c b) e = true) : ∃ x ys p, e = .While x ys [] p ∧ mE C sc c x = true ∧ mSs C sc b ys = true := by
  unfold mS at h
  split at h <;> first | contradiction | skip
  rename_i q; cases q
  simp only [Bool.and_eq_true] at h
  exact ⟨_, _, _, rfl, h⟩
theorem mS_for {t : T} {it : I} {b : List S} (h : mS C sc (.for t it b) e = true) : ∃ tg x ys p, e = .For tg x ys [] p ∧ (mT C sc t tg = true ∧ mI C sc it x (isTup tg) = true) ∧ mSs C sc b ys = true := by
  unfold mS at h
  split at h <;> first | contradiction | skip
  rename_i q; cases q
  simp only [Bool.and_eq_true] at h
  exact ⟨_, _, _, _, rfl, h⟩
theorem mS_brk (h : mS C sc .brk e = true) : ∃ p, e = .Break p := by
  unfold mS at h
  split at h <;> first | contradiction | skip
  exact ⟨_, rfl⟩
theorem mS_cont (h : mS C sc .cont e = true) : ∃ p, e = .Continue p := by
  unfold mS at h
  split at h <;> first | contradiction | skip
  exact ⟨_, rfl⟩
theorem mS_pass (h : mS C sc .pass e = true) : ∃ p, e = .Pass p := by
  unfold mS at h
  split at h <;> first | contradiction | skip
  exact ⟨_, rfl⟩
theorem mS_frz {i : Nat} {s : S} (h : mS C sc (.frz i s) e = true) : mS C sc s e = true := by
  rw [mS] at h; exact h
end
/-! ### what becomes of the stores of an assignment -/
theorem blockKind_fn {env : PySem.Env} (h : env.scope.kind = .function) : env.blockKind = .function := by unfold PySem.Env.blockKind; rw [h]; rfl
theorem swap_lc {elt : Expr} {gs : List Comprehension} {scope : Scope} {pos py : Pos} {y : Str} {l : Nat} {env : PySem.Env} (hk : env.scope.kind = .function) :
    swapsWith (.ListComp elt gs scope pos) (some (.Name y py)) l env = pure (env.kindOf y == some .local && py.line == pos.line && !(scope.names.any fun (n, k) => n == y && (k == .local || k == .cell))) := by
  unfold swapsWith
  simp only [blockKind_fn hk, Expr.pos]
  rfl
theorem swap_plain {tg x : Expr} {l : Nat} {env : PySem.Env} (h : asgOk tg x = true) (hn : isLc x = false) : swapsWithSole [tg] x l env = pure false := by
  unfold swapsWithSole swapsWith
  cases x <;> first | rfl | (cases hn; done) | (unfold asgOk at h; cases h)
theorem swap_sub {o i x : Expr} {q : Pos} {l : Nat} {env : PySem.Env} (h : asgOk (.Name "" ⟨0, 0, 0, 0⟩) x = true) (hn : isLc x = false) : swapsWith x (some (.Subscript o i q)) l env = pure false := by
  unfold swapsWith
  cases x <;> first | rfl | (cases hn; done) | (unfold asgOk at h; cases h)
theorem stores_plain {tg x : Expr} {env : PySem.Env} (h : asgOk tg x = true) : swappedStores [tg] x env = pure none := by
  unfold swappedStores
  cases x <;> cases tg <;> first | rfl | (unfold asgOk at h; cases h)
theorem stores_par {x y : Str} {px py p1 p2 : Pos} {k1 k2 : Nat} {u v : Expr} {env : PySem.Env} (hk : env.scope.kind = .function) (hx : env.kindOf x = some .local) (hy : env.kindOf y = some .local) (hne : x ≠ y) (hl : px.line = py.line)
    (n1 : ∀ w p, u ≠ .Starred w p) (n2 : ∀ w p, v ≠ .Starred w p) (h1 : (foldedForSure 8 u && foldedForSure 8 v) = false) (h2 : (constantsAlone 8 u && constantsAlone 8 v) = false) :
    swappedStores [.Tuple [.Name x px, .Name y py] k1 p1] (.Tuple [u, v] k2 p2) env = pure (some [x, y]) := by
  have hs : ([u, v].any fun | .Starred .. => true | _ => false) = false := by
    have f : ∀ w : Expr, (∀ a p, w ≠ .Starred a p) → (match w with | .Starred .. => true | _ => false) = false := fun w hw => by
      cases w <;> first | rfl | exact absurd rfl (hw _ _)
    simp only [List.any_cons, List.any_nil, f u n1, f v n2, Bool.or_false]
  have hf : [u, v].all (foldedForSure 8) = false := by simpa using h1
  have hc : [u, v].all (constantsAlone 8) = false := by simpa using h2
  have hxy : (y == x) = false := by simpa using fun z => hne z.symm
  unfold swappedStores
  simp only [blockKind_fn hk, hs, hf, hc]
  simp [Expr.pos, hx, hy, hl, List.eraseDups, List.eraseDupsBy, List.eraseDupsBy.loop, hxy, hne]
end Py
end
section
set_option Elab.async false
set_option linter.all false
set_option maxRecDepth 100000
set_option maxHeartbeats 4000000
namespace Py
open PySem L2 RZ
/-! ### statements by data; F0, B0, ρ0: the entry -/
structure Gr (F : Hp) (ρ : List Addr) (F' : Hp) (ρ' : List Addr) : Prop where
  ff : Same F F'
  rr : ∀ (i : Nat) (a : Addr), ρ[i]? = some a → ρ'[i]? = some a
theorem Gr.refl {F : Hp} {ρ : List Addr} : Gr F ρ F ρ := ⟨Same.refl _, fun _ _ h => h⟩
theorem Gr.trans {F F' F'' : Hp} {ρ ρ' ρ'' : List Addr} (a : Gr F ρ F' ρ') (b : Gr F' ρ' F'' ρ'') : Gr F ρ F'' ρ'' := ⟨a.ff.trans b.ff, fun i x h => b.rr i x (a.rr i x h)⟩
theorem Ext.gr {F H F' H' : Hp} {ρ ρ' : List Addr} (e : Ext F H ρ F' H' ρ') : Gr F ρ F' ρ' := ⟨e.ff, e.rr⟩
def PostS (K : PySem.W.Frag) (F0 B0 : Hp) (ρ0 : List Addr) (F : Hp) (ρ : List Addr) (D : Ends) : Fl → Prop
  | .nx env' μ' => ∀ σ' F' H' ρ', SR K B0 F' H' ρ' σ' env' μ' → Ext F0 B0 ρ0 F' H' ρ' → Gr F ρ F' ρ' → D.nx σ' H'
  | .bk env' μ' => ∀ σ' F' H' ρ', SR K B0 F' H' ρ' σ' env' μ' → Ext F0 B0 ρ0 F' H' ρ' → Gr F ρ F' ρ' → D.bk σ' H'
  | .ct env' μ' => ∀ σ' F' H' ρ', SR K B0 F' H' ρ' σ' env' μ' → Ext F0 B0 ρ0 F' H' ρ' → Gr F ρ F' ρ' → D.ct σ' H'
  | .rt d μ' => ∀ v F' H' ρ', Ext F0 B0 ρ0 F' H' ρ' → Same F' H' → Cells K F' H' ρ' μ' → Dr K F' ρ' v d → D.rt v H'
def RS (K : PySem.W.Frag) (f : Env → Store → Option Fl) : TS := fun D σ H => ∃ F0 B0 ρ0 F ρ env μ r, SR K B0 F H ρ σ env μ ∧ Ext F0 B0 ρ0 F H ρ ∧ f env μ = some r ∧ PostS K F0 B0 ρ0 F ρ D r
theorem PostS.grow {K : PySem.W.Frag} {F0 B0 : Hp} {ρ0 : List Addr} {F F1 : Hp} {ρ ρ1 : List Addr} {D : Ends} {r : Fl} (q : PostS K F0 B0 ρ0 F ρ D r) (g : Gr F ρ F1 ρ1) : PostS K F0 B0 ρ0 F1 ρ1 D r := by
  cases r with
  | nx e m => exact fun σ' F' H' ρ' S E G => q σ' F' H' ρ' S E (g.trans G)
  | bk e m => exact fun σ' F' H' ρ' S E G => q σ' F' H' ρ' S E (g.trans G)
  | ct e m => exact fun σ' F' H' ρ' S E G => q σ' F' H' ρ' S E (g.trans G)
  | rt d m => exact q
def tS (K : PySem.W.Frag) (Φ : FnS) (Γ : GlS) (s : S) : TS := RS K (ex Φ Γ s)
def tSs (K : PySem.W.Frag) (Φ : FnS) (Γ : GlS) (s : List S) : TS := RS K (exs Φ Γ s)
theorem PS.imp {X : Cx} {e : Stmt} {t t' : TS} (h : PS X e t) (w : ∀ D σ H, t' D σ H → t D σ H) : PS X e t' := ⟨fun pins s σ H D I q => h.run pins s σ H D I (w D σ H q)⟩
theorem PSs.imp {X : Cx} {e : List Stmt} {t t' : TS} (h : PSs X e t) (w : ∀ D σ H, t' D σ H → t D σ H) : PSs X e t' := ⟨fun pins s σ H D I q => h.run pins s σ H D I (w D σ H q)⟩
section
variable {K : PySem.W.Frag} {B F H : Hp} {ρ : List Addr} {σ : L2.St} {env : Env} {μ : Store}
/-- an own list is written -/
theorem SR.own_write (S : SR K B F H ρ σ env μ) {i : Nat} {ds es : List D} {a : Addr} {ys : List V} (he : env[i]? = some (some (.own ds))) (hσ : σ[i]? = some (some (.ref a))) (hF : F a = none) (hρ : a ∉ ρ) (hB : B a = none) (r : DrL K F ρ ys es) :
    SR K B F (upd H a (.lst ys)) ρ σ (env.set i (some (.own es))) μ := by
  have hi : i < env.length := (List.getElem?_eq_some_iff.mp he).1
  have hcase : ∀ {j : Nat} {fs : List D}, (env.set i (some (.own es)))[j]? = some (some (.own fs)) → ∃ gs, env[j]? = some (some (.own gs)) := fun {j fs} h => by
    by_cases q : i = j
    · subst q; exact ⟨ds, he⟩
    · rw [List.getElem?_set_ne q] at h; exact ⟨fs, h⟩
  refine ⟨fun b u h => ?_, ⟨S.cells.len, S.cells.nd, fun j b fs h1 h2 => ?_⟩, ⟨by rw [List.length_set]; exact S.env.len, fun j sv h => ?_, fun j l fs gs b h1 h2 h3 h4 => ?_, fun j l t u fs gs b h1 h2 h3 h4 => ?_⟩⟩
  · rw [upd_ne (ne_of_none h hF)]; exact S.fh b u h
  · obtain ⟨z1, zs, z2, z3⟩ := S.cells.at_ j b fs h1 h2
    exact ⟨z1, zs, by rw [upd_ne (fun z => hρ (by rw [← z]; exact List.mem_of_getElem? h1))]; exact z2, z3⟩
  · by_cases q : i = j
    · subst q
      rw [List.getElem?_set_self hi] at h
      cases h
      exact ⟨_, hσ, a, ys, rfl, upd_same, r, hF, hρ, hB⟩
    · rw [List.getElem?_set_ne q] at h
      obtain ⟨w, h1, h2⟩ := S.env.at_ j sv h
      refine ⟨w, h1, ?_⟩
      cases sv with
      | val d => exact h2
      | own fs =>
        obtain ⟨b, zs, rfl, k2, k3, k4, k5, k6⟩ := h2
        have nb : b ≠ a := fun z => q (S.env.apart i j ds fs a he h hσ (by rw [← z]; exact h1))
        exact ⟨b, zs, rfl, by rw [upd_ne nb]; exact k2, k3, k4, k5, k6⟩
      | dct t fs =>
        obtain ⟨b, rfl, k2, k4, k5, k6⟩ := h2
        have nb : b ≠ a := by
          obtain ⟨v, j1, al, ws, e1, j2, _⟩ := S.env.at_ _ _ he
          rw [hσ] at j1
          cases j1
          cases e1
          exact k2.ne_lst j2
        exact ⟨b, rfl, k2.mono (Same.refl _) (fun _ _ h => h) (fun _ h => by rw [upd_ne nb]; exact h), k4, k5, k6⟩
  · obtain ⟨fs', g1⟩ := hcase h1
    obtain ⟨gs', g2⟩ := hcase h2
    exact S.env.apart j l fs' gs' b g1 g2 h3 h4
  · have ne : ∀ {j : Nat} {t : Bool} {fs : List (NestedKey × D)}, (env.set i (some (.own es)))[j]? = some (some (.dct t fs)) → i ≠ j := fun {j t fs} h q => by
      subst q
      rw [List.getElem?_set_self hi] at h; cases h
    rw [List.getElem?_set_ne (ne h1)] at h1
    rw [List.getElem?_set_ne (ne h2)] at h2
    exact S.env.apd j l t u fs gs b h1 h2 h3 h4
/-- a new own list at a slot -/
theorem SR.own_new (S : SR K B F H ρ σ env μ) {i : Nat} {es : List D} {a : Addr} {ys : List V} (hi : i < env.length) (hH : H a = some (.lst ys)) (hF : F a = none) (hρ : a ∉ ρ) (hB : B a = none) (hn : ∀ (j : Nat) (fs : List D), env[j]? = some (some (.own fs)) → σ[j]? ≠ some (some (.ref a))) (r : DrL K F ρ ys es) :
    SR K B F H ρ (σ.set i (some (.ref a))) (env.set i (some (.own es))) μ := by
  have hl : i < σ.length := by rw [S.env.len]; exact hi
  refine ⟨S.fh, S.cells, ⟨by rw [List.length_set, List.length_set]; exact S.env.len, fun j sv h => ?_, fun j l fs gs b h1 h2 h3 h4 => ?_, fun j l t u fs gs b h1 h2 h3 h4 => ?_⟩⟩
  · by_cases q : i = j
    · subst q
      rw [List.getElem?_set_self hi] at h
      cases h
      exact ⟨_, List.getElem?_set_self hl, a, ys, rfl, hH, r, hF, hρ, hB⟩
    · rw [List.getElem?_set_ne q] at h
      obtain ⟨w, h1, h2⟩ := S.env.at_ j sv h
      exact ⟨w, by rw [List.getElem?_set_ne q]; exact h1, h2⟩
  · by_cases q1 : i = j
    · by_cases q2 : i = l
      · exact q1.symm.trans q2
      · subst q1
        rw [List.getElem?_set_self hl] at h3
        cases h3
        rw [List.getElem?_set_ne q2] at h2 h4
        exact absurd h4 (hn l gs h2)
    · by_cases q2 : i = l
      · subst q2
        rw [List.getElem?_set_self hl] at h4
        cases h4
        rw [List.getElem?_set_ne q1] at h1 h3
        exact absurd h3 (hn j fs h1)
      · rw [List.getElem?_set_ne q1] at h1 h3
        rw [List.getElem?_set_ne q2] at h2 h4
        exact S.env.apart j l fs gs b h1 h2 h3 h4
  · have ne : ∀ {j : Nat} {t : Bool} {fs : List (NestedKey × D)}, (env.set i (some (.own es)))[j]? = some (some (.dct t fs)) → i ≠ j := fun {j t fs} h q => by
      subst q
      rw [List.getElem?_set_self hi] at h; cases h
    have n1 := ne h1
    have n2 := ne h2
    rw [List.getElem?_set_ne n1] at h1 h3
    rw [List.getElem?_set_ne n2] at h2 h4
    exact S.env.apd j l t u fs gs b h1 h2 h3 h4
/-- a new dict at a slot -/
theorem SR.dct_new (S : SR K B F H ρ σ env μ) {i : Nat} {a : Addr} {t0 : Bool} (hi : i < env.length) (hH : DctAt K F H ρ a t0 []) (hF : F a = none) (hρ : a ∉ ρ) (hB : B a = none) (hn : ∀ (j : Nat) (t : Bool) (fs : List (NestedKey × D)), env[j]? = some (some (.dct t fs)) → σ[j]? ≠ some (some (.ref a))) :
    SR K B F H ρ (σ.set i (some (.ref a))) (env.set i (some (.dct t0 []))) μ := by
  have hl : i < σ.length := by rw [S.env.len]; exact hi
  refine ⟨S.fh, S.cells, ⟨by rw [List.length_set, List.length_set]; exact S.env.len, fun j sv h => ?_, fun j l fs gs b h1 h2 h3 h4 => ?_, fun j l t u fs gs b h1 h2 h3 h4 => ?_⟩⟩
  · by_cases q : i = j
    · subst q
      rw [List.getElem?_set_self hi] at h
      cases h
      exact ⟨_, List.getElem?_set_self hl, a, rfl, hH, hF, hρ, hB⟩
    · rw [List.getElem?_set_ne q] at h
      obtain ⟨w', h1, h2⟩ := S.env.at_ j sv h
      exact ⟨w', by rw [List.getElem?_set_ne q]; exact h1, h2⟩
  · have ne : ∀ {j : Nat} {fs : List D}, (env.set i (some (.dct t0 [])))[j]? = some (some (.own fs)) → i ≠ j := fun {j fs} h q => by
      subst q
      rw [List.getElem?_set_self hi] at h; cases h
    have n1 := ne h1
    have n2 := ne h2
    rw [List.getElem?_set_ne n1] at h1 h3
    rw [List.getElem?_set_ne n2] at h2 h4
    exact S.env.apart j l fs gs b h1 h2 h3 h4
  · by_cases q1 : i = j
    · by_cases q2 : i = l
      · exact q1.symm.trans q2
      · subst q1
        rw [List.getElem?_set_self hl] at h3
        cases h3
        rw [List.getElem?_set_ne q2] at h2 h4
        exact absurd h4 (hn l u gs h2)
    · by_cases q2 : i = l
      · subst q2
        rw [List.getElem?_set_self hl] at h4
        cases h4
        rw [List.getElem?_set_ne q1] at h1 h3
        exact absurd h3 (hn j t fs h1)
      · rw [List.getElem?_set_ne q1] at h1 h3
        rw [List.getElem?_set_ne q2] at h2 h4
        exact S.env.apd j l t u fs gs b h1 h2 h3 h4
/-- a dict is written -/
theorem SR.dct_write (S : SR K B F H ρ σ env μ) {i : Nat} {ds es : List (NestedKey × D)} {a : Addr} {t0 : Bool} {ob : HO} (he : env[i]? = some (some (.dct t0 ds))) (hσ : σ[i]? = some (some (.ref a))) (hH : DctAt K F H ρ a t0 ds) (hF : F a = none) (hρ : a ∉ ρ) (hB : B a = none) (r : DctAt K F (upd H a ob) ρ a t0 es) :
    SR K B F (upd H a ob) ρ σ (env.set i (some (.dct t0 es))) μ := by
  have hi : i < env.length := (List.getElem?_eq_some_iff.mp he).1
  have hcase : ∀ {j : Nat} {t : Bool} {fs : List (NestedKey × D)}, (env.set i (some (.dct t0 es)))[j]? = some (some (.dct t fs)) → ∃ u gs, env[j]? = some (some (.dct u gs)) := fun {j t fs} h => by
    by_cases q : i = j
    · subst q; exact ⟨t0, ds, he⟩
    · rw [List.getElem?_set_ne q] at h; exact ⟨t, fs, h⟩
  refine ⟨fun b u h => ?_, ⟨S.cells.len, S.cells.nd, fun j b fs h1 h2 => ?_⟩, ⟨by rw [List.length_set]; exact S.env.len, fun j sv h => ?_, fun j l fs gs b h1 h2 h3 h4 => ?_, fun j l t u fs gs b h1 h2 h3 h4 => ?_⟩⟩
  · rw [upd_ne (ne_of_none h hF)]; exact S.fh b u h
  · obtain ⟨z1, zs, z2, z3⟩ := S.cells.at_ j b fs h1 h2
    exact ⟨z1, zs, by rw [upd_ne (fun z => hρ (by rw [← z]; exact List.mem_of_getElem? h1))]; exact z2, z3⟩
  · by_cases q : i = j
    · subst q
      rw [List.getElem?_set_self hi] at h
      cases h
      exact ⟨_, hσ, a, rfl, r, hF, hρ, hB⟩
    · rw [List.getElem?_set_ne q] at h
      obtain ⟨w', h1, h2⟩ := S.env.at_ j sv h
      refine ⟨w', h1, ?_⟩
      cases sv with
      | val d => exact h2
      | own fs =>
        obtain ⟨b, zs, rfl, k2, k3, k4, k5, k6⟩ := h2
        have nb : b ≠ a := fun z => hH.ne_lst k2 z.symm
        exact ⟨b, zs, rfl, by rw [upd_ne nb]; exact k2, k3, k4, k5, k6⟩
      | dct t fs =>
        obtain ⟨b, rfl, k2, k4, k5, k6⟩ := h2
        have nb : b ≠ a := fun z => q (S.env.apd i j t0 t ds fs a he h hσ (by rw [← z]; exact h1))
        exact ⟨b, rfl, k2.mono (Same.refl _) (fun _ _ h => h) (fun _ h => by rw [upd_ne nb]; exact h), k4, k5, k6⟩
  · have ne : ∀ {j : Nat} {fs : List D}, (env.set i (some (.dct t0 es)))[j]? = some (some (.own fs)) → i ≠ j := fun {j fs} h q => by
      subst q
      rw [List.getElem?_set_self hi] at h; cases h
    rw [List.getElem?_set_ne (ne h1)] at h1
    rw [List.getElem?_set_ne (ne h2)] at h2
    exact S.env.apart j l fs gs b h1 h2 h3 h4
  · obtain ⟨t', fs', g1⟩ := hcase h1
    obtain ⟨u', gs', g2⟩ := hcase h2
    exact S.env.apd j l t' u' fs' gs' b g1 g2 h3 h4
/-- an own list is frozen -/
theorem SR.freeze {F0 : Hp} {ρ0 : List Addr} (S : SR K B F H ρ σ env μ) (E : Ext F0 B ρ0 F H ρ) {i : Nat} {ds : List D} (h : getO env i = some ds) : ∃ F1, SR K B F1 H ρ σ (env.set i (some (.val (.lst ds)))) μ ∧ Ext F0 B ρ0 F1 H ρ ∧ Gr F ρ F1 ρ := by
  have he := getO_eq h
  obtain ⟨v, h1, a, xs, rfl, h2, h3, h4, h5, h6⟩ := S.env.at_ _ _ he
  have hi : i < env.length := (List.getElem?_eq_some_iff.mp he).1
  obtain ⟨w1, w2, w3⟩ := frz_ok E S.fh S.cells h6 h2 h4 h5
  refine ⟨upd F a (.lst xs), ⟨w2, w3, ⟨by rw [List.length_set]; exact S.env.len, fun j sv g => ?_, fun j l es fs b g1 g2 g3 g4 => ?_, fun j l t u es fs b g1 g2 g3 g4 => ?_⟩⟩, w1, ⟨same_upd' h4, fun _ _ h => h⟩⟩
  · by_cases q : i = j
    · subst q
      rw [List.getElem?_set_self hi] at g
      cases g
      exact ⟨_, h1, .lst upd_same (DrL.mono (same_upd' h4) (fun _ _ h => h) _ _ h3)⟩
    · rw [List.getElem?_set_ne q] at g
      obtain ⟨w, w1, w2⟩ := S.env.at_ j sv g
      refine ⟨w, w1, ?_⟩
      cases sv with
      | val d => exact Dr.mono (same_upd' h4) (fun _ _ h => h) _ _ w2
      | own es =>
        obtain ⟨b, ys, rfl, k2, k3, k4, k5, k6⟩ := w2
        have nb : b ≠ a := fun z => q (S.env.apart i j ds es a he g h1 (by rw [← z]; exact w1))
        exact ⟨b, ys, rfl, k2, DrL.mono (same_upd' h4) (fun _ _ h => h) _ _ k3, by rw [upd_ne nb]; exact k4, k5, k6⟩
      | dct t es =>
        obtain ⟨b, rfl, k2, k4, k5, k6⟩ := w2
        have nb : b ≠ a := k2.ne_lst h2
        exact ⟨b, rfl, k2.mono (same_upd' h4) (fun _ _ h => h) (fun _ h => h), by rw [upd_ne nb]; exact k4, k5, k6⟩
  · have own_ne : ∀ {j : Nat} {es : List D}, (env.set i (some (.val (.lst ds))))[j]? = some (some (.own es)) → i ≠ j := fun {j es} h q => by
      subst q
      rw [List.getElem?_set_self hi] at h; cases h
    rw [List.getElem?_set_ne (own_ne g1)] at g1
    rw [List.getElem?_set_ne (own_ne g2)] at g2
    exact S.env.apart j l es fs b g1 g2 g3 g4
  · have own_ne : ∀ {j : Nat} {t : Bool} {es : List (NestedKey × D)}, (env.set i (some (.val (.lst ds))))[j]? = some (some (.dct t es)) → i ≠ j := fun {j t es} h q => by
      subst q
      rw [List.getElem?_set_self hi] at h; cases h
    rw [List.getElem?_set_ne (own_ne g1)] at g1
    rw [List.getElem?_set_ne (own_ne g2)] at g2
    exact S.env.apd j l t u es fs b g1 g2 g3 g4
/-- a living list is written -/
theorem SR.cell_write {F0 : Hp} {ρ0 : List Addr} (S : SR K B F H ρ σ env μ) (E : Ext F0 B ρ0 F H ρ) {c : Nat} {a : Addr} {ds es : List D} {ys : List V} (hρ : ρ[c]? = some a) (hμ : μ[c]? = some ds) (r : DrL K F ρ ys es) :
    SR K B F (upd H a (.lst ys)) ρ σ env (μ.set c es) ∧ Ext F0 B ρ0 F (upd H a (.lst ys)) ρ := by
  obtain ⟨fa, zs, ha, _⟩ := S.cells.at_ c a ds hρ hμ
  have hc : c < μ.length := (List.getElem?_eq_some_iff.mp hμ).1
  have ma : a ∈ ρ := List.mem_of_getElem? hρ
  refine ⟨⟨fun b u h => ?_, ⟨by rw [List.length_set]; exact S.cells.len, S.cells.nd, fun j b fs h1 h2 => ?_⟩, ⟨S.env.len, fun j sv h => ?_, S.env.apart, S.env.apd⟩⟩, ⟨E.ff, fun b u h n => ?_, fun b h => ?_, E.new, E.rr, E.rn⟩⟩
  · rw [upd_ne (ne_of_none h fa)]; exact S.fh b u h
  · by_cases q : c = j
    · subst q
      rw [List.getElem?_set_self hc] at h2
      cases h2
      rw [hρ] at h1
      cases h1
      exact ⟨fa, ys, upd_same, r⟩
    · rw [List.getElem?_set_ne q] at h2
      obtain ⟨z1, ws, z2, z3⟩ := S.cells.at_ j b fs h1 h2
      exact ⟨z1, ws, by rw [upd_ne (fun z => q (S.cells.nd c j a hρ (by rw [← z]; exact h1)))]; exact z2, z3⟩
  · obtain ⟨w, h1, h2⟩ := S.env.at_ j sv h
    refine ⟨w, h1, ?_⟩
    cases sv with
    | val d => exact h2
    | own fs =>
      obtain ⟨b, ws, rfl, k2, k3, k4, k5, k6⟩ := h2
      exact ⟨b, ws, rfl, by rw [upd_ne (fun z => k5 (by rw [z]; exact ma))]; exact k2, k3, k4, k5, k6⟩
    | dct t fs =>
      obtain ⟨b, rfl, k2, k4, k5, k6⟩ := h2
      exact ⟨b, rfl, k2.mono (Same.refl _) (fun _ _ h => h) (fun _ h => by rw [upd_ne (fun z => k5 (by rw [z]; exact ma))]; exact h), k4, k5, k6⟩
  · have nb : b ≠ a := fun z => by
      subst z
      rcases E.rn b ma with z | z
      · exact n z
      · rw [z] at h; cases h
    rw [upd_ne nb]; exact E.hh b u h n
  · by_cases q : b = a
    · subst q; rw [upd_same]; exact fun z => nomatch z
    · rw [upd_ne q]; exact E.dm b h
end
/-! ### loops -/
theorem whN_mono {c : Env → Store → Option (Bool × Store)} {b : Env → Store → Option Fl} : ∀ {n : Nat} {env : Env} {μ : Store} {r : Fl}, whN c b n env μ = some r → whN c b (n + 1) env μ = some r
  | 0, _, _, _, h => by rw [whN] at h; cases h
  | n + 1, env, μ, r, h => by
    rw [whN] at h ⊢
    obtain ⟨⟨k, μ1⟩, h1, h2⟩ := Option.bind_eq_some_iff.mp h
    rw [h1]
    dsimp only [Option.bind_some] at h2 ⊢
    cases k with
    | false => exact h2
    | true =>
      rw [if_pos rfl] at h2 ⊢
      obtain ⟨fl, h3, h4⟩ := Option.bind_eq_some_iff.mp h2
      rw [h3]
      dsimp only [Option.bind_some] at h4 ⊢
      cases fl with
      | nx e m => exact whN_mono h4
      | ct e m => exact whN_mono h4
      | bk e m => exact h4
      | rt d m => exact h4
theorem whN_le {c : Env → Store → Option (Bool × Store)} {b : Env → Store → Option Fl} {n m : Nat} {env : Env} {μ : Store} {r : Fl} (h : whN c b n env μ = some r) (hm : n ≤ m) : whN c b m env μ = some r := by
  induction hm with
  | refl => exact h
  | step _ ih => exact whN_mono ih
theorem whS_some {c : Env → Store → Option (Bool × Store)} {b : Env → Store → Option Fl} {env : Env} {μ : Store} {r : Fl} : whS c b env μ = some r ↔ ∃ n, whN c b n env μ = some r := by
  unfold whS
  constructor
  · intro h
    split at h
    · rename_i q
      cases h
      exact ⟨_, Classical.choose_spec (Classical.choose_spec q)⟩
    · cases h
  · rintro ⟨n, h⟩
    have q : ∃ n r, whN c b n env μ = some r := ⟨n, r, h⟩
    rw [dif_pos q]
    have h2 := Classical.choose_spec (Classical.choose_spec q)
    have a := whN_le h2 (Nat.le_max_left _ n)
    have b' := whN_le h (Nat.le_max_right (Classical.choose q) n)
    rw [a] at b'
    exact b'
end Py
end
section
set_option Elab.async false
set_option linter.all false
set_option maxRecDepth 100000
set_option maxHeartbeats 4000000
namespace Py
open PySem L2 RZ
section
variable {C : MC} {Φ : FnS} {Γ : GlS} {k : Nat} {X : Cx} {sc : Scope}
theorem cells_ne {K : PySem.W.Frag} {F H : Hp} {ρ : List Addr} {μ : Store} (c : Cells K F H ρ μ) {a : Addr} (h : H a = none) : a ∉ ρ := fun z => by
  obtain ⟨i, hi, e⟩ := List.getElem_of_mem z
  have hi' := hi
  rw [c.len] at hi'
  obtain ⟨_, ys, z2, _⟩ := c.at_ i a _ (by rw [List.getElem?_eq_getElem hi, e]) (List.getElem?_eq_getElem hi')
  rw [h] at z2; cases z2
/-- new lists -/
def newF (Φ : FnS) (Γ : GlS) : E → Env → Store → Option (List D × Store)
  | .lst es, env, μ => (evs Φ Γ es env μ).bind fun (ds, μ1) => if ds.length ≤ SZ then some (ds, μ1) else none
  | .lc a t it c vs, env, μ => lcF Φ Γ a t it c vs env μ
  | .bi .list e es, env, μ => (ev Φ Γ e env μ).bind fun (x, μ1) => (evs Φ Γ es env μ1).bind fun (xs, μ2) => match xs with
    | [] => (itsS μ2 x).map fun ds => (ds, μ2)
    | _ => none
  | .ite c (.lst es) (.lst es'), env, μ => (evT Φ Γ c env μ).bind fun (k, μ1) => (evs Φ Γ (if k then es else es') env μ1).bind fun (ds, μ2) => if ds.length ≤ SZ then some (ds, μ2) else none
  | _, _, _ => none
theorem newF_ok {e : E} (hn : isNew e = true) {env : Env} {μ : Store} {r : D × Store} (h : ev Φ Γ e env μ = some r) : ∃ ds, r.1 = .lst ds ∧ newF Φ Γ e env μ = some (ds, r.2) := by
  cases e with
  | lst es =>
    rw [ev] at h
    obtain ⟨⟨ds, μ1⟩, h1, h2⟩ := Option.bind_eq_some_iff.mp h
    dsimp only at h2
    split at h2
    case isFalse => cases h2
    rename_i hz
    cases h2
    exact ⟨ds, rfl, by rw [newF, h1]; dsimp only [Option.bind_some]; rw [if_pos hz]⟩
  | lc a t it c vs =>
    rw [ev] at h
    obtain ⟨⟨ds, μ1⟩, h1, h2⟩ := Option.bind_eq_some_iff.mp h
    dsimp only at h2
    split at h2
    case isFalse => cases h2
    rename_i hz
    obtain ⟨⟨xs, μe⟩, h3, h4⟩ := Option.map_eq_some_iff.mp h2
    cases h4
    refine ⟨xs, rfl, ?_⟩
    rw [newF]
    unfold lcF
    rw [h1]
    dsimp only [Option.bind_some]
    rw [if_pos hz]
    exact h3
  | bi b e es =>
    cases b with
    | list =>
      rw [ev] at h
      obtain ⟨⟨x, μ1⟩, h1, h2⟩ := Option.bind_eq_some_iff.mp h
      obtain ⟨⟨xs, μ2⟩, h3, h4⟩ := Option.bind_eq_some_iff.mp h2
      obtain ⟨d, h5, h6⟩ := Option.map_eq_some_iff.mp h4
      cases h6
      cases xs with
      | nil =>
        unfold biS at h5
        obtain ⟨ds, h7, h8⟩ := Option.map_eq_some_iff.mp h5
        cases h8
        refine ⟨ds, rfl, ?_⟩
        rw [newF, h1]
        dsimp only [Option.bind_some]
        rw [h3]
        dsimp only [Option.bind_some]
        rw [h7]
        rfl
      | cons y ys => unfold biS at h5; cases h5
    | _ => cases hn
  | ite c a b =>
    cases a with
    | lst es =>
      cases b with
      | lst es' =>
        rw [ev] at h
        obtain ⟨⟨kk, μ1⟩, h1, h2⟩ := Option.bind_eq_some_iff.mp h
        dsimp only at h2
        cases kk with
        | true =>
          rw [if_pos rfl, ev] at h2
          obtain ⟨⟨ds, μ2⟩, h3, h4⟩ := Option.bind_eq_some_iff.mp h2
          dsimp only at h4
          split at h4
          case isFalse => cases h4
          rename_i hz
          cases h4
          exact ⟨ds, rfl, by rw [newF, h1]; dsimp only [Option.bind_some]; rw [if_pos rfl, h3]; dsimp only [Option.bind_some]; rw [if_pos hz]⟩
        | false =>
          rw [if_neg Bool.false_ne_true, ev] at h2
          obtain ⟨⟨ds, μ2⟩, h3, h4⟩ := Option.bind_eq_some_iff.mp h2
          dsimp only at h4
          split at h4
          case isFalse => cases h4
          rename_i hz
          cases h4
          exact ⟨ds, rfl, by rw [newF, h1]; dsimp only [Option.bind_some]; rw [if_neg Bool.false_ne_true, h3]; dsimp only [Option.bind_some]; rw [if_pos hz]⟩
      | _ => cases hn
    | _ => cases hn
  | _ => cases hn
theorem peN_lst (es : Es) (e : Expr) (G : CG C Φ Γ k X sc) (h : mE C sc (.lst es) e = true) : PE X e (tN X.K (newF Φ Γ (.lst es))) := by
  obtain ⟨xs, p, rfl, h1⟩ := mE_lst h
  refine PE.imp (pe_lst (paEs es X sc xs G h1)) fun σ H Q q => ?_
  obtain ⟨B, F, ρ, env, μ, ds, μ', S, he, q⟩ := q
  rw [newF] at he
  obtain ⟨⟨ds', μ1⟩, h1, h2⟩ := Option.bind_eq_some_iff.mp he
  dsimp only at h2
  split at h2
  case isFalse => cases h2
  rename_i hz
  cases h2
  refine RE.go S h1 fun v F1 H1 ρ1 e1 S1 r1 => ⟨by rw [sz, r1.length]; exact hz, fun p hp => ?_⟩
  have fp := S1.fh.free hp
  have np := cells_ne S1.cells hp
  have hH : H p = none := by
    by_cases z : H p = none
    · exact z
    · exact absurd hp (e1.dm p z)
  obtain ⟨w1, w2, w3⟩ := write_ok (o := .lst v) e1 S1.fh S1.cells hH fp np
  exact q p F1 _ ρ1 v w1 w2 w3 upd_same hH fp np r1
theorem peN (m : E) (e : Expr) (G : CG C Φ Γ k X sc) (h : mE C sc m e = true) (hn : isNew m = true) : PE X e (tN X.K (newF Φ Γ m)) := by
  cases m with
  | lst es => exact peN_lst es e G h
  | ite c a b =>
    cases a with
    | lst es =>
      cases b with
      | lst es' =>
        obtain ⟨z, x, y, p, rfl, ⟨h1, h2⟩, h3⟩ := mE_ite h
        refine PE.imp (pe_ifExp (ptE c X sc z G h1) (peN_lst es x G h2) (peN_lst es' y G h3)) fun σ H Q q => ?_
        obtain ⟨B, F, ρ, env, μ, ds, μ', S, he, q⟩ := q
        rw [newF] at he
        obtain ⟨⟨kk, μ1⟩, g1, g2⟩ := Option.bind_eq_some_iff.mp he
        refine RE.go S g1 fun v F1 H1 ρ1 e1 S1 r1 => ?_
        cases r1
        cases kk with
        | true => exact iteT ⟨B, F1, ρ1, env, μ1, ds, μ', S1, by rw [newF]; exact g2, fun p F' H' ρ' xs e2 s2 c2 u1 u2 => q p F' H' ρ' xs (e1.trans e2) s2 c2 u1 (Classical.byContradiction fun z => absurd u2 (e1.dm _ z))⟩
        | false => exact iteF ⟨B, F1, ρ1, env, μ1, ds, μ', S1, by rw [newF]; exact g2, fun p F' H' ρ' xs e2 s2 c2 u1 u2 => q p F' H' ρ' xs (e1.trans e2) s2 c2 u1 (Classical.byContradiction fun z => absurd u2 (e1.dm _ z))⟩
      | _ => cases hn
    | _ => cases hn
  | lc a t it c vs =>
    obtain ⟨x, tg, iter, ifs, n, scope, p, rfl, ⟨⟨⟨⟨⟨rfl, h1⟩, h2⟩, h3⟩, h4⟩, h5⟩, h6⟩ := mE_lc h
    refine PE.imp (s_lc G h1 (fun j hj => by have := List.all_eq_true.mp h2 j hj; simpa using this) (folded_of (mI_noset h3)) (piI it X sc iter tg G h3)
      (fun s H Cc cl fp => pgT (G.blk (blk_kind h1) s H Cc cl fp) t tg h4) (fun s H Cc cl fp => pcEo c _ scope ifs (G.blk (blk_kind h1) s H Cc cl fp) h5) (fun s H Cc cl fp => peE a _ scope x (G.blk (blk_kind h1) s H Cc cl fp) h6)).1.2 fun σ H Q q => ?_
    obtain ⟨B, F, ρ, env, μ, ds, μ', S, he, q⟩ := q
    rw [newF] at he
    exact ⟨B, F, ρ, env, μ, ds, μ', S, he, q⟩
  | bi b a es =>
    cases b with
    | list =>
      obtain ⟨x, p2, y, ys, p, rfl, ⟨⟨rfl, h2⟩, h4⟩, h5⟩ := mE_bi h
      have ha := pa_two (peE a X sc y G h4) (mE_nostar h4).1 (paEs es X sc ys G h5)
      refine PE.imp (pe_bi .list (by have := G.room.un; omega) G.calm (G.gl h2) (G.bi (by decide +kernel)) ha (mE_nostar h4).1 (spliced_plain (mEs_nostar h5))) fun σ H Q q => ?_
      obtain ⟨B, F, ρ, env, μ, ds, μ', S, he, q⟩ := q
      rw [newF] at he
      obtain ⟨⟨dx, μ1⟩, g1, g2⟩ := Option.bind_eq_some_iff.mp he
      obtain ⟨⟨dl, μ2⟩, g3, g4⟩ := Option.bind_eq_some_iff.mp g2
      dsimp only at g4
      split at g4
      case h_2 => cases g4
      obtain ⟨es', g5, g6⟩ := Option.map_eq_some_iff.mp g4
      cases g6
      have g7 : evs Φ Γ (.cons a es) env μ = some ([dx], μ') := by
        rw [evs, g1]
        show Option.map _ (evs Φ Γ es env μ1) = _
        rw [g3]
        rfl
      refine RE.go S g7 fun v F1 H1 ρ1 e1 S1 r1 => ?_
      obtain ⟨w, rfl, rw1⟩ := DrL.one r1
      obtain ⟨a', ws, rfl, k3, k4, _⟩ := itsS_ok S1.fh S1.cells rw1 g5
      refine ⟨a', ws, rfl, k3, fun p hp => ?_⟩
      have fp := S1.fh.free hp
      have np := cells_ne S1.cells hp
      have hH : H p = none := by
        by_cases z : H p = none
        · exact z
        · exact absurd hp (e1.dm p z)
      obtain ⟨w1, w2, w3⟩ := write_ok (o := .lst ws) e1 S1.fh S1.cells hH fp np
      exact q p F1 _ ρ1 ws w1 w2 w3 upd_same hH fp np k4
    | _ => cases hn
  | _ => cases hn
/-! ### assignments -/
theorem s_asgLc {i : Nat} {a : E} {t : T} {it : I} {c : Eo} {vs : List Nat} {y : Str} {py p : Pos} {e : Expr} (G : CG C Φ Γ k X sc) (hi : C.N[i]? = some y) (hl : locB sc y = true) (h : mE C sc (.lc a t it c vs) e = true) :
    PS X (.Assign [.Name y py] e p) (tAsg (tN X.K (lcF Φ Γ a t it c vs)) (gName i)) := by
  obtain ⟨x, tg, iter, ifs, n, scope, cp, rfl, ⟨⟨⟨⟨⟨rfl, h1⟩, h2⟩, h3⟩, h4⟩, h5⟩, h6⟩ := mE_lc h
  have hs := folded_of (env := X.env) (mI_noset h3)
  have w1 := piI it X sc iter tg G h3
  have w2 := fun s H Cc cl fp => pgT (G.blk (blk_kind h1) s H Cc cl fp) t tg h4
  have w3 := fun s H Cc cl fp => pcEo c _ scope ifs (G.blk (blk_kind h1) s H Cc cl fp) h5
  have w4 := fun s H Cc cl fp => peE a _ scope x (G.blk (blk_kind h1) s H Cc cl fp) h6
  have L := s_lc (p := cp) G h1 (fun j hj => by have := List.all_eq_true.mp h2 j hj; simpa using this) hs w1 w2 w3 w4
  have e1 := swap_lc (elt := x) (gs := [⟨tg, iter, ifs, 0⟩]) (scope := scope) (pos := cp) (py := py) (y := y) (l := p.line) (env := X.env) G.kind
  obtain ⟨l1, l2⟩ := G.locv hl
  generalize hb : (X.env.kindOf y == some .local && py.line == cp.line && !(scope.names.any fun (n, k) => n == y && (k == .local || k == .cell))) = b at e1
  cases b with
  | true =>
    simp only [Bool.and_eq_true] at hb
    have hloc : X.env.scope.names.lookup y = some .local := (by simpa using hb.1.1 : X.env.kindOf y = some .local)
    exact PS.imp (ps_setLc G.calm G.nd (by rw [G.hN]; exact hi) hloc e1 w1 (G.blkOk h1) w2 w3 w4 hs) fun D σ H q => L.2.2 σ H _ q
  | false => exact ps_set G.nd (by rw [G.hN]; exact hi) l1 L.1.2 e1 l2
theorem lc_or (x : Expr) : (∃ elt gs scope pos, x = .ListComp elt gs scope pos) ∨ isLc x = false := by
  cases x <;> first | exact .inl ⟨_, _, _, _, rfl⟩ | exact .inr rfl
theorem mE_lc_form {m : E} {elt : Expr} {gs : List Comprehension} {scope : Scope} {pos : Pos} (h : mE C sc m (.ListComp elt gs scope pos) = true) : (∃ a t it c vs, m = .lc a t it c vs) ∨ ∃ i m', m = .bor i m' := by
  cases m <;> first | exact .inl ⟨_, _, _, _, _, rfl⟩ | exact .inr ⟨_, _, rfl⟩ | (exfalso; rw [mE] at h <;> first | cases h | (intros; contradiction)) | (exfalso; rw [mE] at h; simp [isCallB] at h)
/-- name = value, whatever its form -/
theorem s_asgName {i : Nat} {a : E} {y : Str} {py p : Pos} {x : Expr} (G : CG C Φ Γ k X sc) (hi : C.N[i]? = some y) (hl : locB sc y = true) (ha : mE C sc a x = true) (hk : asgOk (.Name y py) x = true) :
    PS X (.Assign [.Name y py] x p) (tAsg (tE X.K Φ Γ a) (gName i)) := by
  obtain ⟨l1, l2⟩ := G.locv hl
  rcases lc_or x with ⟨elt, gs, scope, pos, rfl⟩ | hx
  · rcases mE_lc_form ha with ⟨b, t, it, c, vs, rfl⟩ | ⟨j, m', rfl⟩
    · obtain ⟨x, tg, iter, ifs, n, scope', cp, e0, ⟨⟨⟨⟨⟨rfl, h1⟩, h2⟩, h3⟩, h4⟩, h5⟩, h6⟩ := mE_lc ha
      cases e0
      have L := s_lc (p := pos) G h1 (fun j hj => by have := List.all_eq_true.mp h2 j hj; simpa using this) (folded_of (mI_noset h3)) (piI it X sc iter tg G h3)
        (fun s H Cc cl fp => pgT (G.blk (blk_kind h1) s H Cc cl fp) t tg h4) (fun s H Cc cl fp => pcEo c _ scope ifs (G.blk (blk_kind h1) s H Cc cl fp) h5) (fun s H Cc cl fp => peE b _ scope elt (G.blk (blk_kind h1) s H Cc cl fp) h6)
      exact PS.imp (s_asgLc G hi hl ha) fun D σ H q => L.2.1 σ H _ q
    · -- a lent list's comprehension hands back a list: never flat
      refine ⟨fun pins s σ H D I q => ?_⟩
      exfalso
      obtain ⟨B, F, ρ, env, μ, d, μ', S, he, q⟩ := q
      have ha' := mE_bor ha
      rw [ev] at he
      obtain ⟨ds, h1, h2⟩ := Option.bind_eq_some_iff.mp he
      obtain ⟨⟨d', μ1⟩, h3, h4⟩ := Option.bind_eq_some_iff.mp h2
      dsimp only at h4
      split at h4
      case isFalse => cases h4
      rename_i hf
      rw [Bool.and_eq_true] at hf
      have key : ∀ (m : E), mE C sc m (.ListComp elt gs scope pos) = true → ∀ env μ r, ev Φ Γ m env μ = some r → noL r.1 = true → False := by
        intro m
        induction m using E.rec (motive_2 := fun _ => True) (motive_3 := fun _ => True) (motive_4 := fun _ => True) with
        | bor i e ih =>
          intro h env μ r hr hf
          rw [ev] at hr
          obtain ⟨ds, h1, h2⟩ := Option.bind_eq_some_iff.mp hr
          obtain ⟨⟨d', μ1⟩, h3, h4⟩ := Option.bind_eq_some_iff.mp h2
          dsimp only at h4
          split at h4
          case isFalse => cases h4
          rename_i hf'
          rw [Bool.and_eq_true] at hf'
          exact ih (mE_bor h) _ _ _ h3 hf'.1
        | lc a t it c vs =>
          intro h env μ r hr hf
          rw [ev] at hr
          obtain ⟨⟨ds, μ1⟩, h1, h2⟩ := Option.bind_eq_some_iff.mp hr
          dsimp only at h2
          split at h2
          case isFalse => cases h2
          obtain ⟨⟨xs, μe⟩, h3, h4⟩ := Option.map_eq_some_iff.mp h2
          cases h4
          cases hf
        | nil => trivial
        | cons => trivial
        | none => trivial
        | some => trivial
        | seq => trivial
        | rng1 => trivial
        | rng2 => trivial
        | zip => trivial
        | enum => trivial
        | rngD => trivial
        | kBor i e ih => intro h; rw [mE] at h; simp [isCallB] at h
        | _ => intro h; rw [mE] at h <;> first | cases h | (intros; contradiction)
      exact key m' ha' _ _ _ h3 hf.1
  · exact ps_set G.nd (by rw [G.hN]; exact hi) l1 (peE a X sc x G ha) (by
      have := swap_plain (l := p.line) (env := X.env) hk hx
      exact this) l2
end
end Py
end
section
set_option Elab.async false
set_option linter.all false
set_option maxRecDepth 100000
set_option maxHeartbeats 4000000
namespace Py
open PySem L2 RZ
section
variable {C : MC} {Φ : FnS} {Γ : GlS} {k : Nat} {X : Cx} {sc : Scope}
theorem dm_back {F H F' H' : Hp} {ρ ρ' : List Addr} (e : Ext F H ρ F' H' ρ') {p : Addr} (h : H' p = none) : H p = none := by
  by_cases z : H p = none
  · exact z
  · exact absurd h (e.dm p z)
theorem setV_eq {env env' : Env} {i : Nat} {d : D} (h : setV env i d = some env') : i < env.length ∧ env' = env.set i (some (.val d)) := by
  unfold setV at h
  split at h
  · cases h; exact ⟨‹_›, rfl⟩
  · cases h
theorem q_app {i : Nat} {a : E} {x : Str} {p1 p2 p3 p : Pos} {y : Expr} (G : CG C Φ Γ k X sc) (h1 : C.N[i]? = some x) (h2 : visB sc x = true) (h3 : okName x = true) (hl : (p2.endLine == p3.line) = true) (n1 : ∀ v p, y ≠ .Starred v p) (ha : PE X y (tE X.K Φ Γ a)) :
    PS X (.Expr (.Call (.Attribute (.Name x p1) "append" p2) [y] [] p3) p) (tS X.K Φ Γ (.app i a)) := by
  have hv : PE X (.Name x p1) (tVar i) := pe_var (by rw [G.hN]; exact h1) (G.vis h2) (okName_1 h3) (okName_2 h3)
  have hm := pe_bm (cpos := p3) (apos := p2) PySem.F.plainAttrs_list PySem.F.slot_list_append PySem.F.type_list_append mt_append hv (pa_cons ha pa_nil (starEach_cons n1)) rfl (by rw [starEach_cons n1]; rfl) hl (starEach_cons n1) rfl
  refine PS.imp (ps_expr hm) fun D σ H q => ?_
  obtain ⟨F0, B0, ρ0, F, ρ, env, μ, r, S, E0, he, q⟩ := q
  rw [ex] at he
  obtain ⟨⟨d, μ1⟩, g1, g2⟩ := Option.bind_eq_some_iff.mp he
  obtain ⟨ds, g3, g4⟩ := Option.bind_eq_some_iff.mp g2
  split at g4
  case isFalse => cases g4
  rename_i hz
  cases g4
  have ho := getO_eq g3
  obtain ⟨v, k1, al, xs, rfl, k2, k3, k4, k5, k6⟩ := S.env.at_ _ _ ho
  refine ⟨_, k1, .inl ⟨rfl, _, .inl (.inl k2)⟩, ?_⟩
  refine RE.go S g1 fun w F1 H1 ρ1 e1 S1 r1 => ?_
  obtain ⟨v', k1', al', xs', e0, j2, j3, j4, j5, j6⟩ := S1.env.at_ _ _ ho
  rw [k1] at k1'
  cases k1'
  cases e0
  refine ⟨al, xs', w, rfl, rfl, j2, by rw [sz, j3.length]; exact hz, ?_⟩
  have E1 := E0.trans e1
  have S2 := S1.own_write ho k1 j4 j5 j6 (j3.append (.cons r1 .nil))
  exact q σ F1 _ ρ1 S2 (write_ok E1 S1.fh S1.cells j6 j4 j5).1 e1.gr
theorem q_ext {i : Nat} {a : E} {x : Str} {p1 p2 p3 p : Pos} {y : Expr} (G : CG C Φ Γ k X sc) (h1 : C.N[i]? = some x) (h2 : visB sc x = true) (h3 : okName x = true) (hl : (p2.endLine == p3.line) = true) (n1 : ∀ v p, y ≠ .Starred v p) (ha : PE X y (tE X.K Φ Γ a)) :
    PS X (.Expr (.Call (.Attribute (.Name x p1) "extend" p2) [y] [] p3) p) (tS X.K Φ Γ (.ext i a)) := by
  have hv : PE X (.Name x p1) (tVar i) := pe_var (by rw [G.hN]; exact h1) (G.vis h2) (okName_1 h3) (okName_2 h3)
  have hm := pe_bm (cpos := p3) (apos := p2) PySem.F.plainAttrs_list PySem.F.slot_list_extend PySem.F.type_list_extend mt_extend hv (pa_cons ha pa_nil (starEach_cons n1)) rfl (by rw [starEach_cons n1]; rfl) hl (starEach_cons n1) rfl
  refine PS.imp (ps_expr hm) fun D σ H q => ?_
  obtain ⟨F0, B0, ρ0, F, ρ, env, μ, r, S, E0, he, q⟩ := q
  rw [ex] at he
  obtain ⟨⟨d, μ1⟩, g1, g2⟩ := Option.bind_eq_some_iff.mp he
  obtain ⟨ds, g3, g4⟩ := Option.bind_eq_some_iff.mp g2
  split at g4
  case h_2 => cases g4
  rename_i es
  split at g4
  case isFalse => cases g4
  rename_i hz
  cases g4
  have ho := getO_eq g3
  obtain ⟨v, k1, al, xs, rfl, k2, k3, k4, k5, k6⟩ := S.env.at_ _ _ ho
  refine ⟨_, k1, .inl ⟨rfl, _, .inl (.inl k2)⟩, ?_⟩
  refine RE.go S g1 fun w F1 H1 ρ1 e1 S1 r1 => ?_
  obtain ⟨v', k1', al', xs', e0, j2, j3, j4, j5, j6⟩ := S1.env.at_ _ _ ho
  rw [k1] at k1'
  cases k1'
  cases e0
  cases r1 with
  | lst u1 u2 =>
    rename_i b zs
    refine ⟨al, b, xs', zs, rfl, rfl, j2, S1.fh _ _ u1, by rw [sz, j3.length, u2.length]; exact hz, ?_⟩
    have E1 := E0.trans e1
    have S2 := S1.own_write ho k1 j4 j5 j6 (j3.append u2)
    exact q σ F1 _ ρ1 S2 (write_ok E1 S1.fh S1.cells j6 j4 j5).1 e1.gr
theorem q_expr {a : E} {x : Expr} {p : Pos} (hc : isCall x = true) (ha : PE X x (tE X.K Φ Γ a)) : PS X (.Expr x p) (tS X.K Φ Γ (.expr a)) := by
  refine PS.imp (ps_expr ha (by cases x <;> first | rfl | cases hc)) fun D σ H q => ?_
  obtain ⟨F0, B0, ρ0, F, ρ, env, μ, r, S, E0, he, q⟩ := q
  rw [ex] at he
  obtain ⟨⟨d, μ1⟩, g1, g2⟩ := Option.map_eq_some_iff.mp he
  cases g2
  exact RE.go S g1 fun w F1 H1 ρ1 e1 S1 r1 => q σ F1 H1 ρ1 S1 (E0.trans e1) e1.gr
theorem q_asg {t : T} {a : E} {tg x : Expr} {p : Pos} (G : CG C Φ Γ k X sc) (ht : mT C sc t tg = true) (ha : mE C sc a x = true) (hk : asgOk tg x = true) : PS X (.Assign [tg] x p) (tS X.K Φ Γ (.asg t a)) := by
  rcases lc_or x with ⟨elt, gs, scope, pos, rfl⟩ | hx
  · -- the target is a name
    cases tg with
    | Name y py =>
      unfold mT at ht
      split at ht <;> first | contradiction | skip
      rename_i i _ _ _ q; cases q
      simp only [Bool.and_eq_true, decide_eq_true_eq] at ht
      refine PS.imp (s_asgName G ht.1 ht.2 ha hk) fun D σ H q => ?_
      obtain ⟨F0, B0, ρ0, F, ρ, env, μ, r, S, E0, he, q⟩ := q
      rw [ex] at he
      obtain ⟨⟨d, μ1⟩, g1, g2⟩ := Option.bind_eq_some_iff.mp he
      obtain ⟨env', g3, g4⟩ := Option.map_eq_some_iff.mp g2
      cases g4
      rw [asgT] at g3
      obtain ⟨_, rfl⟩ := setV_eq g3
      exact RE.go S g1 fun w F1 H1 ρ1 e1 S1 r1 => q _ F1 H1 ρ1 (S1.setV r1) (E0.trans e1) e1.gr
    | Tuple es kk pp =>
      refine PS.imp (ps_asg (peE a X sc _ G ha) (pgT G t _ ht) (by rfl) (stores_plain hk) (by rw [assignEach_cons (mT_nostar ht)]; rfl)) fun D σ H q => ?_
      obtain ⟨F0, B0, ρ0, F, ρ, env, μ, r, S, E0, he, q⟩ := q
      rw [ex] at he
      obtain ⟨⟨d, μ1⟩, g1, g2⟩ := Option.bind_eq_some_iff.mp he
      obtain ⟨env', g3, g4⟩ := Option.map_eq_some_iff.mp g2
      cases g4
      exact RE.go S g1 fun w F1 H1 ρ1 e1 S1 r1 => ⟨B0, F1, ρ1, env, μ1, d, env', S1, r1, g3, fun σ' S' _ _ => q σ' F1 H1 ρ1 S' (E0.trans e1) e1.gr⟩
    | _ => unfold asgOk at hk; cases hk
  · refine PS.imp (ps_asg (peE a X sc x G ha) (pgT G t tg ht) (swap_plain hk hx) (stores_plain hk) (by rw [assignEach_cons (mT_nostar ht)]; rfl)) fun D σ H q => ?_
    obtain ⟨F0, B0, ρ0, F, ρ, env, μ, r, S, E0, he, q⟩ := q
    rw [ex] at he
    obtain ⟨⟨d, μ1⟩, g1, g2⟩ := Option.bind_eq_some_iff.mp he
    obtain ⟨env', g3, g4⟩ := Option.map_eq_some_iff.mp g2
    cases g4
    exact RE.go S g1 fun w F1 H1 ρ1 e1 S1 r1 => ⟨B0, F1, ρ1, env, μ1, d, env', S1, r1, g3, fun σ' S' _ _ => q σ' F1 H1 ρ1 S' (E0.trans e1) e1.gr⟩
theorem newS_name {i : Nat} {a : E} {y : Str} {py p : Pos} {x : Expr} (G : CG C Φ Γ k X sc) (hi : C.N[i]? = some y) (hl : locB sc y = true) (ha : mE C sc a x = true) (hn : isNew a = true) :
    PS X (.Assign [.Name y py] x p) (tAsg (tN X.K (newF Φ Γ a)) (gName i)) := by
  obtain ⟨l1, l2⟩ := G.locv hl
  cases a with
  | lc b t it c vs =>
    refine PS.imp (s_asgLc G hi hl ha) fun D σ H q => ?_
    obtain ⟨B, F, ρ, env, μ, ds, μ', S, he, q⟩ := q
    rw [newF] at he
    exact ⟨B, F, ρ, env, μ, ds, μ', S, he, q⟩
  | lst es =>
    have hp := peN (Φ := Φ) (Γ := Γ) (k := k) (.lst es) x G ha hn
    obtain ⟨xs, p, rfl, _⟩ := mE_lst ha
    exact ps_set G.nd (by rw [G.hN]; exact hi) l1 hp rfl l2
  | bi b e es =>
    have hp := peN (Φ := Φ) (Γ := Γ) (k := k) (.bi b e es) x G ha hn
    obtain ⟨x, p2, y, ys, p, rfl, _⟩ := mE_bi ha
    exact ps_set G.nd (by rw [G.hN]; exact hi) l1 hp rfl l2
  | ite c a1 b1 =>
    have hp := peN (Φ := Φ) (Γ := Γ) (k := k) (.ite c a1 b1) x G ha hn
    obtain ⟨z, x, y, p, rfl, _⟩ := mE_ite ha
    exact ps_set G.nd (by rw [G.hN]; exact hi) l1 hp rfl l2
  | _ => cases hn
theorem q_asgN {i : Nat} {a : E} {y : Str} {py p : Pos} {x : Expr} (G : CG C Φ Γ k X sc) (hi : C.N[i]? = some y) (hl : locB sc y = true) (ha : mE C sc a x = true) (hn : isNew a = true) : PS X (.Assign [.Name y py] x p) (tS X.K Φ Γ (.asgN i a)) := by
  refine PS.imp (newS_name G hi hl ha hn) fun D σ H q => ?_
  obtain ⟨F0, B0, ρ0, F, ρ, env, μ, r, S, E0, he, q⟩ := q
  rw [ex] at he
  obtain ⟨⟨d, μ1⟩, g1, g2⟩ := Option.bind_eq_some_iff.mp he
  obtain ⟨ds, k1, k2⟩ := newF_ok hn g1
  dsimp only at k1 k2
  subst k1
  dsimp only at g2
  split at g2
  case isFalse => cases g2
  rename_i hlen
  cases g2
  refine ⟨B0, F, ρ, env, μ, ds, μ1, S, k2, fun p F' H' ρ' xs e s c h3 h4 h5 h6 r => ?_⟩
  have S1 := S.step e s c
  refine q _ F' H' ρ' (S1.own_new hlen h3 h5 h6 (dm_back E0 h4) (fun j fs hj hσ => ?_) r) (E0.trans e) e.gr
  obtain ⟨v, j1, al, ws, rfl, j2, _⟩ := S.env.at_ _ _ hj
  rw [hσ] at j1
  cases j1
  rw [h4] at j2
  cases j2
theorem not_cell {K : PySem.W.Frag} {F H : Hp} {ρ : List Addr} {μ : Store} (c : Cells K F H ρ μ) {p : Addr} (h : H p = none) : p ∉ ρ := fun hp => by
  obtain ⟨i, hi, e⟩ := List.getElem_of_mem hp
  have hi' : i < μ.length := by rw [← c.len]; exact hi
  obtain ⟨_, xs, h2, _⟩ := c.at_ i p μ[i] (by rw [List.getElem?_eq_getElem hi, e]) (List.getElem?_eq_getElem hi')
  rw [h] at h2; cases h2
theorem q_dNew {i : Nat} {y : Str} {py p1 p : Pos} (G : CG C Φ Γ k X sc) (hi : C.N[i]? = some y) (hl : locB sc y = true) : PS X (.Assign [.Name y py] (.Dict [] [] p1) p) (tS X.K Φ Γ (.dNew i)) := by
  obtain ⟨l1, l2⟩ := G.locv hl
  refine PS.imp (ps_set G.nd (by rw [G.hN]; exact hi) l1 (pe_nnew (X := X)) rfl l2) fun D σ H q => ?_
  obtain ⟨F0, B0, ρ0, F, ρ, env, μ, r, S, E0, he, q⟩ := q
  rw [ex] at he
  split at he
  case isFalse => cases he
  rename_i hlen
  cases he
  intro a ha
  have hF := S.fh.free ha
  have hρ := not_cell S.cells ha
  obtain ⟨w1, w2, w3⟩ := write_ok (o := dnO X.prog X.w a []) (Ext.refl (F := F) (H := H) (ρ := ρ)) S.fh S.cells ha hF hρ
  refine q _ F _ ρ ((S.step w1 w2 w3).dct_new (t0 := true) hlen (.inl ⟨rfl, [], _, _, upd_same, .nil⟩) hF hρ (dm_back E0 ha) fun j t fs hj hσ => ?_) (E0.trans w1) w1.gr
  obtain ⟨v, j1, al, rfl, j2, _⟩ := S.env.at_ _ _ hj
  rw [hσ] at j1
  cases j1
  obtain ⟨o, j3, _⟩ := j2.obj
  rw [ha] at j3
  cases j3
theorem q_dPut {i : Nat} {b a : E} {y : Str} {u z : Expr} {p2 p1 p : Pos} (G : CG C Φ Γ k X sc) (h1 : C.N[i]? = some y) (h2 : visB sc y = true) (h3 : okName y = true) (hs : sliceB u = false) (hk : asgOk (.Name "" ⟨0, 0, 0, 0⟩) z = true) (hlc : isLc z = false) (hb : PE X u (tE X.K Φ Γ b)) (ha : PE X z (tE X.K Φ Γ a)) :
    PS X (.Assign [.Subscript (.Name y p2) u p1] z p) (tS X.K Φ Γ (.dPut i b a)) := by
  have hv : PE X (.Name y p2) (tVar i) := pe_var (by rw [G.hN]; exact h1) (G.vis h2) (okName_1 h3) (okName_2 h3)
  refine PS.imp (ps_nput (by have := G.room.un; omega) hv hb ha (swap_sub hk hlc)) fun D σ H q => ?_
  obtain ⟨F0, B0, ρ0, F, ρ, env, μ, r, S, E0, he, q⟩ := q
  rw [ex] at he
  obtain ⟨⟨d, μ1⟩, g1, g2⟩ := Option.bind_eq_some_iff.mp he
  obtain ⟨⟨dk, μ2⟩, g3, g4⟩ := Option.bind_eq_some_iff.mp g2
  obtain ⟨kvs, g5, g6⟩ := Option.bind_eq_some_iff.mp g4
  obtain ⟨kk, g7, g8⟩ := Option.bind_eq_some_iff.mp g6
  split at g8
  case isFalse => cases g8
  rename_i hz
  cases g8
  refine RE.go S g1 fun v F1 H1 ρ1 e1 S1 r1 => ?_
  obtain ⟨a0, nes0, j1, _⟩ := dct_at S1 g5
  refine ⟨_, j1, RE.go S1 g3 fun w F2 H2 ρ2 e2 S2 r2 => ?_⟩
  obtain ⟨a1, nes, k1, k2, k3, k4, k5, k6, k7⟩ := dct_at S2 g5
  rw [j1] at k1; cases k1
  obtain ⟨b', rfl, m1, m2, m3⟩ := keyS_ok r2 g7
  refine ⟨_, b', nes, kk, _, _, rfl, rfl, rfl, rfl, k2, k3, NKey.mono S2.fh _ _ m1, m2, by rw [sz, kd_len k4]; exact hz, ?_⟩
  have E2 := (E0.trans e1).trans e2
  have S3 := S2.dct_write (ob := dnO X.prog X.w a0 (nPut nes kk b' v)) (getD_eq g5) j1 (.inl ⟨rfl, nes, X.prog, X.w, k2, k4⟩) k5 k6 k7 (.inl ⟨rfl, nPut nes kk b' v, X.prog, X.w, upd_same, kd_put k4 m1 m2 m3 (r1.ext e2)⟩)
  exact q σ F2 _ ρ2 S3 (write_ok E2 S2.fh S2.cells k7 k5 k6).1 (e1.gr.trans e2.gr)
theorem q_kNew {i : Nat} {y : Str} {py p1 p : Pos} (G : CG C Φ Γ k X sc) (hi : C.N[i]? = some y) (hl : locB sc y = true) : PS X (.Assign [.Name y py] (.Dict [] [] p1) p) (tS X.K Φ Γ (.kNew i)) := by
  obtain ⟨l1, l2⟩ := G.locv hl
  refine PS.imp (ps_set G.nd (by rw [G.hN]; exact hi) l1 (pe_dnewK (X := X)) rfl l2) fun D σ H q => ?_
  obtain ⟨F0, B0, ρ0, F, ρ, env, μ, r, S, E0, he, q⟩ := q
  rw [ex] at he
  split at he
  case isFalse => cases he
  rename_i hlen
  cases he
  intro a ha
  have hF := S.fh.free ha
  have hρ := not_cell S.cells ha
  obtain ⟨w1, w2, w3⟩ := write_ok (o := .dK []) (Ext.refl (F := F) (H := H) (ρ := ρ)) S.fh S.cells ha hF hρ
  refine q _ F _ ρ ((S.step w1 w2 w3).dct_new (t0 := false) hlen (.inr ⟨rfl, [], upd_same, .nil⟩) hF hρ (dm_back E0 ha) fun j t fs hj hσ => ?_) (E0.trans w1) w1.gr
  obtain ⟨v, j1, al, rfl, j2, _⟩ := S.env.at_ _ _ hj
  rw [hσ] at j1
  cases j1
  obtain ⟨o, j3, _⟩ := j2.obj
  rw [ha] at j3
  cases j3
theorem q_kPut {i : Nat} {b a : E} {y : Str} {u z : Expr} {p2 p1 p : Pos} (G : CG C Φ Γ k X sc) (h1 : C.N[i]? = some y) (h2 : visB sc y = true) (h3 : okName y = true) (hs : sliceB u = false) (hk : asgOk (.Name "" ⟨0, 0, 0, 0⟩) z = true) (hlc : isLc z = false) (hb : PE X u (tE X.K Φ Γ b)) (ha : PE X z (tE X.K Φ Γ a)) :
    PS X (.Assign [.Subscript (.Name y p2) u p1] z p) (tS X.K Φ Γ (.kPut i b a)) := by
  have hv : PE X (.Name y p2) (tVar i) := pe_var (by rw [G.hN]; exact h1) (G.vis h2) (okName_1 h3) (okName_2 h3)
  refine PS.imp (ps_dput (by have := G.room.un; omega) hv hb ha (swap_sub hk hlc)) fun D σ H q => ?_
  obtain ⟨F0, B0, ρ0, F, ρ, env, μ, r, S, E0, he, q⟩ := q
  rw [ex] at he
  obtain ⟨⟨d, μ1⟩, g1, g2⟩ := Option.bind_eq_some_iff.mp he
  obtain ⟨⟨dk, μ2⟩, g3, g4⟩ := Option.bind_eq_some_iff.mp g2
  obtain ⟨kvs, g5, g6⟩ := Option.bind_eq_some_iff.mp g4
  obtain ⟨j, g7, g8⟩ := Option.bind_eq_some_iff.mp g6
  split at g8
  case isFalse => cases g8
  rename_i hz
  cases g8
  refine RE.go S g1 fun v F1 H1 ρ1 e1 S1 r1 => ?_
  obtain ⟨a0, vs0, j1, _⟩ := dik_at S1 g5
  refine ⟨_, j1, RE.go S1 g3 fun w F2 H2 ρ2 e2 S2 r2 => ?_⟩
  obtain ⟨a1, vs, k1, k2, k4, k5, k6, k7⟩ := dik_at S2 g5
  rw [j1] at k1; cases k1
  have e0 := asInt_eq g7
  subst e0
  cases r2
  refine ⟨_, _, rfl, DPut.k (k := Sum.inl j) k2 (by rw [sz, ki_len k4]; exact hz), ?_⟩
  have E2 := (E0.trans e1).trans e2
  have S3 := S2.dct_write (ob := .dK (putK vs (Sum.inl j) v)) (getK_eq g5) j1 (.inr ⟨rfl, vs, k2, k4⟩) k5 k6 k7 (.inr ⟨rfl, putK vs (Sum.inl j) v, upd_same, ki_put k4 (r1.ext e2)⟩)
  exact q σ F2 _ ρ2 S3 (write_ok E2 S2.fh S2.cells k7 k5 k6).1 (e1.gr.trans e2.gr)
theorem q_par {i j : Nat} {a b : E} {x y : Str} {px py p1 p2 p : Pos} {k1 k2 : Nat} {u v : Expr} (G : CG C Φ Γ k X sc) (hi : C.N[i]? = some x) (hj : C.N[j]? = some y) (hij : i ≠ j) (hx : lclB sc x = true) (hy : lclB sc y = true) (hl : px.line = py.line)
    (h1 : (foldedForSure 8 u && foldedForSure 8 v) = false) (h2 : (constantsAlone 8 u && constantsAlone 8 v) = false) (ha : mE C sc a u = true) (hb : mE C sc b v = true) :
    PS X (.Assign [.Tuple [.Name x px, .Name y py] k1 p1] (.Tuple [u, v] k2 p2) p) (tS X.K Φ Γ (.par i j a b)) := by
  have lx : X.env.scope.names.lookup x = some .local := by
    unfold lclB at hx
    split at hx
    · exact G.loc _ ‹_›
    · cases hx
  have ly : X.env.scope.names.lookup y = some .local := by
    unfold lclB at hy
    split at hy
    · exact G.loc _ ‹_›
    · cases hy
  have hxy : x ≠ y := fun z => hij (by
    have nd := G.nd
    rw [G.hN] at nd
    subst z
    exact nodup_ix nd hi hj)
  have n1 := (mE_nostar ha).1
  have n2 := (mE_nostar hb).1
  have hpa := pa_two (peE a X sc u G ha) n1 (pa_two (peE b X sc v G hb) n2 (pa_nil' (Φ := Φ) (Γ := Γ)))
  refine PS.imp (ps_par G.calm G.nd (by rw [G.hN]; exact hi) (by rw [G.hN]; exact hj) hij lx ly hpa (stores_par G.kind lx ly hxy hl n1 n2 h1 h2)) fun D σ H q => ?_
  obtain ⟨F0, B0, ρ0, F, ρ, env, μ, r, S, E0, he, q⟩ := q
  rw [ex] at he
  obtain ⟨⟨d, μ1⟩, g1, g2⟩ := Option.bind_eq_some_iff.mp he
  obtain ⟨⟨d2, μ2⟩, g3, g4⟩ := Option.bind_eq_some_iff.mp g2
  obtain ⟨env1, g5, g6⟩ := Option.bind_eq_some_iff.mp g4
  obtain ⟨env2, g7, g8⟩ := Option.map_eq_some_iff.mp g6
  cases g8
  obtain ⟨_, rfl⟩ := setV_eq g5
  obtain ⟨_, rfl⟩ := setV_eq g7
  have he2 : evs Φ Γ (.cons a (.cons b .nil)) env μ = some ([d, d2], μ2) := by
    rw [evs, g1]
    show Option.map _ (evs Φ Γ (.cons b .nil) env μ1) = _
    have : evs Φ Γ (.cons b .nil) env μ1 = some ([d2], μ2) := by
      rw [evs]
      simp only [g3, Option.bind_some]
      rw [evs]
      rfl
    rw [this]
    rfl
  refine RE.go S he2 fun ws F1 H1 ρ1 e1 S1 r1 => ?_
  obtain ⟨w1, w2, rfl, r2, r3⟩ := DrL.two r1
  exact ⟨w1, w2, rfl, q _ F1 H1 ρ1 ((S1.setV r2).setV r3) (E0.trans e1) e1.gr⟩
theorem q_aug {i : Nat} {op : Operator} {a : E} {x : Str} {p1 p : Pos} {y : Expr} (G : CG C Φ Γ k X sc) (hi : C.N[i]? = some x) (hl : locB sc x = true) (ha : PE X y (tE X.K Φ Γ a)) : PS X (.AugAssign (.Name x p1) op y p) (tS X.K Φ Γ (.aug i op a)) := by
  obtain ⟨l1, l2⟩ := G.locv hl
  have hi' : X.N[i]? = some x := by rw [G.hN]; exact hi
  cases op with
  | Add =>
    refine PS.imp (ps_aug G.nd hi' l1 ha ip_add l2) fun D σ H q => ?_
    obtain ⟨F0, B0, ρ0, F, ρ, env, μ, r, S, E0, he, q⟩ := q
    rw [ex] at he
    obtain ⟨dx, g1, g2⟩ := Option.bind_eq_some_iff.mp he
    obtain ⟨⟨dy, μ1⟩, g3, g4⟩ := Option.bind_eq_some_iff.mp g2
    dsimp only at g4
    split at g4
    · obtain ⟨env', g5, g6⟩ := Option.map_eq_some_iff.mp g4
      cases g6
      obtain ⟨_, rfl⟩ := setV_eq g5
      obtain ⟨v, k1, k2⟩ := S.env.at_ _ _ (getV_eq g1)
      have k2' : Dr X.K F ρ v (.int _) := k2
      cases k2'
      refine ⟨_, k1, RE.go S g3 fun w F1 H1 ρ1 e1 S1 r1 => ?_⟩
      cases r1
      exact ⟨_, _, rfl, rfl, q _ F1 H1 ρ1 (S1.setV (.int _)) (E0.trans e1) e1.gr⟩
    · contradiction
    · cases g4
  | Sub =>
    refine PS.imp (ps_aug G.nd hi' l1 ha ip_sub l2) fun D σ H q => ?_
    obtain ⟨F0, B0, ρ0, F, ρ, env, μ, r, S, E0, he, q⟩ := q
    rw [ex] at he
    obtain ⟨dx, g1, g2⟩ := Option.bind_eq_some_iff.mp he
    obtain ⟨⟨dy, μ1⟩, g3, g4⟩ := Option.bind_eq_some_iff.mp g2
    dsimp only at g4
    split at g4
    · contradiction
    · obtain ⟨env', g5, g6⟩ := Option.map_eq_some_iff.mp g4
      cases g6
      obtain ⟨_, rfl⟩ := setV_eq g5
      obtain ⟨v, k1, k2⟩ := S.env.at_ _ _ (getV_eq g1)
      have k2' : Dr X.K F ρ v (.int _) := k2
      cases k2'
      refine ⟨_, k1, RE.go S g3 fun w F1 H1 ρ1 e1 S1 r1 => ?_⟩
      cases r1
      exact ⟨_, _, rfl, rfl, q _ F1 H1 ρ1 (S1.setV (.int _)) (E0.trans e1) e1.gr⟩
    · cases g4
  | _ =>
    refine ⟨fun pins s σ H D I q => ?_⟩
    exfalso
    obtain ⟨F0, B0, ρ0, F, ρ, env, μ, r, S, E0, he, q⟩ := q
    rw [ex] at he
    obtain ⟨dx, g1, g2⟩ := Option.bind_eq_some_iff.mp he
    obtain ⟨⟨dy, μ1⟩, g3, g4⟩ := Option.bind_eq_some_iff.mp g2
    cases g4
theorem q_setm {o i a : E} {x y z : Expr} {p1 p : Pos} (G : CG C Φ Γ k X sc) (ho : mE C sc o x = true) (hi : mE C sc i y = true) (ha : mE C sc a z = true) (hs : sliceB y = false) (hk : asgOk (.Name "" ⟨0, 0, 0, 0⟩) z = true) (hlc : isLc z = false) :
    PS X (.Assign [.Subscript x y p1] z p) (tS X.K Φ Γ (.setm o i a)) := by
  have hk' : asgOk (.Subscript x y p1) z = true := by
    cases z <;> first | rfl | (unfold asgOk at hk; cases hk; done) | cases hlc
  have hg : PG X (.Subscript x y p1) (gSub (tE X.K Φ Γ o) (tE X.K Φ Γ i) rSetL) := pg_sub (peE o X sc x G ho) (peE i X sc y G hi) set_list (by cases y <;> first | exact fun _ => rfl | cases hs)
  refine PS.imp (ps_asg (peE a X sc z G ha) hg (swap_plain hk' hlc) (stores_plain hk') rfl) fun D σ H q => ?_
  obtain ⟨F0, B0, ρ0, F, ρ, env, μ, r, S, E0, he, q⟩ := q
  rw [ex] at he
  obtain ⟨⟨d, μ1⟩, g1, g2⟩ := Option.bind_eq_some_iff.mp he
  obtain ⟨⟨dx, μ2⟩, g3, g4⟩ := Option.bind_eq_some_iff.mp g2
  obtain ⟨⟨dy, μ3⟩, g5, g6⟩ := Option.bind_eq_some_iff.mp g4
  dsimp only at g6
  split at g6
  case h_2 => cases g6
  obtain ⟨ds, g7, g8⟩ := Option.bind_eq_some_iff.mp g6
  obtain ⟨j, g9, g10⟩ := Option.map_eq_some_iff.mp g8
  cases g10
  refine RE.go S g1 fun v F1 H1 ρ1 e1 S1 r1 => RE.go S1 g3 fun w F2 H2 ρ2 e2 S2 r2 => RE.go S2 g5 fun w' F3 H3 ρ3 e3 S3 r3 => ?_
  cases r3
  cases r2 with
  | mr hm =>
    have hm3 := e3.rr _ _ hm
    obtain ⟨_, xs, j2, j3⟩ := S3.cells.at_ _ _ _ hm3 g7
    obtain ⟨S4, E4⟩ := S3.cell_write (((E0.trans e1).trans e2).trans e3) hm3 g7 (j3.set j ((r1.ext e2).ext e3))
    exact ⟨_, xs, _, j, rfl, rfl, j2, by rw [j3.length]; exact g9, q σ F3 _ ρ3 S4 E4 ((e1.trans e2).trans e3).gr⟩
theorem q_setO {i : Nat} {o a : E} {nm : Str} {y z : Expr} {pn p1 p : Pos} (G : CG C Φ Γ k X sc) (h1 : C.N[i]? = some nm) (h2 : visB sc nm = true) (h3 : okName nm = true) (hi : mE C sc o y = true) (ha : mE C sc a z = true) (hs : sliceB y = false) (hk : asgOk (.Name "" ⟨0, 0, 0, 0⟩) z = true) (hlc : isLc z = false) :
    PS X (.Assign [.Subscript (.Name nm pn) y p1] z p) (tS X.K Φ Γ (.setO i o a)) := by
  have hk' : asgOk (.Subscript (.Name nm pn) y p1) z = true := by
    cases z <;> first | rfl | (unfold asgOk at hk; cases hk; done) | cases hlc
  have hv : PE X (.Name nm pn) (tVar i) := pe_var (by rw [G.hN]; exact h1) (G.vis h2) (okName_1 h3) (okName_2 h3)
  have hg : PG X (.Subscript (.Name nm pn) y p1) (gSub (tVar i) (tE X.K Φ Γ o) rSetL) := pg_sub hv (peE o X sc y G hi) set_list (by cases y <;> first | exact fun _ => rfl | cases hs)
  refine PS.imp (ps_asg (peE a X sc z G ha) hg (swap_plain hk' hlc) (stores_plain hk') rfl) fun D σ H q => ?_
  obtain ⟨F0, B0, ρ0, F, ρ, env, μ, r, S, E0, he, q⟩ := q
  rw [ex] at he
  obtain ⟨⟨d, μ1⟩, g1, g2⟩ := Option.bind_eq_some_iff.mp he
  obtain ⟨⟨dy, μ2⟩, g3, g4⟩ := Option.bind_eq_some_iff.mp g2
  obtain ⟨ds, g5, g6⟩ := Option.bind_eq_some_iff.mp g4
  obtain ⟨kk, g7, g8⟩ := Option.bind_eq_some_iff.mp g6
  obtain ⟨j, g9, g10⟩ := Option.map_eq_some_iff.mp g8
  cases g10
  have ho := getO_eq g5
  refine RE.go S g1 fun v F1 H1 ρ1 e1 S1 r1 => ?_
  obtain ⟨v1, k1, al, xs, rfl, k2, k3, k4, k5, k6⟩ := S1.env.at_ _ _ ho
  refine ⟨_, k1, RE.go S1 g3 fun w F2 H2 ρ2 e2 S2 r2 => ?_⟩
  obtain ⟨v', k1', al', xs', e0, j2, j3, j4, j5, j6⟩ := S2.env.at_ _ _ ho
  rw [k1] at k1'
  cases k1'
  cases e0
  have e3 := asInt_eq g7
  subst e3
  cases r2
  have E1 := (E0.trans e1).trans e2
  have S3 := S2.own_write ho k1 j4 j5 j6 (j3.set j (r1.ext e2))
  exact ⟨al, xs', _, j, rfl, rfl, j2, by rw [j3.length]; exact g9, q σ F2 _ ρ2 S3 (write_ok E1 S2.fh S2.cells j6 j4 j5).1 (e1.trans e2).gr⟩
theorem q_ret {a : E} {x : Expr} {p : Pos} (ha : PE X x (tE X.K Φ Γ a)) : PS X (.Return (some x) p) (tS X.K Φ Γ (.ret a)) := by
  refine PS.imp (ps_ret ha) fun D σ H q => ?_
  obtain ⟨F0, B0, ρ0, F, ρ, env, μ, r, S, E0, he, q⟩ := q
  rw [ex] at he
  obtain ⟨⟨d, μ1⟩, g1, g2⟩ := Option.map_eq_some_iff.mp he
  cases g2
  exact RE.go S g1 fun w F1 H1 ρ1 e1 S1 r1 => q w F1 H1 ρ1 (E0.trans e1) S1.fh S1.cells r1
theorem q_if {c : E} {a b : List S} {x : Expr} {ys zs : List Stmt} {p : Pos} (hc : PT X x (tT X.K Φ Γ c)) (ha : PSs X ys (tSs X.K Φ Γ a)) (hb : PSs X zs (tSs X.K Φ Γ b)) : PS X (.If x ys zs p) (tS X.K Φ Γ (.iff c a b)) := by
  refine PS.imp (ps_if hc ha hb) fun D σ H q => ?_
  obtain ⟨F0, B0, ρ0, F, ρ, env, μ, r, S, E0, he, q⟩ := q
  rw [ex] at he
  obtain ⟨⟨k, μ1⟩, g1, g2⟩ := Option.bind_eq_some_iff.mp he
  refine RE.go S g1 fun w F1 H1 ρ1 e1 S1 r1 => ?_
  cases r1
  dsimp only at g2
  cases k with
  | true => exact iteT ⟨F0, B0, ρ0, F1, ρ1, env, μ1, r, S1, E0.trans e1, by rw [if_pos rfl] at g2; exact g2, q.grow e1.gr⟩
  | false => exact iteF ⟨F0, B0, ρ0, F1, ρ1, env, μ1, r, S1, E0.trans e1, by rw [if_neg Bool.false_ne_true] at g2; exact g2, q.grow e1.gr⟩
theorem q_while {c : E} {b : List S} {x : Expr} {ys : List Stmt} {p : Pos} (hp : PassesOwn (model X.prog X.w) X.A X.env X.xe) (hc : PT X x (tT X.K Φ Γ c)) (hb : PSs X ys (tSs X.K Φ Γ b)) : PS X (.While x ys [] p) (tS X.K Φ Γ (.wh c b)) := by
  refine PS.imp (ps_while hp hc hb) fun D σ H q => ?_
  obtain ⟨F0, B0, ρ0, F, ρ, env, μ, r, S, E0, he, q⟩ := q
  rw [ex] at he
  obtain ⟨n, hn⟩ := whS_some.mp he
  have Wd : Nat → L2.St → Hp → Prop := fun m σ H => True
  refine ⟨fun m σ H => ∃ F1 ρ1 env μ, SR X.K B0 F1 H ρ1 σ env μ ∧ Ext F0 B0 ρ0 F1 H ρ1 ∧ Gr F ρ F1 ρ1 ∧ whN (fun env' μ' => evT Φ Γ c env' μ') (fun env' μ' => exs Φ Γ b env' μ') m env μ = some r, ⟨n, F, ρ, env, μ, S, E0, .refl, hn⟩, ?_⟩
  rintro m σ H ⟨F', ρ', env, μ, S, E, gr, h⟩
  cases m with
  | zero => rw [whN] at h; cases h
  | succ m =>
    rw [whN] at h
    obtain ⟨⟨k, μ1⟩, g1, g2⟩ := Option.bind_eq_some_iff.mp h
    refine RE.go S g1 fun w F1 H1 ρ1 e1 S1 r1 => ?_
    cases r1
    dsimp only at g2
    have E1 := E.trans e1
    have gr1 := gr.trans e1.gr
    cases k with
    | false =>
      rw [if_neg Bool.false_ne_true] at g2
      cases g2
      exact iteF (q σ F1 H1 ρ1 S1 E1 gr1)
    | true =>
      rw [if_pos rfl] at g2
      obtain ⟨fl, g3, g4⟩ := Option.bind_eq_some_iff.mp g2
      refine iteT ⟨fun σ H => ∃ F1 ρ1 env μ, SR X.K B0 F1 H ρ1 σ env μ ∧ Ext F0 B0 ρ0 F1 H ρ1 ∧ Gr F ρ F1 ρ1 ∧ whN (fun env' μ' => evT Φ Γ c env' μ') (fun env' μ' => exs Φ Γ b env' μ') m env μ = some r, fun σ' H' h' => ⟨m, Nat.lt_succ_self m, h'⟩, F0, B0, ρ0, F1, ρ1, env, μ1, fl, S1, E1, g3, ?_⟩
      cases fl with
      | nx e μ' => exact fun σ' F' H' ρ' S' E' G' => ⟨F', ρ', _, _, S', E', gr1.trans G', g4⟩
      | ct e μ' => exact fun σ' F' H' ρ' S' E' G' => ⟨F', ρ', _, _, S', E', gr1.trans G', g4⟩
      | bk e μ' => cases g4; exact fun σ' F' H' ρ' S' E' G' => q σ' F' H' ρ' S' E' (gr1.trans G')
      | rt d μ' => cases g4; exact fun v F' H' ρ' E' s' c' r' => q v F' H' ρ' E' s' c' r'
theorem q_for {t : T} {it : I} {b : List S} {tg x : Expr} {ys : List Stmt} {p : Pos} (G : CG C Φ Γ k X sc) (hp : PassesOwn (model X.prog X.w) X.A X.env X.xe) (ht : mT C sc t tg = true) (hi : mI C sc it x (isTup tg) = true) (hb : PSs X ys (tSs X.K Φ Γ b)) : PS X (.For tg x ys [] p) (tS X.K Φ Γ (.for t it b)) := by
  refine PS.imp (ps_for hp G.calm (piI it X sc x tg G hi) (pgT G t tg ht) hb (folded_of (mI_noset hi))) fun D σ H q => ?_
  obtain ⟨F0, B0, ρ0, F, ρ, env, μ, r, S, E0, he, q⟩ := q
  rw [ex] at he
  obtain ⟨⟨ds, μ1⟩, g1, g2⟩ := Option.bind_eq_some_iff.mp he
  refine RE.go S g1 fun J F1 H1 ρ1 e1 S1 r1 => ?_
  obtain ⟨G', Y, W, hG, hY⟩ := r1
  refine for_it W (fun i σ H => ∃ F2 ρ2 env2 μ2, SR X.K B0 F2 H ρ2 σ env2 μ2 ∧ Ext F0 B0 ρ0 F2 H ρ2 ∧ Gr F1 ρ1 F2 ρ2 ∧ forS t (fun env' μ' => exs Φ Γ b env' μ') (ds.drop i) env2 μ2 = some r) ?_ ?_ ?_ ?_
  · exact ⟨F1, ρ1, env, μ1, S1, E0.trans e1, .refl, g2⟩
  · rintro i σ H _ ⟨F2, ρ2, env2, μ2, S2, E2, s2, _⟩
    exact hG F2 H s2.ff S2.fh
  · rintro i y σ H H' hi' ⟨F2, ρ2, env2, μ2, S2, E2, gr, hf⟩ hy
    obtain ⟨F3, dx, P, k1, k2⟩ := hY i y H H' F2 hi' gr.ff S2.fh hy
    have hdrop : ds.drop i = dx :: ds.drop (i + 1) := by
      have hlt : i < ds.length := hi'
      rw [List.drop_eq_getElem_cons hlt]
      rw [List.getElem?_eq_getElem hlt] at k1
      cases k1
      rfl
    rw [hdrop, forS] at hf
    obtain ⟨env1, u1, u2⟩ := Option.bind_eq_some_iff.mp hf
    obtain ⟨fl, u3, u4⟩ := Option.bind_eq_some_iff.mp u2
    have S3 := S2.px P
    have E3 := E2.trans (P.ext (ρ := ρ2))
    have gr3 : Gr F1 ρ1 F3 ρ2 := gr.trans ⟨P.ff, fun _ _ h => h⟩
    refine ⟨B0, F3, ρ2, env2, μ2, dx, env1, S3, k2 ρ2 gr.rr, u1, fun σ2 S4 _ _ => ⟨F0, B0, ρ0, F3, ρ2, env1, μ2, fl, S4, E3, u3, ?_⟩⟩
    cases fl with
    | nx e μ' => exact fun σ' F' H' ρ' S' E' G' => ⟨F', ρ', _, _, S', E', gr3.trans G', u4⟩
    | ct e μ' => exact fun σ' F' H' ρ' S' E' G' => ⟨F', ρ', _, _, S', E', gr3.trans G', u4⟩
    | bk e μ' => cases u4; exact fun σ' F' H' ρ' S' E' G' => q σ' F' H' ρ' S' E' ((e1.gr.trans gr3).trans G')
    | rt d μ' => cases u4; exact fun v F' H' ρ' E' s' c' r' => q v F' H' ρ' E' s' c' r'
  · rintro σ H ⟨F2, ρ2, env2, μ2, S2, E2, gr, hf⟩
    rw [List.drop_length, forS] at hf
    cases hf
    exact q σ F2 H ρ2 S2 E2 (e1.gr.trans gr)
/-! ### all statements -/
mutual
theorem psS (G : CG C Φ Γ k X sc) (hp : PassesOwn (model X.prog X.w) X.A X.env X.xe) : ∀ (s : S) (e : Stmt), mS C sc s e = true → PS X e (tS X.K Φ Γ s)
  | .app i a, e, h => by
    obtain ⟨x, p1, m, p2, y, p3, p, rfl, ⟨⟨⟨⟨h1, h2⟩, h3⟩, rfl⟩, h4⟩, h5⟩ := mS_app h
    exact q_app G h1 h2 h3 h4 (mE_nostar h5).1 (peE a X sc y G h5)
  | .expr a, e, h => by
    obtain ⟨x, p, rfl, h1, h2⟩ := mS_expr h
    exact q_expr h1 (peE a X sc x G h2)
  | .asg t a, e, h => by
    obtain ⟨tg, x, p, rfl, ⟨h1, h2⟩, h3⟩ := mS_asg h
    exact q_asg G h1 h2 h3
  | .asgN i a, e, h => by
    obtain ⟨y, py, x, p, rfl, ⟨h1, h2⟩, h3⟩ := mS_asgN h
    unfold mT at h1
    simp only [Bool.and_eq_true, decide_eq_true_eq] at h1
    exact q_asgN G h1.1 h1.2 h2 h3
  | .par i j a b, e, h => by
    obtain ⟨x, px, y, py, k1, p1, u, v, k2, p2, p, rfl, ⟨⟨⟨⟨⟨⟨⟨⟨h1, h2⟩, h3⟩, h4⟩, h5⟩, h6⟩, h7⟩, h8⟩, h9⟩, h10⟩ := mS_par h
    exact q_par G h1 h2 h3 h4 h5 h6 h9 h10 h7 h8
  | .aug i op a, e, h => by
    obtain ⟨x, p1, o, y, p, rfl, ⟨⟨h1, h2⟩, rfl⟩, h3⟩ := mS_aug h
    exact q_aug G h1 h2 (peE a X sc y G h3)
  | .setm o i a, e, h => by
    obtain ⟨x, y, p1, z, p, rfl, ⟨⟨⟨⟨h1, h2⟩, h3⟩, h4⟩, h5⟩, h6⟩ := mS_setm h
    exact q_setm G h1 h2 h3 h4 h5 h6
  | .ext i a, e, h => by
    obtain ⟨x, p1, m, p2, y, p3, p, rfl, ⟨⟨⟨⟨h1, h2⟩, h3⟩, rfl⟩, h4⟩, h5⟩ := mS_ext h
    exact q_ext G h1 h2 h3 h4 (mE_nostar h5).1 (peE a X sc y G h5)
  | .dNew i, e, h => by
    obtain ⟨y, py, p1, p, rfl, h1⟩ := mS_dNew h
    unfold mT at h1
    simp only [Bool.and_eq_true, decide_eq_true_eq] at h1
    exact q_dNew G h1.1 h1.2
  | .setO i o a, e, h => by
    obtain ⟨y, p2, u, p1, z, p, rfl, ⟨⟨⟨⟨⟨⟨h1, h2⟩, h3⟩, h4⟩, h5⟩, h6⟩, h7⟩, h8⟩ := mS_setO h
    exact q_setO G h1 h2 h3 h4 h5 h6 h7 h8
  | .kNew i, e, h => by
    obtain ⟨y, py, p1, p, rfl, h1⟩ := mS_kNew h
    unfold mT at h1
    simp only [Bool.and_eq_true, decide_eq_true_eq] at h1
    exact q_kNew G h1.1 h1.2
  | .kPut i b a, e, h => by
    obtain ⟨y, p2, u, p1, z, p, rfl, ⟨⟨⟨⟨⟨⟨h1, h2⟩, h3⟩, h4⟩, h5⟩, h6⟩, h7⟩, h8⟩ := mS_kPut h
    exact q_kPut G h1 h2 h3 h6 h7 h8 (peE b X sc u G h4) (peE a X sc z G h5)
  | .dPut i b a, e, h => by
    obtain ⟨y, p2, u, p1, z, p, rfl, ⟨⟨⟨⟨⟨⟨h1, h2⟩, h3⟩, h4⟩, h5⟩, h6⟩, h7⟩, h8⟩ := mS_dPut h
    exact q_dPut G h1 h2 h3 h6 h7 h8 (peE b X sc u G h4) (peE a X sc z G h5)
  | .ret a, e, h => by
    obtain ⟨x, p, rfl, h1⟩ := mS_ret h
    exact q_ret (peE a X sc x G h1)
  | .retN, e, h => by
    obtain ⟨p, rfl⟩ := mS_retN h
    refine PS.imp ps_retN fun D σ H q => ?_
    obtain ⟨F0, B0, ρ0, F, ρ, env, μ, r, S, E0, he, q⟩ := q
    rw [ex] at he; cases he
    exact q _ F H ρ E0 S.fh S.cells .non
  | .iff c a b, e, h => by
    obtain ⟨x, ys, zs, p, rfl, ⟨h1, h2⟩, h3⟩ := mS_iff h
    exact q_if (ptE c X sc x G h1) (pssS G hp a ys h2) (pssS G hp b zs h3)
  | .wh c b, e, h => by
    obtain ⟨x, ys, p, rfl, h1, h2⟩ := mS_wh h
    exact q_while hp (ptE c X sc x G h1) (pssS G hp b ys h2)
  | .for t it b, e, h => by
    obtain ⟨tg, x, ys, p, rfl, ⟨h1, h2⟩, h3⟩ := mS_for h
    exact q_for G hp h1 h2 (pssS G hp b ys h3)
  | .brk, e, h => by
    obtain ⟨p, rfl⟩ := mS_brk h
    refine PS.imp ps_break fun D σ H q => ?_
    obtain ⟨F0, B0, ρ0, F, ρ, env, μ, r, S, E0, he, q⟩ := q
    rw [ex] at he; cases he
    exact q _ F H ρ S E0 .refl
  | .cont, e, h => by
    obtain ⟨p, rfl⟩ := mS_cont h
    refine PS.imp ps_continue fun D σ H q => ?_
    obtain ⟨F0, B0, ρ0, F, ρ, env, μ, r, S, E0, he, q⟩ := q
    rw [ex] at he; cases he
    exact q _ F H ρ S E0 .refl
  | .pass, e, h => by
    obtain ⟨p, rfl⟩ := mS_pass h
    refine PS.imp ps_pass fun D σ H q => ?_
    obtain ⟨F0, B0, ρ0, F, ρ, env, μ, r, S, E0, he, q⟩ := q
    rw [ex] at he; cases he
    exact q _ F H ρ S E0 .refl
  | .frz i s, e, h => by
    refine PS.imp (psS G hp s e (mS_frz h)) fun D σ H q => ?_
    obtain ⟨F0, B0, ρ0, F, ρ, env, μ, r, S, E0, he, q⟩ := q
    rw [ex] at he
    obtain ⟨ds, h1, h2⟩ := Option.bind_eq_some_iff.mp he
    obtain ⟨F1, S1, E1, g1⟩ := S.freeze E0 h1
    exact ⟨F0, B0, ρ0, F1, ρ, _, μ, r, S1, E1, h2, q.grow g1⟩
theorem pssS (G : CG C Φ Γ k X sc) (hp : PassesOwn (model X.prog X.w) X.A X.env X.xe) : ∀ (s : List S) (e : List Stmt), mSs C sc s e = true → PSs X e (tSs X.K Φ Γ s)
  | [], [], _ => by
    refine PSs.imp pss_nil fun D σ H q => ?_
    obtain ⟨F0, B0, ρ0, F, ρ, env, μ, r, S, E0, he, q⟩ := q
    rw [exs] at he; cases he
    exact q _ F H ρ S E0 .refl
  | s :: ss, e :: es, h => by
    rw [mSs, Bool.and_eq_true] at h
    refine PSs.imp (pss_cons (psS G hp s e h.1) (pssS G hp ss es h.2)) fun D σ H q => ?_
    obtain ⟨F0, B0, ρ0, F, ρ, env, μ, r, S, E0, he, q⟩ := q
    rw [exs] at he
    obtain ⟨fl, g1, g2⟩ := Option.bind_eq_some_iff.mp he
    refine ⟨F0, B0, ρ0, F, ρ, env, μ, fl, S, E0, g1, ?_⟩
    cases fl with
    | nx e' m' => exact fun σ' F' H' ρ' S' E' G' => ⟨F0, B0, ρ0, F', ρ', _, _, r, S', E', g2, q.grow G'⟩
    | bk e' m' => cases g2; exact q
    | ct e' m' => cases g2; exact q
    | rt d m' => cases g2; exact q
  | [], _ :: _, h => by rw [mSs] at h <;> first | cases h | (intros; contradiction)
  | _ :: _, [], h => by rw [mSs] at h <;> first | cases h | (intros; contradiction)
end
end
end Py
end
section
set_option Elab.async false
set_option linter.all false
set_option maxRecDepth 100000
set_option maxHeartbeats 4000000
namespace Py
open PySem L2 RZ
/-- a def of the text: its name, its slots' names (the parameters first), its syntax, its statement -/
structure PF where
  name : Str
  N : List Str
  fn : Fn
  st : Stmt
def PF.ps (p : PF) : List Str := p.N.take p.fn.ar
/-- what is looked at by the kernel -/
def PF.ok (names gls : List Str) (p : PF) : Bool :=
  mSs ⟨p.N, names, gls⟩ (defScope p.st) p.fn.body (defBody p.st) && decide ((defScope p.st).kind = .function) && (defScope p.st).isCoroutine == false && (defScope p.st).isGenerator == false &&
    decide p.N.Nodup && (p.N.take p.fn.ar).all (fun x => locB (defScope p.st) x) && (defScope p.st).names.all (fun y => decide (y.2 ≠ .free)) && decide (p.fn.ar ≤ p.N.length) && decide (p.fn.sl = p.N.length)
theorem PF.scope {names gls : List Str} {p : PF} (h : p.ok names gls = true) : FnScope p.N p.ps (defScope p.st) ∧ mSs ⟨p.N, names, gls⟩ (defScope p.st) p.fn.body (defBody p.st) = true ∧ p.fn.ar ≤ p.N.length ∧ p.fn.sl = p.N.length := by
  unfold PF.ok at h
  simp only [Bool.and_eq_true, decide_eq_true_eq, beq_iff_eq] at h
  obtain ⟨⟨⟨⟨⟨⟨⟨⟨h1, h2⟩, h3⟩, h4⟩, h5⟩, h6⟩, h7⟩, h8⟩, h9⟩ := h
  refine ⟨⟨h2, h3, h4, h5, ?_, fun x hx => ?_, fun y hy => ?_⟩, h1, h8, h9⟩
  · unfold PF.ps
    rw [List.length_take, Nat.min_eq_left h8]
  · have := List.all_eq_true.mp h6 x hx
    unfold locB at this
    split at this
    · exact .inl ‹_›
    · exact .inr ‹_›
    · cases this
  · have := List.all_eq_true.mp h7 y hy
    simpa using this
theorem ps_len {names gls : List Str} {p : PF} (h : p.ok names gls = true) : p.ps.length = p.fn.ar := by
  have := (PF.scope h).2.2.1
  unfold PF.ps
  rw [List.length_take, Nat.min_eq_left this]
section
variable {P : Program} {w : World} {K : PySem.W.Frag} {mg : Str → Option Value} {base : Heap}
/-- where a def stands -/
structure PFact (K : PySem.W.Frag) (mg : Str → Option Value) (p : PF) (fa : Addr) (fd : FuncData) : Prop where
  mgf : mg p.name = some (.ref fa)
  fun_ : FunD K p.name p.name (defArgs p.st) (defBody p.st) (defScope p.st) [] [] fa fd
  bnd : Binds K fd p.ps []
theorem start_env {names gls : List Str} {p : PF} (h : p.ok names gls = true) {F H : Hp} {ρ : List Addr} {μ : Store} {vs : List V} {ds : List D} (fh : Same F H) (c : Cells K F H ρ μ) (r : DrL K F ρ vs ds) (hl : ds.length = p.fn.ar) :
    SR K H F H ρ (L2.start p.N vs) (ds.map (fun d => some (SV.val d)) ++ List.replicate (p.fn.sl - p.fn.ar) none) μ := by
  obtain ⟨_, _, h8, h9⟩ := PF.scope h
  have hv : vs.length = p.fn.ar := r.length.trans hl
  have get : ∀ (i : Nat) (sv : SV), (ds.map (fun d => some (SV.val d)) ++ List.replicate (p.fn.sl - p.fn.ar) none)[i]? = some (some sv) → ∃ d, ds[i]? = some d ∧ sv = .val d := fun i sv g => by
    by_cases hi : i < ds.length
    · rw [List.getElem?_append_left (by simpa using hi), List.getElem?_map, List.getElem?_eq_getElem hi] at g
      cases g
      exact ⟨_, List.getElem?_eq_getElem hi, rfl⟩
    · rw [List.getElem?_append_right (by simpa using hi), List.getElem?_replicate] at g
      split at g <;> cases g
  refine ⟨fh, c, ⟨?_, fun i sv g => ?_, fun i j es fs a g1 g2 _ _ => ?_, fun i j t u es fs a g1 g2 _ _ => ?_⟩⟩
  · unfold L2.start
    rw [List.length_append, List.length_append, List.length_map, List.length_map, List.length_replicate, List.length_replicate, hv, hl]
    omega
  · obtain ⟨d, g1, rfl⟩ := get i sv g
    obtain ⟨v, g2, g3⟩ := r.get g1
    refine ⟨v, ?_, g3⟩
    unfold L2.start
    have hi : i < vs.length := (List.getElem?_eq_some_iff.mp g2).1
    rw [List.getElem?_append_left (by simpa using hi), List.getElem?_map, g2]
    rfl
  · obtain ⟨d, _, e⟩ := get i _ g1
    cases e
  · obtain ⟨d, _, e⟩ := get i _ g1
    cases e
theorem prog_ok (pfs : List PF) (gls : List Str) (Γ : GlS) (hchk : pfs.all (fun p => p.ok (pfs.map (·.name)) gls) = true) (hf : ∀ p ∈ pfs, ∃ fa fd, PFact K mg p fa fd)
    (hg : ∀ g x d, gls[g]? = some x → Γ g = some d → ∃ v u, mg x = some u ∧ RelV v u ∧ ∀ F ρ, Dr K F ρ v d) (hb : ∀ x ∈ biAll, mg x = none) :
    ∀ (k i : Nat) (p : PF), pfs[i]? = some p → ∀ fa fd, PFact K mg p fa fd → FnOk P w K mg base CX0 k fa fd p.ps (spF K (run (pfs.map (·.fn)) Γ k i))
  | 0, i, p, hi, fa, fd, T => by
    have no : ∀ vs H Q E, ¬ spF K (run (pfs.map (·.fn)) Γ 0 i) vs H Q E := fun vs H Q E ⟨F, ρ, μ, ds, d, μ', _, _, _, h, _⟩ => by rw [run] at h; cases h
    exact ⟨fun vs H Q E h => (no vs H Q E h).elim, fun A outer s H args us vs Q E _ _ _ _ h => (no vs H Q E h).elim⟩
  | k + 1, i, p, hi, fa, fd, T => by
    have ih := prog_ok pfs gls Γ hchk hf hg hb k
    have hp := List.all_eq_true.mp hchk p (List.mem_of_getElem? hi)
    obtain ⟨hS, hm, h8, h9⟩ := PF.scope hp
    have hfn : (pfs.map (·.fn))[i]? = some p.fn := by rw [List.getElem?_map, hi]; rfl
    refine T.fun_.ok hS (fun vs H Q E h => ?_) fun cdv A outer s H vs Q E hr h => ?_
    · obtain ⟨F, ρ, μ, ds, d, μ', _, _, h3, h4, _⟩ := h
      rw [run, hfn] at h4
      dsimp only [Option.bind_some] at h4
      split at h4
      · rename_i hl
        rw [ps_len hp, h3.length, hl]
      · cases h4
    · obtain ⟨F, ρ, μ, ds, d, μ', fh, c, r, h4, q⟩ := h
      rw [run, hfn] at h4
      dsimp only [Option.bind_some] at h4
      split at h4
      case isFalse => cases h4
      rename_i hl
      obtain ⟨fl, h5, h6⟩ := Option.bind_eq_some_iff.mp h4
      have G : CG ⟨p.N, pfs.map (·.name), gls⟩ (run (pfs.map (·.fn)) Γ k) Γ k (cxOf CX0 P w K mg base p.N p.name (defScope p.st) fa cdv A outer s H E).nox (defScope p.st) :=
        { hN := rfl, nd := hS.nd, calm := rfl, room := hr, loc := fun _ h => h, cel := fun _ h => h, fre := fun _ h => .inr h, glo := fun _ h => h, kind := hS.kind, cfn := fun _ _ => rfl
          fns := fun f x hx => by
            rw [List.getElem?_map] at hx
            obtain ⟨pf, h1, h2⟩ := Option.map_eq_some_iff.mp hx
            obtain ⟨fa', fd', T'⟩ := hf pf (List.mem_of_getElem? h1)
            exact ⟨fa', fd', pf.ps, by rw [← h2]; exact T'.mgf, T'.fun_.kp, ih f pf h1 fa' fd' T', T'.bnd⟩
          gls := hg
          bis := hb }
      refine ⟨_, (pssS G PassesOwn.never p.fn.body _ hm).nox, F, H, ρ, F, ρ, _, μ, fl, start_env hp fh c r hl, .refl, h5, ?_⟩
      cases fl with
      | nx e m =>
        cases h6
        exact fun σ' F' H' ρ' S' E' _ => q _ F' H' ρ' E' S'.fh S'.cells .non
      | rt d' m =>
        cases h6
        exact fun v F' H' ρ' E' s' c' r' => q v F' H' ρ' E' s' c' r'
      | bk e m => cases h6
      | ct e m => cases h6
end
end Py
end
section
set_option Elab.async false
set_option linter.all false
set_option maxRecDepth 100000
set_option maxHeartbeats 4000000
namespace Py
open PySem L2 RZ
/-! ### from the head's facts -/
def dOf (p : PF) : He.DefD := ⟨(p.name, none), p.name, p.name, defArgs p.st, defBody p.st, defScope p.st, [], []⟩
def faOf (pfs : List PF) : List He.Fa := pfs.map (fun p => .glo p.name) ++ biAll.map .free
def BindOk (p : PF) : Prop := ∀ (kV doc pm : Value) (an : Option Addr) (cdv ct : Value) (us : List Value), us.length = p.ps.length →
  bindArgs (PySem.W.fnOf p.name p.name (defArgs p.st) (defBody p.st) (defScope p.st) .none kV doc pm an cdv ct) ⟨us, []⟩ = pure (p.ps.zip us)
section
variable {K : PySem.W.Frag} {h : Heap} {mg : Str → Option Value}
theorem facts_of {pfs : List PF} (c : He.SaysD (faOf pfs) (pfs.map dOf) K) (X : K.In h) (G : h.Ns mainGlobals mg) (hb : ∀ p ∈ pfs, BindOk p) :
    (∀ (i : Nat) (p : PF), pfs[i]? = some p → ∃ fd, PFact K mg p (He.ga K p.name) fd) ∧ ∀ x ∈ biAll, mg x = none := by
  constructor
  · intro i p hi
    have h1 : (pfs.map dOf)[i]? = some (dOf p) := by rw [List.getElem?_map, hi]; rfl
    obtain ⟨fd, F⟩ := c.def_ i h1
    have hlt : i < pfs.length := (List.getElem?_eq_some_iff.mp hi).1
    have h2 : (faOf pfs)[i]? = some (.glo p.name) := by
      unfold faOf
      rw [List.getElem?_append_left (by simpa using hlt), List.getElem?_map, hi]
      rfl
    exact ⟨fd, He.glo_ok X G (c.fact i h2), F, FunD.bindsN F (hb p (List.mem_of_getElem? hi))⟩
  · intro x hx
    obtain ⟨j, hj, e⟩ := List.getElem_of_mem hx
    have h2 : (faOf pfs)[pfs.length + j]? = some (.free x) := by
      unfold faOf
      rw [List.getElem?_append_right (by simp), List.length_map, Nat.add_sub_cancel_left, List.getElem?_map, List.getElem?_eq_getElem hj, e]
      rfl
    exact He.free_ok X G (c.fact _ h2)
end
/-- the law's own promise, from the run upon data -/
theorem law_sp {K : PySem.W.Frag} {φ : List D → Store → Option (D × Store)} (hφ : ∀ ns : List Int, ns.length ≤ 63 → ∃ μ', φ [.scr (ns.map D.int)] [] = some (.bl true, μ')) (H : Hp) (a : Addr) (ns : List Int) (hl : ns.length ≤ 63) (hS : SqL K H a (ns.map V.int)) :
    spF K φ [.ref a] H (fun v _ => v = .bl true) (fun _ _ _ => False) := by
  obtain ⟨μ', e⟩ := hφ ns hl
  refine ⟨H, [], [], [.scr (ns.map D.int)], .bl true, μ', Same.refl _, ⟨rfl, fun i j a h => by simp at h, fun i a ds h => by simp at h⟩, .cons (.scr hS (DrL.ints ns)) .nil, e, fun v F' H' ρ' _ _ _ r => ?_⟩
  cases r
  rfl
/-- all of the text, from the head's facts to the law's promise -/
theorem law_ok {P : Program} {w : World} {K : PySem.W.Frag} {h : Heap} {mg : Str → Option Value} {fa : Addr} (pfs : List PF) (gls : List Str) (Γ : GlS) (k i : Nat) (p : PF) (hi : pfs[i]? = some p) (hps : p.ps = [("script" : Str)])
    (hchk : pfs.all (fun p => p.ok (pfs.map (·.name)) gls) = true) (hb : ∀ p ∈ pfs, BindOk p) (hg : ∀ g x d, gls[g]? = some x → Γ g = some d → ∃ v u, mg x = some u ∧ RelV v u ∧ ∀ F ρ, Dr K F ρ v d)
    (X : K.In h) (G : h.Ns mainGlobals mg) (hfa : mg p.name = some (.ref fa)) (c : He.SaysD (faOf pfs) (pfs.map dOf) K) :
    ∃ fd : FuncData, (∀ (s : Shared) (v : Value), BindsTo s fd ⟨[v], []⟩ [("script", v)]) ∧ ∀ base : Heap, K.In base → base.Ns mainGlobals mg → FnOk P w K mg base CX0 k fa fd [("script" : Str)] (spF K (run (pfs.map (·.fn)) Γ k i)) := by
  obtain ⟨f1, f2⟩ := facts_of c X G hb
  obtain ⟨fd, T⟩ := f1 i p hi
  have e := hfa.symm.trans T.mgf
  cases e
  refine ⟨fd, fun s v => ?_, fun base _ _ => ?_⟩
  · have := FunD.bindsA T.fun_ (hb p (List.mem_of_getElem? hi)) s [v] (by rw [hps]; rfl)
    rw [hps] at this
    exact this
  · have := prog_ok (P := P) (w := w) (base := base) pfs gls Γ hchk (fun q hq => by
      obtain ⟨j, hj, e⟩ := List.getElem_of_mem hq
      obtain ⟨fd', T'⟩ := f1 j q (by rw [List.getElem?_eq_getElem hj, e])
      exact ⟨_, fd', T'⟩) hg f2 k i p hi _ fd T
    rw [hps] at this
    exact this

/-! ### the module's constants -/
mutual
/-- the value stands for the data, by what K holds -/
def datB (K : PySem.W.Frag) : D → Value → Bool
  | .non, .none => true
  | .bl b, .bool c => decide (b = c)
  | .int i, .int j _ => decide (i = j)
  | .str x, .str y _ => decide (x = y)
  | .tup ds, .ref a => (match K.lookup a with
    | some ⟨.type c, _, .seq its _, _⟩ => decide (c = "tuple") && (decide (its.size ≤ sizeLine) && datBs K ds its.toList)
    | _ => false)
  | _, _ => false
def datBs (K : PySem.W.Frag) : List D → List Value → Bool
  | [], [] => true
  | d :: ds, u :: us => datB K d u && datBs K ds us
  | _, _ => false
end
mutual
theorem datB_ok {K : PySem.W.Frag} : ∀ (d : D) (u : Value), datB K d u = true → ∃ v, RelV v u ∧ ∀ F ρ, Dr K F ρ v d
  | .non, u, h => by
    unfold datB at h
    split at h <;> first | contradiction | skip
    exact ⟨.non, rfl, fun _ _ => .non⟩
  | .bl b, u, h => by
    cases u with
    | bool c => unfold datB at h; cases of_decide_eq_true h; exact ⟨.bl b, rfl, fun _ _ => .bl b⟩
    | _ => unfold datB at h; cases h
  | .int i, u, h => by
    cases u with
    | int j t => unfold datB at h; cases of_decide_eq_true h; exact ⟨.int i, ⟨t, rfl⟩, fun _ _ => .int i⟩
    | _ => unfold datB at h; cases h
  | .str x, u, h => by
    cases u with
    | str y t => unfold datB at h; cases of_decide_eq_true h; exact ⟨.str x, ⟨t, rfl⟩, fun _ _ => .str x⟩
    | _ => unfold datB at h; cases h
  | .tup ds, u, h => by
    cases u with
    | ref a =>
      unfold datB at h
      cases q : K.lookup a with
      | none => rw [q] at h; cases h
      | some o =>
        obtain ⟨oc, od, dt, osl⟩ := o
        rw [q] at h
        cases oc with
        | type c =>
          cases dt with
          | seq its n =>
            obtain ⟨h1, h2⟩ := Bool.and_eq_true_iff.mp (show (decide (c = "tuple") && (decide (its.size ≤ sizeLine) && datBs K ds its.toList)) = true from h)
            obtain ⟨h3, h4⟩ := Bool.and_eq_true_iff.mp h2
            obtain ⟨vs, h5, h6⟩ := datBs_ok ds its.toList h4
            exact ⟨.ref a, rfl, fun F ρ => .tup (.inr ⟨_, its, n, q, congrArg Value.type (of_decide_eq_true h1), rfl, of_decide_eq_true h3, h5⟩) (h6 F ρ)⟩
          | _ => cases h
        | _ => cases dt <;> cases h
    | _ => unfold datB at h; cases h
  | .lst _, u, h => by unfold datB at h; cases h
  | .scr _, u, h => by unfold datB at h; cases h
  | .mr _, u, h => by unfold datB at h; cases h
  | .rg _ _, u, h => by unfold datB at h; cases h
  | .dk _ _, u, h => by unfold datB at h; cases h
theorem datBs_ok {K : PySem.W.Frag} : ∀ (ds : List D) (us : List Value), datBs K ds us = true → ∃ vs, Vals vs us ∧ ∀ F ρ, DrL K F ρ vs ds
  | [], [], _ => ⟨[], .nil, fun _ _ => .nil⟩
  | [], _ :: _, h => by unfold datBs at h; cases h
  | _ :: _, [], h => by unfold datBs at h; cases h
  | d :: ds, u :: us, h => by
    rw [datBs, Bool.and_eq_true] at h
    obtain ⟨v, h1, h2⟩ := datB_ok d u h.1
    obtain ⟨vs, h3, h4⟩ := datBs_ok ds us h.2
    exact ⟨v :: vs, .cons h1 h3, fun F ρ => .cons (h2 F ρ) (h4 F ρ)⟩
end
/-- the constants hold in K -/
def conB (cons : List (Str × D)) (K : PySem.W.Frag) : Bool := cons.all fun p => match PySem.W.nsIn K mainGlobals p.1 with
  | some (some u) => datB K p.2 u
  | _ => false
def ΓC (cons : List (Str × D)) : GlS := fun g => (cons[g]?).map (·.2)
theorem hg_of {cons : List (Str × D)} {K : PySem.W.Frag} {h : Heap} {mg : Str → Option Value} (X : K.In h) (G : h.Ns mainGlobals mg) (c : conB cons K = true) :
    ∀ g x d, (cons.map (·.1))[g]? = some x → ΓC cons g = some d → ∃ v u, mg x = some u ∧ RelV v u ∧ ∀ F ρ, Dr K F ρ v d := by
  intro g x d h1 h2
  unfold ΓC at h2
  rw [List.getElem?_map] at h1
  obtain ⟨p, h3, rfl⟩ := Option.map_eq_some_iff.mp h1
  rw [h3] at h2
  cases h2
  have h4 := List.all_eq_true.mp c p (List.mem_of_getElem? h3)
  split at h4
  · rename_i u hu
    obtain ⟨v, h5, h6⟩ := datB_ok p.2 u h4
    exact ⟨v, u, PySem.W.mg_of X G hu, h5, h6⟩
  · cases h4
abbrev AlC : Type := He.AlD × Bool
def obsC (n : Nat) (fa : List He.Fa) (fn : List He.DefD) (ex : PySem.W.Frag → Bool) (g : Addr → Option Obj) : AlC := (He.obsD fa fn (He.frG g (He.asD g n)), ex (He.frG g (He.asD g n)))
def hookC (n : Nat) (fa : List He.Fa) (fn : List He.DefD) (ex : PySem.W.Frag → Bool) : PySem.W.Hook where
  α := AlC
  obs := fun s => obsC n fa fn ex s.heap.get?
  val := fun _ => (He.valD fn, true)
  says := fun _ h => ∃ K : PySem.W.Frag, K.In h ∧ (He.SaysD fa fn K ∧ ex K = true)
  of := fun _ _ e => ⟨_, He.frG_in, congrArg (fun z : AlC => z.1) e, congrArg (fun z : AlC => z.2) e⟩
  keeps := fun _ _ _ ⟨K, hK, c⟩ k => ⟨K, PySem.W.Frag.In.keeps hK k, c⟩
theorem obsC_eq {n : Nat} {fa : List He.Fa} {fn : List He.DefD} {ex : PySem.W.Frag → Bool} {g : Addr → Option Obj} {s : Shared} (h : ∀ a, g a = s.heap.get? a) : obsC n fa fn ex g = (hookC n fa fn ex).obs s := by
  have e : g = s.heap.get? := funext h
  rw [e] <;> rfl
end Py
end
section
set_option Elab.async false
set_option linter.all false
namespace Py
open PySem L2
/-! ### reckoning upon data -/
def fin (r : Option Fl) : Option (D × Store) := r.bind fun
  | .rt d μ' => some (d, μ')
  | .nx _ μ' => some (.non, μ')
  | _ => none
@[simp] theorem fin_rt (d : D) (μ : Store) : fin (some (.rt d μ)) = some (d, μ) := rfl
@[simp] theorem fin_nx (e : Env) (μ : Store) : fin (some (.nx e μ)) = some (.non, μ) := rfl
theorem run_fin {fs : List Fn} {Γ : GlS} {k f : Nat} {fn : Fn} (h : fs[f]? = some fn) {ds : List D} {μ : Store} (hl : ds.length = fn.ar) :
    run fs Γ (k + 1) f ds μ = fin (exs (run fs Γ k) Γ fn.body (ds.map (fun d => some (.val d)) ++ List.replicate (fn.sl - fn.ar) none) μ) := by
  rw [run, h]
  dsimp only [Option.bind_some]
  rw [if_pos hl]
  rfl
section
variable {Φ : FnS} {Γ : GlS} {env : Env} {μ : Store}
/-- one statement, then the others -/
theorem exs_nx {s : S} {r : List S} {env' : Env} {μ' : Store} (h : ex Φ Γ s env μ = some (.nx env' μ')) : exs Φ Γ (s :: r) env μ = exs Φ Γ r env' μ' := by
  rw [exs, h]; rfl
theorem exs_rt {s : S} {r : List S} {d : D} {μ' : Store} (h : ex Φ Γ s env μ = some (.rt d μ')) : exs Φ Γ (s :: r) env μ = some (.rt d μ') := by
  rw [exs, h]; rfl
theorem exs_one {s : S} : exs Φ Γ [s] env μ = ex Φ Γ s env μ := by
  rw [exs]
  cases ex Φ Γ s env μ with
  | none => rfl
  | some f => cases f <;> simp [exs]
/-- a while, one turn -/
theorem whS_eq {c : Env → Store → Option (Bool × Store)} {b : Env → Store → Option Fl} : whS c b env μ = (c env μ).bind fun p => if p.1 then (b env p.2).bind fun
    | .nx env' μ' => whS c b env' μ'
    | .ct env' μ' => whS c b env' μ'
    | .bk env' μ' => some (.nx env' μ')
    | .rt d μ' => some (.rt d μ')
  else some (.nx env p.2) := by
  apply Option.ext
  intro r
  rw [whS_some]
  constructor
  · rintro ⟨n, h⟩
    cases n with
    | zero => rw [whN] at h; cases h
    | succ n =>
      rw [whN] at h
      obtain ⟨⟨k, μ1⟩, h1, h2⟩ := Option.bind_eq_some_iff.mp h
      rw [h1]
      dsimp only [Option.bind_some] at h2 ⊢
      cases k with
      | false => exact h2
      | true =>
        rw [if_pos rfl] at h2 ⊢
        obtain ⟨fl, h3, h4⟩ := Option.bind_eq_some_iff.mp h2
        rw [h3]
        cases fl with
        | nx e m => exact whS_some.mpr ⟨n, h4⟩
        | ct e m => exact whS_some.mpr ⟨n, h4⟩
        | bk e m => exact h4
        | rt d m => exact h4
  · intro h
    obtain ⟨⟨k, μ1⟩, h1, h2⟩ := Option.bind_eq_some_iff.mp h
    dsimp only at h2
    cases k with
    | false =>
      rw [if_neg Bool.false_ne_true] at h2
      exact ⟨1, by rw [whN, h1]; exact h2⟩
    | true =>
      rw [if_pos rfl] at h2
      obtain ⟨fl, h3, h4⟩ := Option.bind_eq_some_iff.mp h2
      cases fl with
      | nx e m =>
        obtain ⟨n, hn⟩ := whS_some.mp h4
        refine ⟨n + 1, ?_⟩
        rw [whN, h1]
        dsimp only [Option.bind_some]
        rw [if_pos rfl, h3]
        exact hn
      | ct e m =>
        obtain ⟨n, hn⟩ := whS_some.mp h4
        refine ⟨n + 1, ?_⟩
        rw [whN, h1]
        dsimp only [Option.bind_some]
        rw [if_pos rfl, h3]
        exact hn
      | bk e m =>
        refine ⟨1, ?_⟩
        rw [whN, h1]
        dsimp only [Option.bind_some]
        rw [if_pos rfl, h3]
        exact h4
      | rt d m =>
        refine ⟨1, ?_⟩
        rw [whN, h1]
        dsimp only [Option.bind_some]
        rw [if_pos rfl, h3]
        exact h4
end
section
variable {c : Env → Store → Option (Bool × Store)} {b : Env → Store → Option Fl} {env env' : Env} {μ μ' μ1 : Store} {t : T} {d : D} {ds : List D}
theorem whS_go (hc : c env μ = some (true, μ1)) (hb : b env μ1 = some (.nx env' μ')) : whS c b env μ = whS c b env' μ' := by
  rw [whS_eq, hc]
  simp only [Option.bind_some, if_true, hb]
theorem whS_end (hc : c env μ = some (false, μ1)) : whS c b env μ = some (.nx env μ1) := by
  rw [whS_eq, hc]
  simp
theorem whS_rt (hc : c env μ = some (true, μ1)) (hb : b env μ1 = some (.rt d μ')) : whS c b env μ = some (.rt d μ') := by
  rw [whS_eq, hc]
  simp only [Option.bind_some, if_true, hb]
theorem whS_bk (hc : c env μ = some (true, μ1)) (hb : b env μ1 = some (.bk env' μ')) : whS c b env μ = some (.nx env' μ') := by
  rw [whS_eq, hc]
  simp only [Option.bind_some, if_true, hb]
theorem forS_nil : forS t b [] env μ = some (.nx env μ) := rfl
theorem forS_go {env1 : Env} (ha : asgT t d env = some env1) (hb : b env1 μ = some (.nx env' μ')) : forS t b (d :: ds) env μ = forS t b ds env' μ' := by
  rw [forS, ha]; simp only [Option.bind_some, hb]
theorem forS_rt {env1 : Env} {d' : D} (ha : asgT t d env = some env1) (hb : b env1 μ = some (.rt d' μ')) : forS t b (d :: ds) env μ = some (.rt d' μ') := by
  rw [forS, ha]; simp only [Option.bind_some, hb]
theorem forS_bk {env1 : Env} (ha : asgT t d env = some env1) (hb : b env1 μ = some (.bk env' μ')) : forS t b (d :: ds) env μ = some (.nx env' μ') := by
  rw [forS, ha]; simp only [Option.bind_some, hb]
/-- a for by what holds between two turns -/
theorem forS_inv (P : Nat → Env → Store → Prop) (h0 : P 0 env μ) (hs : ∀ i env μ d, ds[i]? = some d → P i env μ → ∃ env1 env' μ', asgT t d env = some env1 ∧ (b env1 μ = some (.nx env' μ') ∨ b env1 μ = some (.ct env' μ')) ∧ P (i + 1) env' μ') :
    ∃ env' μ', forS t b ds env μ = some (.nx env' μ') ∧ P ds.length env' μ' := by
  induction ds generalizing P env μ with
  | nil => exact ⟨env, μ, rfl, h0⟩
  | cons x xs ih =>
    obtain ⟨env1, env', μ', ha, hb, hp⟩ := hs 0 env μ x rfl h0
    obtain ⟨env2, μ2, h1, h2⟩ := ih (fun i => P (i + 1)) hp fun i e m d hd hp => hs (i + 1) e m d (by simpa using hd) hp
    refine ⟨env2, μ2, ?_, by simpa using h2⟩
    rw [forS, ha]
    rcases hb with hb | hb
    · simp only [Option.bind_some, hb]; exact h1
    · simp only [Option.bind_some, hb]; exact h1
end
/-! equality of data -/
theorem eqS_int (a b : Int) : eqS (.int a) (.int b) = some (a == b) := by
  simp [eqS, toPy, SeqAt.shaped, PyData.canLay0, PyData.depth, PyData.eqv]
theorem eqS_bl (a b : Bool) : eqS (.bl a) (.bl b) = some (a == b) := by
  simp [eqS, toPy, SeqAt.shaped, PyData.canLay0, PyData.depth, PyData.eqv]
theorem eqS_str (a b : Str) (ha : PyData.strOk a = true) (hb : PyData.strOk b = true) : eqS (.str a) (.str b) = some (a == b) := by
  simp [eqS, toPy, SeqAt.shaped, PyData.canLay0, PyData.depth, PyData.eqv, ha, hb]
theorem atI_nil {i : Int} : atI ([] : List D) i = none := by
  unfold atI
  cases ixN ([] : List D).length i <;> rfl
theorem atI_of {ds : List D} {j : Nat} (h : j < ds.length) : atI ds (j : Int) = some ds[j] := atI_nat (List.getElem?_eq_getElem h)
/-! ratios -/
def rD (r : Rat) : D := .tup [.int r.num, .int r.den]
/-- a size -/
def Sz (n : Nat) (r : Rat) : Prop := r.num.natAbs < 2 ^ n ∧ r.den < 2 ^ n
theorem log2_lt {n m : Nat} (h : n < 2 ^ m) (hm : 0 < m) : n.log2 < m := by
  by_cases q : n = 0
  · subst q; simpa using hm
  · exact (Nat.log2_lt q).mpr h
theorem mulOk_of {i j : Int} {a b : Nat} (hi : i.natAbs < 2 ^ a) (hj : j.natAbs < 2 ^ b) (h : a + b ≤ 900000 := by decide) : mulOk i j = true := by
  unfold mulOk
  have h1 : i.natAbs.log2 ≤ a := by
    by_cases q : i.natAbs = 0
    · rw [q]; simp
    · exact Nat.le_of_lt ((Nat.log2_lt q).mpr hi)
  have h2 : j.natAbs.log2 ≤ b := by
    by_cases q : j.natAbs = 0
    · rw [q]; simp
    · exact Nat.le_of_lt ((Nat.log2_lt q).mpr hj)
  exact decide_eq_true (by omega)
theorem divOk_of {j : Int} {b : Nat} (h0 : 0 < j) (hj : j.natAbs < 2 ^ b) (h : b ≤ 8999 := by decide) : divOk j = true := by
  unfold divOk
  rw [Bool.and_eq_true]
  refine ⟨decide_eq_true h0, decide_eq_true ?_⟩
  have q : j.natAbs ≠ 0 := by omega
  exact Nat.lt_of_lt_of_le ((Nat.log2_lt q).mpr hj) (by omega)
end Py
end
section
set_option Elab.async false
set_option linter.all false
namespace Py
open PySem L2
/-! ### ratios as data -/
theorem Sz.mono {n m : Nat} {r : Rat} (h : Sz n r) (hm : n ≤ m := by decide) : Sz m r :=
  ⟨Nat.lt_of_lt_of_le h.1 (Nat.pow_le_pow_right (by decide) hm), Nat.lt_of_lt_of_le h.2 (Nat.pow_le_pow_right (by decide) hm)⟩
theorem Sz.neg {n : Nat} {r : Rat} (h : Sz n r) : Sz n (-r) := ⟨by rw [Rat.neg_num, Int.natAbs_neg]; exact h.1, h.2⟩
theorem Sz.int {n : Nat} {i : Int} (h : i.natAbs < 2 ^ n) (hn : 0 < n := by decide) : Sz n (i : Rat) := ⟨h, Nat.one_lt_two_pow (by omega)⟩
theorem rD_divInt {p q : Int} (hq : 0 < q) : rD (Rat.divInt p q) = .tup [.int (p / (Int.gcd p q : Int)), .int (q / (Int.gcd p q : Int))] := by
  unfold rD
  rw [Rat.num_divInt, Rat.den_divInt, Int.sign_eq_one_of_pos hq, Int.one_mul, if_neg (by omega), Int.gcd_comm q p]
  congr 3
  rw [Int.natCast_ediv, Int.natAbs_of_nonneg (Int.le_of_lt hq)]
theorem Sz.divInt {p q : Int} {n : Nat} (hp : p.natAbs < 2 ^ n) (hq : q.natAbs < 2 ^ n) (h0 : q ≠ 0) : Sz n (Rat.divInt p q) := by
  constructor
  · rw [Rat.num_divInt]
    refine Nat.lt_of_le_of_lt (Int.natAbs_ediv_le_natAbs _ _) ?_
    rw [Int.natAbs_mul]
    have : q.sign.natAbs = 1 := Int.natAbs_sign_of_ne_zero h0
    rw [this, Nat.one_mul]
    exact hp
  · rw [Rat.den_divInt, if_neg h0]
    exact Nat.lt_of_le_of_lt (Nat.div_le_self _ _) hq
theorem abs_mul_lt {a b : Int} {n m : Nat} (ha : a.natAbs < 2 ^ n) (hb : b.natAbs < 2 ^ m) : (a * b).natAbs < 2 ^ (n + m) := by
  rw [Int.natAbs_mul, Nat.pow_add]
  exact Nat.mul_lt_mul'' ha hb
theorem abs_add_lt {a b : Int} {n : Nat} (ha : a.natAbs < 2 ^ n) (hb : b.natAbs < 2 ^ n) : (a + b).natAbs < 2 ^ (n + 1) := by
  rw [Nat.pow_succ]
  have := Int.natAbs_add_le a b
  omega
theorem Sz.den {n : Nat} {r : Rat} (h : Sz n r) : (r.den : Int).natAbs < 2 ^ n := h.2
theorem den_ne (r : Rat) : (r.den : Int) ≠ 0 := by have := r.den_nz; omega
theorem den_mul_ne (r s : Rat) : (r.den : Int) * s.den ≠ 0 := Int.mul_ne_zero (den_ne r) (den_ne s)
theorem mul_divInt (s t : Rat) : Rat.divInt (s.num * t.num) (s.den * t.den) = s * t := by
  rw [Rat.mul_def', ← Int.natCast_mul, Rat.divInt_ofNat]
theorem add_divInt (s t : Rat) : Rat.divInt (s.num * t.den + t.num * s.den) (s.den * t.den) = s + t := by
  rw [Rat.add_def', ← Int.natCast_mul, Rat.divInt_ofNat]
theorem div_divInt (s t : Rat) : Rat.divInt (s.num * t.den) (s.den * t.num) = s / t := by
  rw [Rat.div_def, Rat.inv_def, ← Rat.divInt_mul_divInt, Rat.num_divInt_den]
theorem Sz.mul {n m : Nat} {r s : Rat} (h : Sz n r) (h' : Sz m s) : Sz (n + m) (r * s) := by
  rw [← mul_divInt]
  exact Sz.divInt (abs_mul_lt h.1 h'.1) (abs_mul_lt h.den h'.den) (den_mul_ne r s)
theorem Sz.add {n m : Nat} {r s : Rat} (h : Sz n r) (h' : Sz m s) : Sz (n + m + 1) (r + s) := by
  rw [← add_divInt]
  refine Sz.divInt (abs_add_lt (abs_mul_lt h.1 h'.den) ?_) ?_ (den_mul_ne r s)
  · rw [Nat.add_comm n m]; exact abs_mul_lt h'.1 h.den
  · exact Nat.lt_of_lt_of_le (abs_mul_lt h.den h'.den) (Nat.pow_le_pow_right (by decide) (by omega))
theorem num_ne {t : Rat} (h : t ≠ 0) : t.num ≠ 0 := fun z => h (Rat.num_eq_zero.mp z)
theorem Sz.div {n m : Nat} {r s : Rat} (h : Sz n r) (h' : Sz m s) (h0 : s ≠ 0) : Sz (n + m) (r / s) := by
  rw [← div_divInt]
  exact Sz.divInt (abs_mul_lt h.1 h'.den) (abs_mul_lt h.den h'.1) (Int.mul_ne_zero (den_ne r) (num_ne h0))
theorem Sz.sub {n m : Nat} {r s : Rat} (h : Sz n r) (h' : Sz m s) : Sz (n + m + 1) (r - s) := by
  rw [Rat.sub_eq_add_neg]; exact h.add h'.neg
theorem rD_inj {r s : Rat} (h : rD r = rD s) : r = s := by
  unfold rD at h
  injection h with h
  injection h with h1 h2
  injection h1 with h1
  injection h2 with h2 _
  injection h2 with h2
  exact Rat.ext h1 (by exact_mod_cast h2)
theorem gcd_fmod (p q : Int) (h : 0 < q) : Int.gcd q (p.fmod q) = Int.gcd p q := by
  rw [Int.fmod_eq_emod_of_nonneg p (Int.le_of_lt h), Int.gcd_comm]
  have := Int.gcd_add_mul_right_left q (p % q) (p / q)
  rw [Int.emod_add_ediv_mul] at this
  exact this.symm
theorem gcd_lt {p q : Int} {n : Nat} (h0 : q ≠ 0) (hq : q.natAbs < 2 ^ n) : ((Int.gcd p q : Nat) : Int).natAbs < 2 ^ n := by
  rw [Int.natAbs_natCast]
  refine Nat.lt_of_le_of_lt (Nat.le_of_dvd (by omega) ?_) hq
  exact Nat.gcd_dvd_right _ _
theorem gcd_pos' {p q : Int} (h0 : q ≠ 0) : 0 < ((Int.gcd p q : Nat) : Int) := by
  have : 0 < Int.gcd p q := Int.gcd_pos_of_ne_zero_right _ h0
  omega
/-- the test and the body of a while that reckons the greatest common divisor -/
theorem gcd_loop {c : Env → Store → Option (Bool × Store)} {b : Env → Store → Option Fl} {μ : Store} (hc : ∀ p q : Int, c [some (.val (.int p)), some (.val (.int q))] μ = some (decide (q ≠ 0), μ))
    (hb : ∀ p q : Int, q ≠ 0 → b [some (.val (.int p)), some (.val (.int q))] μ = some (.nx [some (.val (.int q)), some (.val (.int (p.fmod q)))] μ)) :
    ∀ (n : Nat) (p q : Int), 0 ≤ q → q.toNat ≤ n → ∃ r, whS c b [some (.val (.int p)), some (.val (.int q))] μ = some (.nx [some (.val (.int r)), some (.val (.int 0))] μ) ∧ r.natAbs = Int.gcd p q
  | n, p, q, h0, hn => by
    by_cases hq : q = 0
    · subst hq
      exact ⟨p, whS_end (by simpa using hc p 0), by simp⟩
    · have hpos : 0 < q := by omega
      match n, hn with
      | 0, hn => omega
      | n + 1, hn =>
        have hlt := Int.emod_lt_of_pos p hpos
        have hge := Int.emod_nonneg p hq
        have e := Int.fmod_eq_emod_of_nonneg p h0
        obtain ⟨r, h1, h2⟩ := gcd_loop hc hb n q (p.fmod q) (by rw [e]; exact hge) (by rw [e]; omega)
        refine ⟨r, ?_, by rw [h2, gcd_fmod p q hpos]⟩
        rw [whS_go (by simpa [hq] using hc p q) (hb p q hq)]
        exact h1
end Py
end
section
set_option Elab.async false
set_option linter.all false
namespace Py
open PySem L2
/-! ### the semantics as rows for simp: each fires on constructors alone -/
section
variable {Φ : FnS} {Γ : GlS} {env : Env} {μ : Store}
@[simp] theorem ev_slot {i : Nat} : ev Φ Γ (.slot i) env μ = (getV env i).map fun d => (d, μ) := by rw [ev]
@[simp] theorem ev_glob {i : Nat} : ev Φ Γ (.glob i) env μ = (Γ i).map fun d => (d, μ) := by rw [ev]
@[simp] theorem ev_int {i : Int} : ev Φ Γ (.int i) env μ = some (.int i, μ) := by rw [ev]
@[simp] theorem ev_bl {i : Bool} : ev Φ Γ (.bl i) env μ = some (.bl i, μ) := by rw [ev]
@[simp] theorem ev_non : ev Φ Γ .non env μ = some (.non, μ) := by rw [ev]
@[simp] theorem ev_str {i : Str} : ev Φ Γ (.str i) env μ = some (.str i, μ) := by rw [ev]
@[simp] theorem ev_bin {op : Operator} {a b : E} : ev Φ Γ (.bin op a b) env μ = (ev Φ Γ a env μ).bind fun p => (ev Φ Γ b env p.2).bind fun q => (binS op p.1 q.1).map fun d => (d, q.2) := by rw [ev]
@[simp] theorem ev_neg {a : E} : ev Φ Γ (.neg a) env μ = (ev Φ Γ a env μ).bind fun p => (asInt p.1).map fun i => (.int (-i), p.2) := by rw [ev]
@[simp] theorem ev_not {a : E} : ev Φ Γ (.not a) env μ = (ev Φ Γ a env μ).bind fun p => (truS p.1).map fun b => (.bl (!b), p.2) := by rw [ev]
@[simp] theorem ev_cmp {op : CmpOp} {a b : E} : ev Φ Γ (.cmp op a b) env μ = (ev Φ Γ a env μ).bind fun p => (ev Φ Γ b env p.2).bind fun q => (cmpS op p.1 q.1).map fun d => (.bl d, q.2) := by rw [ev]
@[simp] theorem ev_isN {a : E} : ev Φ Γ (.isN a) env μ = (ev Φ Γ a env μ).map fun p => (.bl (isNon p.1), p.2) := by rw [ev]
@[simp] theorem ev_notN {a : E} : ev Φ Γ (.notN a) env μ = (ev Φ Γ a env μ).map fun p => (.bl (!isNon p.1), p.2) := by rw [ev]
@[simp] theorem ev_and {a : E} {r : Es} : ev Φ Γ (.and a r) env μ = (ev Φ Γ a env μ).bind fun p => evAnd Φ Γ p.1 r env p.2 := by rw [ev]
@[simp] theorem ev_or {a : E} {r : Es} : ev Φ Γ (.or a r) env μ = (ev Φ Γ a env μ).bind fun p => evOr Φ Γ p.1 r env p.2 := by rw [ev]
@[simp] theorem evAnd_nil {d : D} : evAnd Φ Γ d .nil env μ = some (d, μ) := by cases d <;> rw [evAnd]
@[simp] theorem evAnd_t {e : E} {r : Es} : evAnd Φ Γ (.bl true) (.cons e r) env μ = (ev Φ Γ e env μ).bind fun p => evAnd Φ Γ p.1 r env p.2 := by rw [evAnd]
@[simp] theorem evAnd_f {e : E} {r : Es} : evAnd Φ Γ (.bl false) (.cons e r) env μ = some (.bl false, μ) := by rw [evAnd]
@[simp] theorem evOr_nil {d : D} : evOr Φ Γ d .nil env μ = some (d, μ) := by cases d <;> rw [evOr]
@[simp] theorem evOr_f {e : E} {r : Es} : evOr Φ Γ (.bl false) (.cons e r) env μ = (ev Φ Γ e env μ).bind fun p => evOr Φ Γ p.1 r env p.2 := by rw [evOr]
@[simp] theorem evOr_t {e : E} {r : Es} : evOr Φ Γ (.bl true) (.cons e r) env μ = some (.bl true, μ) := by rw [evOr]
theorem evAnd_b {b : Bool} {e : E} {r : Es} : evAnd Φ Γ (.bl b) (.cons e r) env μ = if b then (ev Φ Γ e env μ).bind fun p => evAnd Φ Γ p.1 r env p.2 else some (.bl false, μ) := by cases b <;> simp
theorem evOr_b {b : Bool} {e : E} {r : Es} : evOr Φ Γ (.bl b) (.cons e r) env μ = if b then some (.bl true, μ) else (ev Φ Γ e env μ).bind fun p => evOr Φ Γ p.1 r env p.2 := by cases b <;> simp
@[simp] theorem ev_ite {a b c : E} : ev Φ Γ (.ite c a b) env μ = (evT Φ Γ c env μ).bind fun p => if p.1 then ev Φ Γ a env p.2 else ev Φ Γ b env p.2 := by rw [ev]
@[simp] theorem ev_tup {es : Es} : ev Φ Γ (.tup es) env μ = (evs Φ Γ es env μ).bind fun p => if p.1.length ≤ SZ then some (.tup p.1, p.2) else none := by rw [ev]
@[simp] theorem ev_lst {es : Es} : ev Φ Γ (.lst es) env μ = (evs Φ Γ es env μ).bind fun p => if p.1.length ≤ SZ then some (.lst p.1, p.2) else none := by rw [ev]
@[simp] theorem ev_mlst {es : Es} : ev Φ Γ (.mlst es) env μ = (evs Φ Γ es env μ).bind fun p => if p.1.length ≤ SZ then some (.mr p.2.length, p.2 ++ [p.1]) else none := by rw [ev]
@[simp] theorem ev_ix {a b : E} : ev Φ Γ (.ix a b) env μ = (ev Φ Γ a env μ).bind fun p => (ev Φ Γ b env p.2).bind fun q => (ixS q.2 p.1 q.1).map fun d => (d, q.2) := by rw [ev]
@[simp] theorem ev_slc {a : E} {lo hi : Eo} : ev Φ Γ (.slc a lo hi) env μ = (ev Φ Γ a env μ).bind fun p => (evo Φ Γ lo env p.2).bind fun q => (evo Φ Γ hi env q.2).bind fun r => (slcS p.1 q.1 r.1).map fun d => (d, r.2) := by rw [ev]
@[simp] theorem ev_call {f : Nat} {e : E} {es : Es} : ev Φ Γ (.call f e es) env μ = (ev Φ Γ e env μ).bind fun p => (evs Φ Γ es env p.2).bind fun q => Φ f (p.1 :: q.1) q.2 := by rw [ev]
@[simp] theorem ev_bi {b : Bi} {e : E} {es : Es} : ev Φ Γ (.bi b e es) env μ = (ev Φ Γ e env μ).bind fun p => (evs Φ Γ es env p.2).bind fun q => (biS q.2 b (p.1 :: q.1)).map fun d => (d, q.2) := by rw [ev]
@[simp] theorem ev_isi {e : E} {t : Ty} : ev Φ Γ (.isi e t) env μ = (ev Φ Γ e env μ).bind fun p => (isiS p.1 t).map fun b => (.bl b, p.2) := by rw [ev]
@[simp] theorem ev_dIn {neg : Bool} {i : Nat} {e : E} : ev Φ Γ (.dIn neg i e) env μ = (ev Φ Γ e env μ).bind fun p => (getD' env i).bind fun kvs => (keyS p.1).map fun k => (.bl (if neg then !(dAtS kvs k).isSome else (dAtS kvs k).isSome), p.2) := by rw [ev]
@[simp] theorem evT_dIn {neg : Bool} {i : Nat} {e : E} : evT Φ Γ (.dIn neg i e) env μ = (ev Φ Γ e env μ).bind fun p => (getD' env i).bind fun kvs => (keyS p.1).map fun k => ((if neg then !(dAtS kvs k).isSome else (dAtS kvs k).isSome), p.2) := by rw [evT]
@[simp] theorem ev_dAt {i : Nat} {e : E} : ev Φ Γ (.dAt i e) env μ = (ev Φ Γ e env μ).bind fun p => (getD' env i).bind fun kvs => (keyS p.1).bind fun k => (dAtS kvs k).map fun v => (v, p.2) := by rw [ev]
def dkOf : D → Option (List Int × List D)
  | .dk ks ds => some (ks, ds)
  | _ => none
@[simp] theorem dkOf_dk {ks : List Int} {ds : List D} : dkOf (.dk ks ds) = some (ks, ds) := rfl
@[simp] theorem ev_kAt {i : Nat} {e : E} : ev Φ Γ (.kAt i e) env μ = (ev Φ Γ e env μ).bind fun p => (getK env i).bind fun kvs => (asInt p.1).bind fun k => (dAtS kvs (.num k)).map fun v => (v, p.2) := by rw [ev]
@[simp] theorem ev_kGet {a k d : E} : ev Φ Γ (.kGet a k d) env μ = (ev Φ Γ a env μ).bind fun p => (ev Φ Γ k env p.2).bind fun q => (ev Φ Γ d env q.2).bind fun r => (asInt q.1).bind fun j => (dkOf p.1).map fun s => ((kFind s.1 s.2 j).getD r.1, r.2) := by
  rw [ev]
  congr 1
  funext ⟨x, m⟩
  dsimp only
  congr 1
  funext ⟨y, m2⟩
  dsimp only
  congr 1
  funext ⟨z, m3⟩
  dsimp only
  congr 1
  funext j
  cases x <;> rfl
theorem ev_kBor {i : Nat} {e : E} : ev Φ Γ (.kBor i e) env μ = (getK env i).bind fun kvs => (ev Φ Γ e (env.set i (some (.val (dkD kvs)))) μ).bind fun p => if noL p.1 && scalS p.2 then some p else none := by rw [ev]
@[simp] theorem ev_dVals {i : Nat} : ev Φ Γ (.dVals i) env μ = (getD' env i).map fun kvs => (.lst (kvs.map (·.2)), μ) := by rw [ev]
@[simp] theorem ev_chain {op op' : CmpOp} {a b c : E} : ev Φ Γ (.chain op op' a b c) env μ = (ev Φ Γ a env μ).bind fun p => (ev Φ Γ b env p.2).bind fun q => (cmpS op p.1 q.1).bind fun k => if k then (ev Φ Γ c env q.2).bind fun r => (cmpS op' q.1 r.1).map fun k' => (.bl k', r.2) else some (.bl false, q.2) := by rw [ev]
@[simp] theorem evT_chain {op op' : CmpOp} {a b c : E} : evT Φ Γ (.chain op op' a b c) env μ = (ev Φ Γ a env μ).bind fun p => (ev Φ Γ b env p.2).bind fun q => (cmpS op p.1 q.1).bind fun k => if k then (ev Φ Γ c env q.2).bind fun r => (cmpS op' q.1 r.1).map fun k' => (k', r.2) else some (false, q.2) := by rw [evT]
@[simp] theorem ev_rngL2 {a b : E} : ev Φ Γ (.rngL2 a b) env μ = (ev Φ Γ a env μ).bind fun p => (ev Φ Γ b env p.2).bind fun q => (asInt p.1).bind fun i => (asInt q.1).bind fun j => (rngS i j).map fun ds => (.lst ds, q.2) := by rw [ev]
@[simp] theorem ev_rngL {e : E} : ev Φ Γ (.rngL e) env μ = (ev Φ Γ e env μ).bind fun p => (asInt p.1).bind fun j => (rngS 0 j).map fun ds => (.lst ds, p.2) := by rw [ev]
theorem ev_lc {e : E} {t : T} {it : I} {c : Eo} {vs : List Nat} : ev Φ Γ (.lc e t it c vs) env μ = (evI Φ Γ it env μ).bind fun p => if p.1.length ≤ SZ then (lcS t (fun env' μ' => evc Φ Γ c env' μ') (fun env' μ' => ev Φ Γ e env' μ') (wipeE env vs) p.1 p.2).map fun q => (.lst q.1, q.2) else none := by rw [ev]
theorem ev_bor {i : Nat} {e : E} : ev Φ Γ (.bor i e) env μ = (getO env i).bind fun ds => (ev Φ Γ e (env.set i (some (.val (.lst ds)))) μ).bind fun p => if noL p.1 && scalS p.2 then some p else none := by rw [ev]
@[simp] theorem evs_nil : evs Φ Γ .nil env μ = some ([], μ) := by rw [evs]
@[simp] theorem evs_cons {e : E} {r : Es} : evs Φ Γ (.cons e r) env μ = (ev Φ Γ e env μ).bind fun p => (evs Φ Γ r env p.2).map fun q => (p.1 :: q.1, q.2) := by rw [evs]
@[simp] theorem evo_none : evo Φ Γ .none env μ = some (none, μ) := by rw [evo]
@[simp] theorem evo_some {e : E} : evo Φ Γ (.some e) env μ = (ev Φ Γ e env μ).bind fun p => (asInt p.1).map fun i => (some i, p.2) := by rw [evo]
@[simp] theorem evc_none : evc Φ Γ .none env μ = some (true, μ) := by rw [evc]
@[simp] theorem evc_some {e : E} : evc Φ Γ (.some e) env μ = evT Φ Γ e env μ := by rw [evc]
@[simp] theorem evT_not {a : E} : evT Φ Γ (.not a) env μ = (evT Φ Γ a env μ).map fun p => (!p.1, p.2) := by rw [evT]
@[simp] theorem evT_and {a : E} {r : Es} : evT Φ Γ (.and a r) env μ = (evT Φ Γ a env μ).bind fun p => if p.1 then evTAnd Φ Γ r env p.2 else some (false, p.2) := by rw [evT]
@[simp] theorem evT_or {a : E} {r : Es} : evT Φ Γ (.or a r) env μ = (evT Φ Γ a env μ).bind fun p => if p.1 then some (true, p.2) else evTOr Φ Γ r env p.2 := by rw [evT]
@[simp] theorem evTAnd_nil : evTAnd Φ Γ .nil env μ = some (true, μ) := by rw [evTAnd]
@[simp] theorem evTAnd_cons {e : E} {r : Es} : evTAnd Φ Γ (.cons e r) env μ = (evT Φ Γ e env μ).bind fun p => if p.1 then evTAnd Φ Γ r env p.2 else some (false, p.2) := by rw [evTAnd]
@[simp] theorem evTOr_nil : evTOr Φ Γ .nil env μ = some (false, μ) := by rw [evTOr]
@[simp] theorem evTOr_cons {e : E} {r : Es} : evTOr Φ Γ (.cons e r) env μ = (evT Φ Γ e env μ).bind fun p => if p.1 then some (true, p.2) else evTOr Φ Γ r env p.2 := by rw [evTOr]
@[simp] theorem evT_cmp {op : CmpOp} {a b : E} : evT Φ Γ (.cmp op a b) env μ = (ev Φ Γ a env μ).bind fun p => (ev Φ Γ b env p.2).bind fun q => (cmpS op p.1 q.1).map fun d => (d, q.2) := by rw [evT]
@[simp] theorem evT_isN {a : E} : evT Φ Γ (.isN a) env μ = (ev Φ Γ a env μ).map fun p => (isNon p.1, p.2) := by rw [evT]
@[simp] theorem evT_notN {a : E} : evT Φ Γ (.notN a) env μ = (ev Φ Γ a env μ).map fun p => (!isNon p.1, p.2) := by rw [evT]
@[simp] theorem evT_slot {i : Nat} : evT Φ Γ (.slot i) env μ = (getV env i).bind fun d => (truS d).map fun k => (k, μ) := by rw [evT]
@[simp] theorem evT_call {f : Nat} {e : E} {es : Es} : evT Φ Γ (.call f e es) env μ = (ev Φ Γ e env μ).bind fun p => (evs Φ Γ es env p.2).bind fun q => (Φ f (p.1 :: q.1) q.2).bind fun r => (truS r.1).map fun k => (k, r.2) := by rw [evT]
@[simp] theorem evT_ix {a b : E} : evT Φ Γ (.ix a b) env μ = (ev Φ Γ a env μ).bind fun p => (ev Φ Γ b env p.2).bind fun q => (ixS q.2 p.1 q.1).bind fun d => (truS d).map fun k => (k, q.2) := by rw [evT]
@[simp] theorem evT_isi {e : E} {t : Ty} : evT Φ Γ (.isi e t) env μ = (ev Φ Γ e env μ).bind fun p => (isiS p.1 t).map fun b => (b, p.2) := by rw [evT]
@[simp] theorem evT_bi {b : Bi} {e : E} {es : Es} : evT Φ Γ (.bi b e es) env μ = (ev Φ Γ e env μ).bind fun p => (evs Φ Γ es env p.2).bind fun q => (biS q.2 b (p.1 :: q.1)).bind fun d => (truS d).map fun k => (k, q.2) := by rw [evT]
theorem evT_bor {i : Nat} {e : E} : evT Φ Γ (.bor i e) env μ = (getO env i).bind fun ds => (evT Φ Γ e (env.set i (some (.val (.lst ds)))) μ).bind fun p => if scalS p.2 then some p else none := by rw [evT]
@[simp] theorem evI_rng1 {e : E} : evI Φ Γ (.rng1 e) env μ = (ev Φ Γ e env μ).bind fun p => (asInt p.1).bind fun j => (rngS 0 j).map fun ds => (ds, p.2) := by rw [evI]
@[simp] theorem evI_rngD {e : E} : evI Φ Γ (.rngD e) env μ = (ev Φ Γ e env μ).bind fun p => (asInt p.1).bind fun j => (rngDS j).map fun ds => (ds, p.2) := by rw [evI]
@[simp] theorem evI_rng2 {a b : E} : evI Φ Γ (.rng2 a b) env μ = (ev Φ Γ a env μ).bind fun p => (ev Φ Γ b env p.2).bind fun q => (asInt p.1).bind fun i => (asInt q.1).bind fun j => (rngS i j).map fun ds => (ds, q.2) := by rw [evI]
def seqOf : D → Option (List D)
  | .tup ds => some ds | .lst ds => some ds | .scr ds => some ds
  | .rg lo hi => rngS lo hi
  | _ => none
@[simp] theorem seqOf_rg {lo hi : Int} : seqOf (.rg lo hi) = rngS lo hi := rfl
@[simp] theorem seqOf_tup {ds : List D} : seqOf (.tup ds) = some ds := rfl
@[simp] theorem seqOf_lst {ds : List D} : seqOf (.lst ds) = some ds := rfl
@[simp] theorem seqOf_scr {ds : List D} : seqOf (.scr ds) = some ds := rfl
@[simp] theorem evI_seq {e : E} : evI Φ Γ (.seq e) env μ = (ev Φ Γ e env μ).bind fun p => (seqOf p.1).map fun ds => (ds, p.2) := by
  rw [evI]
  congr 1
  funext ⟨x, m⟩
  cases x <;> rfl
def zipOf : D → D → Option (List D)
  | .tup a, .tup b => some (zipD a b) | .lst a, .lst b => some (zipD a b) | .tup a, .lst b => some (zipD a b)
  | _, _ => none
@[simp] theorem zipOf_mix {a b : List D} : zipOf (.tup a) (.lst b) = some (zipD a b) := rfl
@[simp] theorem zipOf_tup {a b : List D} : zipOf (.tup a) (.tup b) = some (zipD a b) := rfl
@[simp] theorem zipOf_lst {a b : List D} : zipOf (.lst a) (.lst b) = some (zipD a b) := rfl
@[simp] theorem zipD_nil {b : List D} : zipD [] b = [] := rfl
@[simp] theorem zipD_nil' {a : List D} : zipD a [] = [] := by unfold zipD; simp
@[simp] theorem zipD_cons {x y : D} {a b : List D} : zipD (x :: a) (y :: b) = .tup [x, y] :: zipD a b := rfl
@[simp] theorem evI_zip {a b : E} : evI Φ Γ (.zip a b) env μ = (ev Φ Γ a env μ).bind fun p => (ev Φ Γ b env p.2).bind fun q => (zipOf p.1 q.1).map fun ds => (ds, q.2) := by
  rw [evI]
  congr 1
  funext ⟨x, m⟩
  dsimp only
  congr 1
  funext ⟨y, m'⟩
  cases x <;> cases y <;> rfl
def enumOf : D → Option (List D)
  | .lst ds => some (enumD 0 ds)
  | .tup ds => some (enumD 0 ds)
  | _ => none
@[simp] theorem enumOf_tup {ds : List D} : enumOf (.tup ds) = some (enumD 0 ds) := rfl
@[simp] theorem enumOf_lst {ds : List D} : enumOf (.lst ds) = some (enumD 0 ds) := rfl
@[simp] theorem evI_enum {a : E} : evI Φ Γ (.enum a) env μ = (ev Φ Γ a env μ).bind fun p => (enumOf p.1).map fun ds => (ds, p.2) := by
  rw [evI]
  congr 1
  funext ⟨x, m⟩
  cases x <;> rfl
def revOf : D → Option (List D)
  | .lst ds => some ds.reverse
  | .scr ds => some ds.reverse
  | _ => none
@[simp] theorem revOf_lst {ds : List D} : revOf (.lst ds) = some ds.reverse := rfl
@[simp] theorem ev_rev {e : E} : ev Φ Γ (.rev e) env μ = (ev Φ Γ e env μ).bind fun p => (revOf p.1).map fun ds => (.lst ds, p.2) := by
  rw [ev]
  congr 1
  funext ⟨x, m⟩
  cases x <;> rfl
/-! statements -/
@[simp] theorem exs_nil : exs Φ Γ [] env μ = some (.nx env μ) := by rw [exs]
def thenS (r : Env → Store → Option Fl) : Fl → Option Fl
  | .nx e m => r e m
  | f => some f
@[simp] theorem thenS_nx {r : Env → Store → Option Fl} : thenS r (.nx env μ) = r env μ := rfl
@[simp] theorem thenS_rt {r : Env → Store → Option Fl} {d : D} : thenS r (.rt d μ) = some (.rt d μ) := rfl
@[simp] theorem thenS_bk {r : Env → Store → Option Fl} : thenS r (.bk env μ) = some (.bk env μ) := rfl
@[simp] theorem thenS_ct {r : Env → Store → Option Fl} : thenS r (.ct env μ) = some (.ct env μ) := rfl
@[simp] theorem exs_cons {s : S} {r : List S} : exs Φ Γ (s :: r) env μ = (ex Φ Γ s env μ).bind (thenS (exs Φ Γ r)) := by
  rw [exs]
  rfl
@[simp] theorem ex_app {i : Nat} {e : E} : ex Φ Γ (.app i e) env μ = (ev Φ Γ e env μ).bind fun p => (getO env i).bind fun ds => if ds.length < SZ then some (.nx (env.set i (some (.own (ds ++ [p.1])))) p.2) else none := by rw [ex]
@[simp] theorem ex_expr {e : E} : ex Φ Γ (.expr e) env μ = (ev Φ Γ e env μ).map fun p => .nx env p.2 := by rw [ex]
@[simp] theorem ex_asg {t : T} {e : E} : ex Φ Γ (.asg t e) env μ = (ev Φ Γ e env μ).bind fun p => (asgT t p.1 env).map fun env' => .nx env' p.2 := by rw [ex]
def asLst : D → Option (List D)
  | .lst ds => some ds
  | _ => none
@[simp] theorem asLst_lst {ds : List D} : asLst (.lst ds) = some ds := rfl
@[simp] theorem ex_asgN {i : Nat} {e : E} : ex Φ Γ (.asgN i e) env μ = (ev Φ Γ e env μ).bind fun p => (asLst p.1).bind fun ds => if i < env.length then some (.nx (env.set i (some (.own ds))) p.2) else none := by
  rw [ex]
  congr 1
  funext ⟨x, m⟩
  cases x <;> rfl
@[simp] theorem ex_par {i j : Nat} {a b : E} : ex Φ Γ (.par i j a b) env μ = (ev Φ Γ a env μ).bind fun p => (ev Φ Γ b env p.2).bind fun q => (setV env i p.1).bind fun env1 => (setV env1 j q.1).map fun env2 => .nx env2 q.2 := by rw [ex]
def augS : Operator → D → D → Option D
  | .Add, .int a, .int b => some (.int (a + b)) | .Sub, .int a, .int b => some (.int (a - b))
  | _, _, _ => none
@[simp] theorem augS_add {a b : Int} : augS .Add (.int a) (.int b) = some (.int (a + b)) := rfl
@[simp] theorem augS_sub {a b : Int} : augS .Sub (.int a) (.int b) = some (.int (a - b)) := rfl
@[simp] theorem ex_aug {i : Nat} {op : Operator} {e : E} : ex Φ Γ (.aug i op e) env μ = (getV env i).bind fun x => (ev Φ Γ e env μ).bind fun p => (augS op x p.1).bind fun z => (setV env i z).map fun env' => .nx env' p.2 := by
  rw [ex]
  congr 1
  funext x
  congr 1
  funext ⟨y, m⟩
  cases op <;> cases x <;> cases y <;> rfl
def setmS (env : Env) (μ : Store) (d : D) : D → D → Option Fl
  | .mr c, .int k => (μ[c]?).bind fun ds => (ixN ds.length k).map fun j => .nx env (μ.set c (ds.set j d))
  | _, _ => none
@[simp] theorem setmS_mr {d : D} {c : Nat} {k : Int} : setmS env μ d (.mr c) (.int k) = (μ[c]?).bind fun ds => (ixN ds.length k).map fun j => .nx env (μ.set c (ds.set j d)) := rfl
@[simp] theorem ex_dNew {i : Nat} : ex Φ Γ (.dNew i) env μ = if i < env.length then some (.nx (env.set i (some (.dct true []))) μ) else none := by rw [ex]
@[simp] theorem ex_setO {i : Nat} {o e : E} : ex Φ Γ (.setO i o e) env μ = (ev Φ Γ e env μ).bind fun p => (ev Φ Γ o env p.2).bind fun q => (getO env i).bind fun ds => (asInt q.1).bind fun k => (ixN ds.length k).map fun j => .nx (env.set i (some (.own (ds.set j p.1)))) q.2 := by rw [ex]
@[simp] theorem ex_kNew {i : Nat} : ex Φ Γ (.kNew i) env μ = if i < env.length then some (.nx (env.set i (some (.dct false []))) μ) else none := by rw [ex]
@[simp] theorem ex_kPut {i : Nat} {k e : E} : ex Φ Γ (.kPut i k e) env μ = (ev Φ Γ e env μ).bind fun p => (ev Φ Γ k env p.2).bind fun q => (getK env i).bind fun kvs => (asInt q.1).bind fun j => if kvs.length < SZ then some (.nx (env.set i (some (.dct false (dPutS kvs (.num j) p.1)))) q.2) else none := by rw [ex]
@[simp] theorem ex_dPut {i : Nat} {k e : E} : ex Φ Γ (.dPut i k e) env μ = (ev Φ Γ e env μ).bind fun p => (ev Φ Γ k env p.2).bind fun q => (getD' env i).bind fun kvs => (keyS q.1).bind fun k' => if kvs.length < SZ then some (.nx (env.set i (some (.dct true (dPutS kvs k' p.1)))) q.2) else none := by rw [ex]
@[simp] theorem ex_ext {i : Nat} {e : E} : ex Φ Γ (.ext i e) env μ = (ev Φ Γ e env μ).bind fun p => (getO env i).bind fun ds => (asLst p.1).bind fun es => if ds.length + es.length ≤ SZ then some (.nx (env.set i (some (.own (ds ++ es)))) p.2) else none := by
  rw [ex]
  congr 1
  funext ⟨x, m⟩
  dsimp only
  congr 1
  funext ds
  cases x <;> rfl
@[simp] theorem ex_setm {o i e : E} : ex Φ Γ (.setm o i e) env μ = (ev Φ Γ e env μ).bind fun p => (ev Φ Γ o env p.2).bind fun q => (ev Φ Γ i env q.2).bind fun r => setmS env r.2 p.1 q.1 r.1 := by
  rw [ex]
  rfl
@[simp] theorem ex_ret {e : E} : ex Φ Γ (.ret e) env μ = (ev Φ Γ e env μ).map fun p => .rt p.1 p.2 := by rw [ex]
@[simp] theorem ex_retN : ex Φ Γ .retN env μ = some (.rt .non μ) := by rw [ex]
@[simp] theorem ex_iff {c : E} {a b : List S} : ex Φ Γ (.iff c a b) env μ = (evT Φ Γ c env μ).bind fun p => if p.1 then exs Φ Γ a env p.2 else exs Φ Γ b env p.2 := by rw [ex]
theorem ex_wh {c : E} {b : List S} : ex Φ Γ (.wh c b) env μ = whS (fun env' μ' => evT Φ Γ c env' μ') (fun env' μ' => exs Φ Γ b env' μ') env μ := by rw [ex]
theorem ex_for {t : T} {it : I} {b : List S} : ex Φ Γ (.for t it b) env μ = (evI Φ Γ it env μ).bind fun p => forS t (fun env' μ' => exs Φ Γ b env' μ') p.1 env p.2 := by rw [ex]
@[simp] theorem ex_brk : ex Φ Γ .brk env μ = some (.bk env μ) := by rw [ex]
@[simp] theorem ex_cont : ex Φ Γ .cont env μ = some (.ct env μ) := by rw [ex]
@[simp] theorem ex_pass : ex Φ Γ .pass env μ = some (.nx env μ) := by rw [ex]
@[simp] theorem ex_frz {i : Nat} {s : S} : ex Φ Γ (.frz i s) env μ = (getO env i).bind fun ds => ex Φ Γ s (env.set i (some (.val (.lst ds)))) μ := by rw [ex]
end
/-! slots -/
section
variable {d : D} {x : Option SV} {env : Env} {i : Nat} {ds : List D}
@[simp] theorem getV_0 : getV (some (.val d) :: env) 0 = some d := rfl
@[simp] theorem getV_s : getV (x :: env) (i + 1) = getV env i := by simp [getV]
@[simp] theorem getD_0 {kvs : List (NestedKey × D)} : getD' (some (.dct true kvs) :: env) 0 = some kvs := rfl
@[simp] theorem getK_0 {kvs : List (NestedKey × D)} : getK (some (.dct false kvs) :: env) 0 = some kvs := rfl
@[simp] theorem getK_s : getK (x :: env) (i + 1) = getK env i := by simp [getK]
@[simp] theorem getD_s : getD' (x :: env) (i + 1) = getD' env i := by simp [getD']
@[simp] theorem getO_0 : getO (some (.own ds) :: env) 0 = some ds := rfl
@[simp] theorem getO_s : getO (x :: env) (i + 1) = getO env i := by simp [getO]
@[simp] theorem setV_0 : setV (x :: env) 0 d = some (some (.val d) :: env) := by simp [setV]
@[simp] theorem setV_s : setV (x :: env) (i + 1) d = (setV env i d).map fun e => x :: e := by
  unfold setV
  by_cases h : i < env.length
  · rw [if_pos h, if_pos (by simpa using h)]; rfl
  · rw [if_neg h, if_neg (by simpa using h)]; rfl
@[simp] theorem asgT_nm : asgT (.nm i) d env = setV env i d := by rw [asgT]
@[simp] theorem asgT_tp {ts : List T} : asgT (.tp ts) (.tup ds) env = asgTs ts ds env := by rw [asgT]
@[simp] theorem asgT_tpl {ts : List T} : asgT (.tp ts) (.lst ds) env = asgTs ts ds env := by rw [asgT]
@[simp] theorem asgTs_nil : asgTs [] [] env = some env := by rw [asgTs]
@[simp] theorem asgTs_cons {t : T} {ts : List T} : asgTs (t :: ts) (d :: ds) env = (asgT t d env).bind fun e => asgTs ts ds e := by rw [asgTs]
@[simp] theorem wipeE_nil : wipeE env [] = env := rfl
@[simp] theorem wipeE_cons {vs : List Nat} : wipeE env (i :: vs) = (wipeE env vs).set i none := rfl
end
/-! operations -/
section
variable {i j : Int} {a b : List D} {d e : D} {μ : Store}
@[simp] theorem biS_range1 {μ : Store} {j : Int} : biS μ .range [.int j] = some (.rg 0 j) := rfl
@[simp] theorem biS_range2 {μ : Store} {i j : Int} : biS μ .range [.int i, .int j] = some (.rg i j) := rfl
@[simp] theorem binS_add : binS .Add (.int i) (.int j) = some (.int (i + j)) := rfl
@[simp] theorem binS_sub : binS .Sub (.int i) (.int j) = some (.int (i - j)) := rfl
@[simp] theorem binS_mul : binS .Mult (.int i) (.int j) = if mulOk i j then some (.int (i * j)) else none := rfl
@[simp] theorem binS_fdiv : binS .FloorDiv (.int i) (.int j) = if divOk j then some (.int (i / j)) else none := rfl
@[simp] theorem binS_mod : binS .Mod (.int i) (.int j) = if j != 0 then some (.int (i.fmod j)) else none := rfl
@[simp] theorem binS_tup : binS .Add (.tup a) (.tup b) = if a.length + b.length ≤ SZ then some (.tup (a ++ b)) else none := rfl
@[simp] theorem binS_lst : binS .Add (.lst a) (.lst b) = if a.length + b.length ≤ SZ then some (.lst (a ++ b)) else none := rfl
@[simp] theorem asInt_int : asInt (.int i) = some i := rfl
@[simp] theorem cmpS_lt : cmpS .Lt (.int i) (.int j) = some (decide (i < j)) := rfl
@[simp] theorem cmpS_le : cmpS .LtE (.int i) (.int j) = some (decide (i ≤ j)) := rfl
@[simp] theorem cmpS_gt : cmpS .Gt (.int i) (.int j) = some (decide (j < i)) := rfl
@[simp] theorem cmpS_ge : cmpS .GtE (.int i) (.int j) = some (decide (j ≤ i)) := rfl
@[simp] theorem cmpS_eq : cmpS .Eq d e = eqS d e := by cases d <;> cases e <;> rfl
@[simp] theorem cmpS_is {a b : Bool} : cmpS .Is (.bl a) (.bl b) = some (decide (a = b)) := rfl
@[simp] theorem cmpS_isnot {a b : Bool} : cmpS .IsNot (.bl a) (.bl b) = some (!decide (a = b)) := rfl
@[simp] theorem binS_shr {i j : Int} : binS .RShift (.int i) (.int j) = if decide (0 ≤ j) then some (.int (i / 2 ^ j.toNat)) else none := rfl
@[simp] theorem binS_and {i j : Int} : binS .BitAnd (.int i) (.int j) = if decide (0 ≤ i) && decide (j = 1) then some (.int (i % 2)) else none := rfl
@[simp] theorem cmpS_ne : cmpS .NotEq d e = (eqS d e).map not := by cases d <;> cases e <;> rfl
@[simp] theorem eqS_int' : eqS (.int i) (.int j) = some (decide (i = j)) := by rw [eqS_int]; congr 1
@[simp] theorem eqS_bl' {x y : Bool} : eqS (.bl x) (.bl y) = some (x == y) := eqS_bl x y
@[simp] theorem isNon_non : isNon .non = true := rfl
@[simp] theorem isNon_tup : isNon (.tup a) = false := rfl
@[simp] theorem isNon_lst : isNon (.lst a) = false := rfl
@[simp] theorem isNon_int : isNon (.int i) = false := rfl
@[simp] theorem isNon_bl {x : Bool} : isNon (.bl x) = false := rfl
@[simp] theorem isNon_str {x : Str} : isNon (.str x) = false := rfl
@[simp] theorem truS_bl {x : Bool} : truS (.bl x) = some x := rfl
@[simp] theorem truS_non : truS .non = some false := rfl
@[simp] theorem truS_int : truS (.int i) = some (i != 0) := rfl
@[simp] theorem truS_tup : truS (.tup a) = some (!a.isEmpty) := rfl
@[simp] theorem truS_lst : truS (.lst a) = some (!a.isEmpty) := rfl
@[simp] theorem itsS_tup : itsS μ (.tup a) = some a := rfl
@[simp] theorem itsS_lst : itsS μ (.lst a) = some a := rfl
@[simp] theorem itsS_scr : itsS μ (.scr a) = some a := rfl
@[simp] theorem itsS_mr {n : Nat} : itsS μ (.mr n) = μ[n]? := rfl
@[simp] theorem lstS_lst : lstS μ (.lst a) = some a := rfl
@[simp] theorem lstS_scr : lstS μ (.scr a) = some a := rfl
@[simp] theorem ixS_int : ixS μ d (.int i) = (itsS μ d).bind fun ds => atI ds i := rfl
theorem atI_0 : atI (d :: a) 0 = some d := by simp [atI, ixN]
theorem atI_neg1 {d : D} : atI [d] (-1) = some d := by simp [atI, ixN]
theorem atI_s {n : Nat} : atI (d :: a) ((n + 1 : Nat) : Int) = atI a (n : Int) := by
  unfold atI ixN
  by_cases h : (n : Int) < a.length
  · rw [if_pos (by omega), if_pos (by simp; omega), if_pos (by omega), if_pos h]
    simp
  · rw [if_pos (by omega), if_neg (by simp; omega), if_pos (by omega), if_neg h]
    rfl
@[simp] theorem slcS_tup {lo hi : Option Int} : slcS (.tup a) lo hi = some (.tup (cutS a lo hi)) := rfl
@[simp] theorem slcS_lst {lo hi : Option Int} : slcS (.lst a) lo hi = some (.lst (cutS a lo hi)) := rfl
@[simp] theorem biS_len : biS μ .len [d] = (itsS μ d).map fun ds => .int ds.length := rfl
@[simp] theorem biS_abs : biS μ .abs [.int i] = some (.int (if i < 0 then -i else i)) := rfl
@[simp] theorem biS_max2 : biS μ .max [.int i, .int j] = some (.int (if j > i then j else i)) := rfl
@[simp] theorem biS_min2 : biS μ .min [.int i, .int j] = some (.int (if j < i then j else i)) := rfl
@[simp] theorem biS_sum : biS μ .sum [d] = (lstS μ d).bind fun ds => (asInts ds).map fun is => .int is.sum := rfl
@[simp] theorem biS_tuple : biS μ .tuple [d] = (itsS μ d).map .tup := rfl
@[simp] theorem biS_list : biS μ .list [d] = (itsS μ d).map .lst := rfl
@[simp] theorem biS_int : biS μ .int [.int i] = some (.int i) := rfl
@[simp] theorem biS_intb {x : Bool} : biS μ .int [.bl x] = some (.int (if x then 1 else 0)) := rfl
@[simp] theorem isiS_non {t : Ty} : isiS .non t = some false := by cases t <;> rfl
@[simp] theorem isiS_bl {x : Bool} {t : Ty} : isiS (.bl x) t = some (t == .bool || t == .int) := by cases t <;> rfl
@[simp] theorem isiS_int {t : Ty} : isiS (.int i) t = some (t == .int) := by cases t <;> rfl
@[simp] theorem isiS_str {x : Str} {t : Ty} : isiS (.str x) t = some (t == .str) := by cases t <;> rfl
@[simp] theorem isiS_tup {t : Ty} : isiS (.tup a) t = some (t == .tup) := by cases t <;> rfl
@[simp] theorem isiS_lst {t : Ty} : isiS (.lst a) t = some (t == .lst) := by cases t <;> rfl
end
/-! comprehensions over written lists -/
section
variable {t : T} {c : Env → Store → Option (Bool × Store)} {f : Env → Store → Option (D × Store)} {env : Env} {μ : Store} {d : D} {ds : List D}
@[simp] theorem lcS_nil : lcS t c f env [] μ = some ([], μ) := rfl
theorem lcS_cons : lcS t c f env (d :: ds) μ = (asgT t d env).bind fun e => (c e μ).bind fun p =>
    if p.1 then (f e p.2).bind fun q => (lcS t c f env ds q.2).map fun r => (q.1 :: r.1, r.2) else lcS t c f env ds p.2 := rfl
/-- each item kept, its value a function of it -/
theorem lcS_map {α : Type} {g : α → D} {h : α → D} (hk : ∀ a, ∃ e, asgT t (g a) env = some e ∧ c e μ = some (true, μ) ∧ f e μ = some (h a, μ)) : ∀ l : List α, lcS t c f env (l.map g) μ = some (l.map h, μ)
  | [] => rfl
  | a :: l => by
    obtain ⟨e, h1, h2, h3⟩ := hk a
    rw [List.map_cons, lcS_cons, h1]
    simp only [Option.bind_some, h2, if_true, h3, lcS_map hk l, Option.map_some, List.map_cons]
end
end Py
end
section
set_option Elab.async false
set_option linter.all false
namespace Py
open PySem L2
theorem szle {n : Nat} (h : n ≤ 16777216) : (n ≤ SZ) = True := eq_true (by unfold SZ; exact h)
theorem szlt {n : Nat} (h : n < 16777216) : (n < SZ) = True := eq_true (by unfold SZ; exact h)
end Py
end
section
set_option Elab.async false
set_option linter.all false
namespace FM
/-! ### Fourier and Motzkin, in plain Lean -/
structure Rw where
  f : List Rat
  r : Rat
  s : Bool
  w : List Rat
def dot : List Rat → List Rat → Rat
  | a :: as, b :: bs => a * b + dot as bs
  | _, _ => 0
def okv (s : Bool) (v : Rat) : Prop := if s then 0 < v else 0 ≤ v
def Rw.ok (R : Rw) (x : List Rat) : Prop := okv R.s (dot R.f x + R.r)
def Sat (rs : List Rw) (x : List Rat) : Prop := ∀ R ∈ rs, R.ok x
def Rw.scale (R : Rw) (c : Rat) : Rw := ⟨R.f.map (c * ·), c * R.r, R.s, R.w.map (c * ·)⟩
def addL : List Rat → List Rat → List Rat
  | a :: as, b :: bs => (a + b) :: addL as bs
  | _, _ => []
def Rw.sum (R S : Rw) : Rw := ⟨addL R.f S.f, R.r + S.r, R.s || S.s, addL R.w S.w⟩
theorem okv_scale {s : Bool} {v c : Rat} (hc : 0 < c) : okv s (c * v) ↔ okv s v := by
  unfold okv
  have h0 : (0 : Rat) ≤ c := Rat.le_of_lt hc
  split
  · constructor
    · intro h
      refine Rat.not_le.mp fun h' => ?_
      have := Rat.mul_le_mul_of_nonneg_left h' h0
      grind
    · intro h; exact Rat.mul_pos hc h
  · constructor
    · intro h
      refine Rat.not_lt.mp fun h' => ?_
      have := Rat.mul_lt_mul_of_pos_left h' hc
      grind
    · intro h; exact Rat.mul_nonneg h0 h
theorem dot_scale (c : Rat) : ∀ f x : List Rat, dot (f.map (c * ·)) x = c * dot f x
  | [], _ => by simp [dot]
  | _ :: _, [] => by simp [dot]
  | a :: f, b :: x => by
    simp only [List.map_cons, dot, dot_scale c f x]
    grind
theorem scale_ok {R : Rw} {c : Rat} {x : List Rat} (hc : 0 < c) : (R.scale c).ok x ↔ R.ok x := by
  unfold Rw.ok Rw.scale
  rw [dot_scale, show c * dot R.f x + c * R.r = c * (dot R.f x + R.r) by grind]
  exact okv_scale hc
theorem dot_add : ∀ f g x : List Rat, f.length = g.length → dot (addL f g) x = dot f x + dot g x
  | [], [], _, _ => by simp only [dot, addL]; grind
  | a :: f, b :: g, [], _ => by simp only [dot, addL]; grind
  | a :: f, b :: g, c :: x, h => by
    simp only [addL, dot, dot_add f g x (by simpa using h)]
    grind
  | [], _ :: _, _, h => by simp at h
  | _ :: _, [], _, h => by simp at h
theorem dot_zero : ∀ f x : List Rat, (∀ a ∈ f, a = 0) → dot f x = 0
  | [], _, _ => by simp [dot]
  | _ :: _, [], _ => by simp [dot]
  | a :: f, b :: x, h => by
    have h1 := h a (by simp)
    have h2 := dot_zero f x (fun y hy => h y (by simp [hy]))
    simp only [dot, h1, h2]
    grind
theorem dot_set : ∀ (f x : List Rat) (i : Nat) (t : Rat), i < f.length → i < x.length → dot f (x.set i t) = dot f x + (f.getD i 0) * (t - x.getD i 0)
  | a :: f, b :: x, 0, t, _, _ => by simp only [List.set_cons_zero, dot, List.getD_cons_zero]; grind
  | a :: f, b :: x, i + 1, t, h1, h2 => by
    simp only [List.set_cons_succ, dot, List.getD_cons_succ, dot_set f x i t (by simpa using h1) (by simpa using h2)]
    grind
/-! ### the least form of a list of rows -/
def Rw.nothing (R : Rw) : Bool := R.f.all (fun a => decide (a = 0)) && (decide (0 < R.r) || (decide (R.r = 0) && !R.s))
def Rw.against (R : Rw) : Bool := R.f.all (fun a => decide (a = 0)) && !R.nothing
theorem nothing_ok {R : Rw} (h : R.nothing = true) (x : List Rat) : R.ok x := by
  unfold Rw.nothing at h
  simp only [Bool.and_eq_true, List.all_eq_true, decide_eq_true_eq, Bool.or_eq_true, Bool.not_eq_true'] at h
  unfold Rw.ok okv
  rw [dot_zero _ _ h.1]
  rcases h.2 with h2 | ⟨h2, h3⟩
  · split <;> grind
  · rw [h3, if_neg Bool.false_ne_true]; grind
theorem against_not {R : Rw} (h : R.against = true) (x : List Rat) : ¬ R.ok x := by
  unfold Rw.against at h
  simp only [Bool.and_eq_true, List.all_eq_true, decide_eq_true_eq, Bool.not_eq_true'] at h
  obtain ⟨h1, h2⟩ := h
  unfold Rw.ok okv
  rw [dot_zero _ _ h1]
  unfold Rw.nothing at h2
  have h3 : R.f.all (fun a => decide (a = 0)) = true := by simpa [List.all_eq_true] using h1
  rw [h3, Bool.true_and] at h2
  simp only [Bool.or_eq_false_iff, decide_eq_false_iff_not, Bool.and_eq_false_iff, Bool.not_eq_false'] at h2
  split
  · rename_i hs
    grind
  · rename_i hs
    rcases h2.2 with h4 | h4
    · grind
    · exact absurd h4 hs
def firstNZ (f : List Rat) : Option Rat := f.find? fun a => decide (a ≠ 0)
def absR (t : Rat) : Rat := if 0 < t then t else -t
def Rw.even (R : Rw) : Rw := match firstNZ R.f with
  | none => R
  | some t => R.scale (1 / absR t)
theorem absR_pos {t : Rat} (h : t ≠ 0) : 0 < absR t := by
  unfold absR
  split <;> grind
theorem inv_pos' {t : Rat} (h : 0 < t) : 0 < 1 / t := by
  rw [Rat.div_def, Rat.one_mul]; exact Rat.inv_pos.mpr h
theorem even_ok {R : Rw} {x : List Rat} : R.even.ok x ↔ R.ok x := by
  unfold Rw.even
  split
  · exact Iff.rfl
  · rename_i t h
    have : t ≠ 0 := by simpa [firstNZ] using List.find?_some h
    exact scale_ok (inv_pos' (absR_pos this))
def binds (R S : Rw) : Bool := decide (R.r < S.r) || (decide (R.r = S.r) && (R.s || !S.s))
theorem binds_ok {R S : Rw} (hf : R.f = S.f) (h : binds R S = true) {x : List Rat} (hx : R.ok x) : S.ok x := by
  unfold binds at h
  simp only [Bool.or_eq_true, decide_eq_true_eq, Bool.and_eq_true, Bool.not_eq_true'] at h
  unfold Rw.ok okv at hx ⊢
  rw [hf] at hx
  rcases h with h | ⟨h, h2⟩
  · split at hx <;> split <;> grind
  · rw [h] at hx
    rcases h2 with h2 | h2
    · rw [h2, if_pos rfl] at hx
      split <;> grind
    · rw [h2, if_neg Bool.false_ne_true]
      split at hx <;> grind
theorem binds_not {R S : Rw} (hf : R.f = S.f) (h : binds R S = false) {x : List Rat} (hx : S.ok x) : R.ok x := by
  refine binds_ok hf.symm ?_ hx
  unfold binds at h ⊢
  simp only [Bool.or_eq_false_iff, decide_eq_false_iff_not, Bool.and_eq_false_iff, Bool.or_eq_false_iff, Bool.not_eq_false'] at h
  simp only [Bool.or_eq_true, decide_eq_true_eq, Bool.and_eq_true, Bool.not_eq_true']
  rcases h.2 with h2 | ⟨h2, h3⟩
  · exact .inl (by grind)
  · by_cases e : S.r < R.r
    · exact .inl e
    · exact .inr ⟨by grind, .inl h3⟩

/-! ### strongest: one row for each direction -/
def look (kvs : List (List Rat × Rw)) (k : List Rat) : Option Rw := (kvs.find? fun x => decide (x.1 = k)).map (·.2)
def put (kvs : List (List Rat × Rw)) (k : List Rat) (R : Rw) : List (List Rat × Rw) := if (look kvs k).isSome then kvs.map fun x => if x.1 = k then (x.1, R) else x else kvs ++ [(k, R)]
def sStep (kvs : List (List Rat × Rw)) (row : Rw) : List (List Rat × Rw) :=
  let R := row.even
  if R.nothing then kvs else match look kvs R.f with
    | none => put kvs R.f R
    | some S => if binds S R then kvs else put kvs R.f R
def strongest (rows : List Rw) : List Rw := (rows.foldl sStep []).map (·.2)
def Keyed (kvs : List (List Rat × Rw)) : Prop := (∀ p ∈ kvs, p.2.f = p.1) ∧ (kvs.map (·.1)).Nodup
theorem look_some {kvs : List (List Rat × Rw)} {k : List Rat} {R : Rw} (h : look kvs k = some R) : (k, R) ∈ kvs := by
  unfold look at h
  obtain ⟨p, h1, h2⟩ := Option.map_eq_some_iff.mp h
  have h3 := List.find?_some h1
  have h4 := List.mem_of_find?_eq_some h1
  have : p.1 = k := by simpa using h3
  rw [← h2, ← this]; exact h4
theorem look_none {kvs : List (List Rat × Rw)} {k : List Rat} (h : look kvs k = none) : ∀ p ∈ kvs, p.1 ≠ k := by
  unfold look at h
  rw [Option.map_eq_none_iff, List.find?_eq_none] at h
  intro p hp e
  exact h p hp (by simp [e])
theorem mem_put {kvs : List (List Rat × Rw)} {k : List Rat} {R : Rw} {p : List Rat × Rw} (h : p ∈ put kvs k R) : p = (k, R) ∨ (p ∈ kvs ∧ p.1 ≠ k) := by
  unfold put at h
  split at h
  · obtain ⟨q, h1, h2⟩ := List.mem_map.mp h
    split at h2
    · rename_i e; left; rw [← h2, e]
    · right; rw [← h2]; exact ⟨h1, ‹_›⟩
  · rename_i hn
    have hl : look kvs k = none := by simpa using hn
    rcases List.mem_append.mp h with h | h
    · exact .inr ⟨h, look_none hl p h⟩
    · left; simpa using h
theorem put_mem {kvs : List (List Rat × Rw)} {k : List Rat} {R : Rw} : (k, R) ∈ put kvs k R := by
  unfold put
  split
  · rename_i h
    obtain ⟨S, hS⟩ := Option.isSome_iff_exists.mp h
    exact List.mem_map.mpr ⟨(k, S), look_some hS, by simp⟩
  · simp
theorem mem_put_of {kvs : List (List Rat × Rw)} {k : List Rat} {R : Rw} {p : List Rat × Rw} (h : p ∈ kvs) (hk : p.1 ≠ k) : p ∈ put kvs k R := by
  unfold put
  split
  · exact List.mem_map.mpr ⟨p, h, by simp [hk]⟩
  · simp [h]
theorem put_keys {kvs : List (List Rat × Rw)} {k : List Rat} {R : Rw} : (put kvs k R).map (·.1) = if (look kvs k).isSome then kvs.map (·.1) else kvs.map (·.1) ++ [k] := by
  unfold put
  split
  · rw [List.map_map]
    refine List.map_congr_left fun p _ => ?_
    simp only [Function.comp]
    split <;> rfl
  · simp
theorem keyed_put {kvs : List (List Rat × Rw)} {R : Rw} (h : Keyed kvs) : Keyed (put kvs R.f R) := by
  refine ⟨fun p hp => ?_, ?_⟩
  · rcases mem_put hp with e | ⟨h1, _⟩
    · rw [e]
    · exact h.1 p h1
  · rw [put_keys]
    split
    · exact h.2
    · rename_i hn
      have hl : look kvs R.f = none := by simpa using hn
      rw [List.nodup_append]
      refine ⟨h.2, by simp, fun a ha b hb e => ?_⟩
      obtain ⟨p, hp, rfl⟩ := List.mem_map.mp ha
      exact look_none hl p hp (by rw [e]; simpa using hb)
def SatK (kvs : List (List Rat × Rw)) (x : List Rat) : Prop := ∀ p ∈ kvs, p.2.ok x
theorem keyed_unique {kvs : List (List Rat × Rw)} (h : Keyed kvs) {p q : List Rat × Rw} (hp : p ∈ kvs) (hq : q ∈ kvs) (e : p.1 = q.1) : p = q := by
  have := h.2
  clear h
  induction kvs with
  | nil => cases hp
  | cons a r ih =>
    rw [List.map_cons, List.nodup_cons] at this
    rcases List.mem_cons.mp hp with h1 | h1 <;> rcases List.mem_cons.mp hq with h2 | h2
    · rw [h1, h2]
    · exact absurd (List.mem_map.mpr ⟨q, h2, by rw [← e, h1]⟩) this.1
    · exact absurd (List.mem_map.mpr ⟨p, h1, by rw [e, h2]⟩) this.1
    · exact ih h1 h2 this.2
theorem sStep_ok {kvs : List (List Rat × Rw)} {row : Rw} (h : Keyed kvs) : Keyed (sStep kvs row) ∧ ∀ x, SatK (sStep kvs row) x ↔ (SatK kvs x ∧ row.ok x) := by
  unfold sStep
  generalize hR : row.even = R
  have heq : ∀ x, R.ok x ↔ row.ok x := fun x => by rw [← hR]; exact even_ok
  dsimp only
  by_cases hn : R.nothing = true
  · rw [if_pos hn]
    exact ⟨h, fun x => ⟨fun hx => ⟨hx, (heq x).mp (nothing_ok hn x)⟩, fun hx => hx.1⟩⟩
  · rw [if_neg hn]
    split
    · rename_i hl
      refine ⟨keyed_put h, fun x => ⟨fun hx => ⟨fun p hp => hx p (mem_put_of hp (look_none hl p hp)), (heq x).mp (hx _ put_mem)⟩, fun hx p hp => ?_⟩⟩
      rcases mem_put hp with e | ⟨h1, _⟩
      · rw [e]; exact (heq x).mpr hx.2
      · exact hx.1 p h1
    · rename_i S hl
      have hm := look_some hl
      have hf : S.f = R.f := h.1 _ hm
      split
      · rename_i hb
        exact ⟨h, fun x => ⟨fun hx => ⟨hx, (heq x).mp (binds_ok hf hb (hx _ hm))⟩, fun hx => hx.1⟩⟩
      · rename_i hb
        have hb' : binds S R = false := by simpa using hb
        refine ⟨keyed_put h, fun x => ⟨fun hx => ?_, fun hx p hp => ?_⟩⟩
        · have hRx : R.ok x := hx _ put_mem
          refine ⟨fun p hp => ?_, (heq x).mp hRx⟩
          by_cases e : p.1 = R.f
          · have : p = (R.f, S) := keyed_unique h hp hm e
            rw [this]
            exact binds_not hf hb' hRx
          · exact hx p (mem_put_of hp e)
        · rcases mem_put hp with e | ⟨h1, _⟩
          · rw [e]; exact (heq x).mpr hx.2
          · exact hx.1 p h1
theorem fold_ok : ∀ (rows : List Rw) (kvs : List (List Rat × Rw)), Keyed kvs → Keyed (rows.foldl sStep kvs) ∧ ∀ x, SatK (rows.foldl sStep kvs) x ↔ (SatK kvs x ∧ Sat rows x)
  | [], kvs, h => ⟨h, fun x => ⟨fun hx => ⟨hx, fun _ h => by cases h⟩, fun hx => hx.1⟩⟩
  | row :: rows, kvs, h => by
    obtain ⟨h1, h2⟩ := sStep_ok (row := row) h
    obtain ⟨h3, h4⟩ := fold_ok rows _ h1
    refine ⟨h3, fun x => ?_⟩
    rw [List.foldl_cons, h4, h2]
    constructor
    · rintro ⟨⟨a, b⟩, c⟩
      refine ⟨a, fun R hR => ?_⟩
      rcases List.mem_cons.mp hR with e | e
      · rw [e]; exact b
      · exact c R e
    · rintro ⟨a, b⟩
      exact ⟨⟨a, b row (by simp)⟩, fun R hR => b R (by simp [hR])⟩
theorem strongest_sat (rows : List Rw) (x : List Rat) : Sat (strongest rows) x ↔ Sat rows x := by
  obtain ⟨_, h⟩ := fold_ok rows [] ⟨(fun _ h => by cases h), List.nodup_nil⟩
  have h1 : SatK ([] : List (List Rat × Rw)) x := fun _ h => by cases h
  have h2 := h x
  unfold strongest
  constructor
  · intro hx
    exact (h2.mp fun p hp => hx p.2 (List.mem_map.mpr ⟨p, hp, rfl⟩)).2
  · intro hx R hR
    obtain ⟨p, hp, rfl⟩ := List.mem_map.mp hR
    exact h2.mpr ⟨h1, hx⟩ p hp

/-! ### a quantity taken out -/
theorem okv_lt {s : Bool} {v : Rat} (h : okv s v) : 0 ≤ v := by
  unfold okv at h
  split at h <;> grind
theorem top_low : ∀ (L : List (Rat × Bool)), L ≠ [] → ∃ l ∈ L, ∀ t, okv l.2 (t - l.1) → ∀ l' ∈ L, okv l'.2 (t - l'.1)
  | [l], _ => ⟨l, by simp, fun t h l' hl => by simp at hl; subst hl; exact h⟩
  | l :: m :: L, _ => by
    obtain ⟨k, hk, h⟩ := top_low (m :: L) (by simp)
    by_cases c : k.1 < l.1 ∨ (k.1 = l.1 ∧ l.2 = true)
    · refine ⟨l, by simp, fun t ht l' hl => ?_⟩
      rcases List.mem_cons.mp hl with e | e
      · rw [e]; exact ht
      · refine h t ?_ l' e
        unfold okv at ht ⊢
        rcases c with c | ⟨c, c2⟩
        · split at ht <;> split <;> grind
        · rw [c2, if_pos rfl] at ht
          split <;> grind
    · refine ⟨k, by simp [hk], fun t ht l' hl => ?_⟩
      rcases List.mem_cons.mp hl with e | e
      · rw [e]
        have c1 : ¬ k.1 < l.1 := fun z => c (.inl z)
        have c2 : ¬ (k.1 = l.1 ∧ l.2 = true) := fun z => c (.inr z)
        unfold okv at ht ⊢
        by_cases e2 : k.1 = l.1
        · have e3 : l.2 = false := by
            cases h : l.2 with
            | true => exact absurd ⟨e2, h⟩ c2
            | false => rfl
          rw [e3, if_neg Bool.false_ne_true]
          split at ht <;> grind
        · have : l.1 < k.1 := by grind
          split at ht <;> split <;> grind
      · exact h t ht l' e
theorem top_up (U : List (Rat × Bool)) (h : U ≠ []) : ∃ u ∈ U, ∀ t, okv u.2 (u.1 - t) → ∀ u' ∈ U, okv u'.2 (u'.1 - t) := by
  obtain ⟨l, hl, h1⟩ := top_low (U.map fun u => (-u.1, u.2)) (by simpa using h)
  obtain ⟨u, hu, rfl⟩ := List.mem_map.mp hl
  refine ⟨u, hu, fun t ht u' hu' => ?_⟩
  have := h1 (-t) (by dsimp only; rw [show -t - -u.1 = u.1 - t by grind]; exact ht) (-u'.1, u'.2) (List.mem_map.mpr ⟨u', hu', rfl⟩)
  dsimp only at this
  rwa [show -t - -u'.1 = u'.1 - t by grind] at this
theorem ex_between (L U : List (Rat × Bool)) (h : ∀ l ∈ L, ∀ u ∈ U, okv (l.2 || u.2) (u.1 - l.1)) : ∃ t, (∀ l ∈ L, okv l.2 (t - l.1)) ∧ ∀ u ∈ U, okv u.2 (u.1 - t) := by
  by_cases hL : L = []
  · by_cases hU : U = []
    · subst hL hU; exact ⟨0, (fun _ h => by cases h), fun _ h => by cases h⟩
    · obtain ⟨u, hu, h1⟩ := top_up U hU
      subst hL
      refine ⟨u.1 - 1, (fun _ h => by cases h), h1 _ ?_⟩
      unfold okv
      split <;> grind
  · obtain ⟨l, hl, h1⟩ := top_low L hL
    by_cases hU : U = []
    · subst hU
      refine ⟨l.1 + 1, h1 _ ?_, fun _ h => by cases h⟩
      unfold okv
      split <;> grind
    · obtain ⟨u, hu, h2⟩ := top_up U hU
      have h3 := h l hl u hu
      by_cases hs : (l.2 || u.2) = true
      · rw [hs] at h3
        have h4 : 0 < u.1 - l.1 := by unfold okv at h3; rwa [if_pos rfl] at h3
        refine ⟨(l.1 + u.1) / 2, h1 _ ?_, h2 _ ?_⟩
        · have : (l.1 + u.1) / 2 - l.1 = (u.1 - l.1) / 2 := by grind
          rw [this]
          unfold okv
          split <;> grind
        · have : u.1 - (l.1 + u.1) / 2 = (u.1 - l.1) / 2 := by grind
          rw [this]
          unfold okv
          split <;> grind
      · have hs' : (l.2 || u.2) = false := by simpa using hs
        rw [hs'] at h3
        have h4 : 0 ≤ u.1 - l.1 := okv_lt h3
        simp only [Bool.or_eq_false_iff] at hs'
        refine ⟨l.1, h1 _ ?_, h2 _ ?_⟩
        · unfold okv; rw [hs'.1, if_neg Bool.false_ne_true]; grind
        · unfold okv; rw [hs'.2, if_neg Bool.false_ne_true]; exact h4
def Rw.at (R : Rw) (i : Nat) : Rat := R.f.getD i 0
def elimL (i : Nat) (rows : List Rw) : List Rw :=
  (rows.filter fun R => decide (R.at i = 0)) ++ (rows.filter fun R => decide (0 < R.at i)).flatMap fun one => (rows.filter fun R => decide (R.at i < 0)).map fun other => (one.scale (1 / one.at i)).sum (other.scale (1 / -(other.at i)))
def elim (i : Nat) (rows : List Rw) : List Rw := strongest (elimL i rows)
/-- what is left of a row at a point, without the quantity i -/
def Rw.rest (R : Rw) (i : Nat) (x : List Rat) : Rat := dot R.f x - R.at i * x.getD i 0 + R.r
theorem ok_set {R : Rw} {i : Nat} {x : List Rat} {t : Rat} (h1 : i < R.f.length) (h2 : i < x.length) : R.ok (x.set i t) ↔ okv R.s (R.at i * t + R.rest i x) := by
  unfold Rw.ok Rw.rest
  rw [dot_set _ _ _ _ h1 h2]
  unfold Rw.at
  rw [show dot R.f x + R.f.getD i 0 * (t - x.getD i 0) + R.r = R.f.getD i 0 * t + (dot R.f x - R.f.getD i 0 * x.getD i 0 + R.r) by grind]
theorem ok_rest {R : Rw} {i : Nat} {x : List Rat} : R.ok x ↔ okv R.s (R.at i * x.getD i 0 + R.rest i x) := by
  unfold Rw.ok Rw.rest
  rw [show R.at i * x.getD i 0 + (dot R.f x - R.at i * x.getD i 0 + R.r) = dot R.f x + R.r by grind]
theorem pair_ok {R S : Rw} {i : Nat} {x : List Rat} (hl : R.f.length = S.f.length) (hR : 0 < R.at i) (hS : S.at i < 0) :
    ((R.scale (1 / R.at i)).sum (S.scale (1 / -(S.at i)))).ok x ↔ okv (R.s || S.s) (S.rest i x / -(S.at i) - -(R.rest i x / R.at i)) := by
  unfold Rw.ok Rw.sum Rw.scale Rw.rest
  dsimp only
  rw [dot_add _ _ _ (by simpa using hl), dot_scale, dot_scale]
  generalize R.at i = a at *
  generalize S.at i = b at *
  generalize x.getD i 0 = z
  generalize dot R.f x = p
  generalize dot S.f x = q
  have ha : a ≠ 0 := by grind
  have hb : -b ≠ 0 := by grind
  have e : 1 / a * p + 1 / -b * q + (1 / a * R.r + 1 / -b * S.r) = (q - b * z + S.r) / -b - -((p - a * z + R.r) / a) := by
    grind
  rw [e]

theorem okv_low {s : Bool} {a c t : Rat} (ha : 0 < a) : okv s (a * t + c) ↔ okv s (t - -(c / a)) := by
  rw [show a * t + c = a * (t - -(c / a)) by grind]
  exact okv_scale ha
theorem okv_up {s : Bool} {a c t : Rat} (ha : a < 0) : okv s (a * t + c) ↔ okv s (c / -a - t) := by
  have h : 0 < -a := by grind
  rw [show a * t + c = -a * (c / -a - t) by grind]
  exact okv_scale h
/-- the rows without the quantity i have a point just where the rows have one -/
theorem elim_sat {rows : List Rw} {n i : Nat} {x : List Rat} (hn : ∀ R ∈ rows, R.f.length = n) (hi : i < n) (hx : x.length = n) : Sat (elim i rows) x ↔ ∃ t, Sat rows (x.set i t) := by
  unfold elim
  rw [strongest_sat]
  have hset : ∀ R ∈ rows, ∀ t, R.ok (x.set i t) ↔ okv R.s (R.at i * t + R.rest i x) := fun R hR t => ok_set (by rw [hn R hR]; exact hi) (by rw [hx]; exact hi)
  constructor
  · intro h
    obtain ⟨t, h1, h2⟩ := ex_between ((rows.filter fun R => decide (0 < R.at i)).map fun R => (-(R.rest i x / R.at i), R.s)) ((rows.filter fun R => decide (R.at i < 0)).map fun R => (R.rest i x / -(R.at i), R.s)) (by
      intro l hl u hu
      obtain ⟨R, hR, rfl⟩ := List.mem_map.mp hl
      obtain ⟨S, hS, rfl⟩ := List.mem_map.mp hu
      obtain ⟨hR1, hR2⟩ := List.mem_filter.mp hR
      obtain ⟨hS1, hS2⟩ := List.mem_filter.mp hS
      rw [decide_eq_true_eq] at hR2 hS2
      have := h _ (List.mem_append_right _ (List.mem_flatMap.mpr ⟨R, hR, List.mem_map.mpr ⟨S, hS, rfl⟩⟩))
      exact (pair_ok (by rw [hn R hR1, hn S hS1]) hR2 hS2).mp this)
    refine ⟨t, fun R hR => (hset R hR t).mpr ?_⟩
    by_cases c1 : 0 < R.at i
    · exact (okv_low c1).mpr (h1 (-(R.rest i x / R.at i), R.s) (List.mem_map.mpr ⟨R, List.mem_filter.mpr ⟨hR, by simpa using c1⟩, rfl⟩))
    · by_cases c2 : R.at i < 0
      · exact (okv_up c2).mpr (h2 (R.rest i x / -(R.at i), R.s) (List.mem_map.mpr ⟨R, List.mem_filter.mpr ⟨hR, by simpa using c2⟩, rfl⟩))
      · have c3 : R.at i = 0 := by grind
        have := h R (List.mem_append_left _ (List.mem_filter.mpr ⟨hR, by simpa using c3⟩))
        rw [ok_rest (i := i)] at this
        rw [c3] at this ⊢
        rw [show (0 : Rat) * t + R.rest i x = 0 * x.getD i 0 + R.rest i x by grind]
        exact this
  · rintro ⟨t, h⟩ R hR
    rcases List.mem_append.mp hR with hR | hR
    · obtain ⟨hR1, hR2⟩ := List.mem_filter.mp hR
      rw [decide_eq_true_eq] at hR2
      have := (hset R hR1 t).mp (h R hR1)
      rw [ok_rest (i := i)]
      rw [hR2] at this ⊢
      rw [show (0 : Rat) * x.getD i 0 + R.rest i x = 0 * t + R.rest i x by grind]
      exact this
    · obtain ⟨S, hS, hR⟩ := List.mem_flatMap.mp hR
      obtain ⟨T, hT, rfl⟩ := List.mem_map.mp hR
      obtain ⟨hS1, hS2⟩ := List.mem_filter.mp hS
      obtain ⟨hT1, hT2⟩ := List.mem_filter.mp hT
      rw [decide_eq_true_eq] at hS2 hT2
      have k1 := (okv_low hS2).mp ((hset S hS1 t).mp (h S hS1))
      have k2 := (okv_up hT2).mp ((hset T hT1 t).mp (h T hT1))
      refine (pair_ok (by rw [hn S hS1, hn T hT1]) hS2 hT2).mpr ?_
      generalize -(S.rest i x / S.at i) = l at *
      generalize T.rest i x / -(T.at i) = u at *
      unfold okv at k1 k2 ⊢
      cases e1 : S.s <;> cases e2 : T.s <;> simp only [e1, e2, Bool.or_false, Bool.or_true, Bool.false_eq_true, if_false, if_true] at k1 k2 ⊢ <;> grind
/-! lengths, and what is gone -/
theorem addL_length : ∀ f g : List Rat, f.length = g.length → (addL f g).length = f.length
  | [], [], _ => rfl
  | a :: f, b :: g, h => by simp [addL, addL_length f g (by simpa using h)]
  | [], _ :: _, h => by simp at h
  | _ :: _, [], h => by simp at h
theorem even_length {R : Rw} : R.even.f.length = R.f.length := by
  unfold Rw.even
  split
  · rfl
  · simp [Rw.scale]
theorem strongest_mem {P : Rw → Prop} {rows : List Rw} (h : ∀ R ∈ rows, P R.even) : ∀ R ∈ strongest rows, P R := by
  have key : ∀ (rows : List Rw) (kvs : List (List Rat × Rw)), (∀ R ∈ rows, P R.even) → (∀ p ∈ kvs, P p.2) → ∀ p ∈ rows.foldl sStep kvs, P p.2 := by
    intro rows
    induction rows with
    | nil => intro kvs _ h; exact h
    | cons row rows ih =>
      intro kvs h1 h2
      refine ih _ (fun R hR => h1 R (by simp [hR])) fun p hp => ?_
      have he := h1 row (by simp)
      unfold sStep at hp
      dsimp only at hp
      split at hp
      · exact h2 p hp
      · split at hp
        · rcases mem_put hp with e | ⟨e, _⟩
          · rw [e]; exact he
          · exact h2 p e
        · split at hp
          · exact h2 p hp
          · rcases mem_put hp with e | ⟨e, _⟩
            · rw [e]; exact he
            · exact h2 p e
  intro R hR
  unfold strongest at hR
  obtain ⟨p, hp, rfl⟩ := List.mem_map.mp hR
  exact key rows [] h (fun _ h => by cases h) p hp
theorem strongest_not_nothing {rows : List Rw} : ∀ R ∈ strongest rows, R.nothing = false := by
  have key : ∀ (rows : List Rw) (kvs : List (List Rat × Rw)), (∀ p ∈ kvs, p.2.nothing = false) → ∀ p ∈ rows.foldl sStep kvs, p.2.nothing = false := by
    intro rows
    induction rows with
    | nil => intro kvs h; exact h
    | cons row rows ih =>
      intro kvs h2
      refine ih _ fun p hp => ?_
      unfold sStep at hp
      dsimp only at hp
      split at hp
      · exact h2 p hp
      · rename_i hn
        have he : row.even.nothing = false := by simpa using hn
        split at hp
        · rcases mem_put hp with e | ⟨e, _⟩
          · rw [e]; exact he
          · exact h2 p e
        · split at hp
          · exact h2 p hp
          · rcases mem_put hp with e | ⟨e, _⟩
            · rw [e]; exact he
            · exact h2 p e
  intro R hR
  unfold strongest at hR
  obtain ⟨p, hp, rfl⟩ := List.mem_map.mp hR
  exact key rows [] (fun _ h => by cases h) p hp
end FM
end
section
set_option Elab.async false
set_option linter.all false
namespace Py
open PySem L2
@[simp] theorem cmpS_in {d e : D} : cmpS .In d e = inS d e := by cases d <;> cases e <;> rfl
@[simp] theorem cmpS_notin {d e : D} : cmpS .NotIn d e = (inS d e).map not := by cases d <;> cases e <;> rfl
/-! ### walks over lists, once for all laws -/
theorem lcS_mapM {α : Type} {t : T} {c : Env → Store → Option (Bool × Store)} {f : Env → Store → Option (D × Store)} {env : Env} {μ : Store} {g h : α → D} : ∀ l : List α, (∀ a ∈ l, ∃ e, asgT t (g a) env = some e ∧ c e μ = some (true, μ) ∧ f e μ = some (h a, μ)) → lcS t c f env (l.map g) μ = some (l.map h, μ)
  | [], _ => rfl
  | a :: l, hk => by
    obtain ⟨e, h1, h2, h3⟩ := hk a (by simp)
    rw [List.map_cons, lcS_cons, h1]
    simp -implicitDefEqProofs only [Option.bind_some, h2, if_true, h3, lcS_mapM l (fun x hx => hk x (by simp [hx])), Option.map_some, List.map_cons]
theorem lcS_filterM {α : Type} {t : T} {c : Env → Store → Option (Bool × Store)} {f : Env → Store → Option (D × Store)} {env : Env} {μ : Store} {g h : α → D} {p : α → Bool} : ∀ l : List α, (∀ a ∈ l, ∃ e, asgT t (g a) env = some e ∧ c e μ = some (p a, μ) ∧ (p a = true → f e μ = some (h a, μ))) → lcS t c f env (l.map g) μ = some ((l.filter p).map h, μ)
  | [], _ => rfl
  | a :: l, hk => by
    obtain ⟨e, h1, h2, h3⟩ := hk a (by simp)
    have ih := lcS_filterM l (fun x hx => hk x (by simp [hx]))
    rw [List.map_cons, lcS_cons, h1]
    cases hp : p a with
    | true =>
      rw [hp] at h2
      simp -implicitDefEqProofs only [Option.bind_some, h2, if_true, h3 hp, ih, Option.map_some, List.filter_cons, hp, List.map_cons]
    | false =>
      rw [hp] at h2
      simp -implicitDefEqProofs only [Option.bind_some, h2, Bool.false_eq_true, if_false, ih, List.filter_cons, hp]
theorem ev_lc_map {α : Type} {Φ : FnS} {Γ : GlS} {x : E} {t : T} {it : I} {c : Eo} {vs : List Nat} {env : Env} {μ : Store} {g h : α → D} (l : List α) (hI : evI Φ Γ it env μ = some (l.map g, μ)) (hl : l.length ≤ 16777216)
    (hk : ∀ a ∈ l, ∃ e, asgT t (g a) (wipeE env vs) = some e ∧ evc Φ Γ c e μ = some (true, μ) ∧ ev Φ Γ x e μ = some (h a, μ)) : ev Φ Γ (.lc x t it c vs) env μ = some (.lst (l.map h), μ) := by
  rw [ev_lc, hI]
  simp -implicitDefEqProofs only [Option.bind_some]
  rw [if_pos (by rw [List.length_map]; unfold SZ; exact hl), lcS_mapM l hk]
  rfl
theorem ev_lc_filter {α : Type} {Φ : FnS} {Γ : GlS} {x : E} {t : T} {it : I} {c : Eo} {vs : List Nat} {env : Env} {μ : Store} {g h : α → D} {p : α → Bool} (l : List α) (hI : evI Φ Γ it env μ = some (l.map g, μ)) (hl : l.length ≤ 16777216)
    (hk : ∀ a ∈ l, ∃ e, asgT t (g a) (wipeE env vs) = some e ∧ evc Φ Γ c e μ = some (p a, μ) ∧ (p a = true → ev Φ Γ x e μ = some (h a, μ))) : ev Φ Γ (.lc x t it c vs) env μ = some (.lst ((l.filter p).map h), μ) := by
  rw [ev_lc, hI]
  simp -implicitDefEqProofs only [Option.bind_some]
  rw [if_pos (by rw [List.length_map]; unfold SZ; exact hl), lcS_filterM l hk]
  rfl
/-- [1 for x in xs if not p x], counted -/
theorem none_left {α : Type} (l : List α) (p : α → Bool) : l.all p = decide ((l.filter fun a => !p a).length = 0) := by
  rw [Bool.eq_iff_iff]
  simp [List.all_eq_true, List.filter_eq_nil_iff]
/-- a for that is a fold; the index comes along -/
theorem forS_fold {α σ : Type} {t : T} {b : Env → Store → Option Fl} {μ : Store} (g : α → D) (f : σ → α → σ) (P : Nat → σ → Env → Prop) : ∀ (l : List α) (i : Nat) (s : σ) (env : Env), P i s env →
    (∀ a ∈ l, ∀ j s env, i ≤ j → j < i + l.length → P j s env → ∃ env1 env', asgT t (g a) env = some env1 ∧ (b env1 μ = some (.nx env' μ) ∨ b env1 μ = some (.ct env' μ)) ∧ P (j + 1) (f s a) env') →
    ∃ env', forS t b (l.map g) env μ = some (.nx env' μ) ∧ P (i + l.length) (l.foldl f s) env'
  | [], i, s, env, h, _ => ⟨env, rfl, h⟩
  | a :: l, i, s, env, h, hs => by
    obtain ⟨env1, env', h1, h2, h3⟩ := hs a (by simp) i s env (Nat.le_refl _) (by simp) h
    obtain ⟨env2, h4, h5⟩ := forS_fold g f P l (i + 1) (f s a) env' h3 (fun a' ha' j s' e hj1 hj2 hp => hs a' (by simp [ha']) j s' e (by omega) (by simp only [List.length_cons]; omega) hp)
    refine ⟨env2, ?_, by rw [List.length_cons, List.foldl_cons, show i + (l.length + 1) = i + 1 + l.length by omega]; exact h5⟩
    rw [List.map_cons, forS, h1]
    rcases h2 with h2 | h2
    · simp only [Option.bind_some, h2]; exact h4
    · simp only [Option.bind_some, h2]; exact h4
/-- a for that goes back with the first that is so -/
theorem forS_find {α : Type} {t : T} {b : Env → Store → Option Fl} {μ : Store} (g res : α → D) (p : α → Bool) (P : Env → Prop) : ∀ (l : List α) (env : Env), P env →
    (∀ a ∈ l, ∀ env, P env → ∃ env1, asgT t (g a) env = some env1 ∧ (p a = true → b env1 μ = some (.rt (res a) μ)) ∧ (p a = false → ∃ env', (b env1 μ = some (.nx env' μ) ∨ b env1 μ = some (.ct env' μ)) ∧ P env')) →
    (∃ a ∈ l, l.find? p = some a ∧ forS t b (l.map g) env μ = some (.rt (res a) μ)) ∨ (l.find? p = none ∧ ∃ env', forS t b (l.map g) env μ = some (.nx env' μ) ∧ P env')
  | [], env, h, _ => .inr ⟨rfl, env, rfl, h⟩
  | a :: l, env, h, hs => by
    obtain ⟨env1, h1, h2, h3⟩ := hs a (by simp) env h
    cases hp : p a with
    | true =>
      refine .inl ⟨a, by simp, by rw [List.find?_cons, hp], ?_⟩
      rw [List.map_cons, forS, h1]
      simp only [Option.bind_some, h2 hp]
    | false =>
      obtain ⟨env', h4, h5⟩ := h3 hp
      have e : forS t b ((a :: l).map g) env μ = forS t b (l.map g) env' μ := by
        rw [List.map_cons, forS, h1]
        rcases h4 with h4 | h4 <;> simp only [Option.bind_some, h4]
      rw [e, List.find?_cons, hp]
      rcases forS_find g res p P l env' h5 (fun a' ha' => hs a' (by simp [ha'])) with ⟨a', m1, m2, m3⟩ | ⟨m1, m2⟩
      · exact .inl ⟨a', by simp [m1], m2, m3⟩
      · exact .inr ⟨m1, m2⟩
/-! ratios -/
theorem eqS_pair (a b c d : Int) : eqS (.tup [.int a, .int b]) (.tup [.int c, .int d]) = some (decide (a = c ∧ b = d)) := by
  simp [eqS, toPy, toPys, SeqAt.shaped, PyData.canLay0, PyData.canLayAll0, PyData.depth, PyData.depthAll, PyData.eqv, PyData.eqvAll]
  rfl
theorem rD_zero : rD 0 = .tup [.int 0, .int 1] := rfl
theorem rD_one : rD 1 = .tup [.int 1, .int 1] := rfl
theorem rD_int (i : Int) : rD (i : Rat) = .tup [.int i, .int 1] := rfl
theorem rD_neg' (t : Rat) : rD (-t) = .tup [.int (-t.num), .int t.den] := by
  unfold rD; rw [Rat.neg_num, Rat.neg_den]
theorem eqS_rD (s t : Rat) : eqS (rD s) (rD t) = some (decide (s = t)) := by
  unfold rD
  rw [eqS_pair]
  congr 1
  rw [decide_eq_decide]
  constructor
  · rintro ⟨h1, h2⟩; exact Rat.ext h1 (by exact_mod_cast h2)
  · rintro rfl; exact ⟨rfl, rfl⟩
theorem sz_one {b : Nat} (h : 0 < b) : Sz b 1 := ⟨Nat.one_lt_two_pow (by omega), Nat.one_lt_two_pow (by omega)⟩
theorem sz_zero {b : Nat} (h : 0 < b) : Sz b 0 := ⟨Nat.pos_of_ne_zero (by simp), Nat.one_lt_two_pow (by omega)⟩
theorem num_pos_iff {t : Rat} : 0 < t ↔ 0 < t.num := by rw [Rat.lt_iff]; simp
theorem num_neg_iff {t : Rat} : t < 0 ↔ t.num < 0 := by rw [Rat.lt_iff]; simp
theorem num_zero_iff {t : Rat} : t = 0 ↔ t.num = 0 := by
  constructor
  · rintro rfl; rfl
  · intro h; exact Rat.num_eq_zero.mp h
theorem divInt_pos {p q : Int} (h : 0 < p) (h' : 0 < q) : 0 < Rat.divInt p q := by
  rw [Rat.divInt_eq_div, Rat.div_def]
  exact Rat.mul_pos (by exact_mod_cast h) (Rat.inv_pos.mpr (by exact_mod_cast h'))
/-! ranges -/
theorem rangeD_map (n : Nat) : rangeD 0 n = (List.range n).map fun m : Nat => D.int (m : Int) := by
  unfold rangeD
  refine List.map_congr_left fun i _ => ?_
  rw [Int.zero_add]
theorem rngS_map {n : Nat} (h : n ≤ 16777216) : rngS 0 (n : Int) = some ((List.range n).map fun m : Nat => D.int (m : Int)) := by
  rw [← rangeD_map]
  unfold rngS
  rw [if_pos]
  · simp
  · simp [SZ]; omega
theorem atI_map {α : Type} {g : α → D} {l : List α} {i : Nat} (h : i < l.length) : atI (l.map g) (i : Int) = some (g l[i]) := by
  rw [atI_of (by simpa using h)]; simp
theorem atI_last {α : Type} {g : α → D} {l : List α} {a : α} (h : l.getLast? = some a) : atI (l.map g) (-1) = some (g a) := by
  have hne : l ≠ [] := fun z => by subst z; simp at h
  have hpos : 0 < l.length := List.length_pos_iff.mpr hne
  rw [List.getLast?_eq_getElem?] at h
  unfold atI ixN
  rw [List.length_map]
  simp
  have e : ((-1 : Int) + (l.length : Int)).toNat = l.length - 1 := by omega
  rw [if_pos (by omega), e]
  simp [h]
theorem zipD_map {α β : Type} (f : α → D) (g : β → D) : ∀ (l : List α) (m : List β), zipD (l.map f) (m.map g) = (l.zip m).map fun p => .tup [f p.1, g p.2]
  | [], m => by cases m <;> simp
  | a :: l, [] => by simp
  | a :: l, b :: m => by rw [List.map_cons, List.map_cons, zipD_cons, zipD_map f g l m]; rfl
theorem enumD_map {α : Type} (g : α → D) : ∀ (l : List α) (i : Nat), enumD i (l.map g) = (l.zipIdx i).map fun p => .tup [.int (p.2 : Int), g p.1]
  | [], _ => rfl
  | a :: l, i => by rw [List.map_cons, enumD, enumD_map g l (i + 1), List.zipIdx_cons]; rfl
/-! a deal's place in the store -/
def Sa (a : Nat) : Store := [[.int (a : Int)]]
theorem scalS_Sa {a : Nat} : scalS (Sa a) = true := rfl
theorem lc_draw {α : Type} {t : T} {c : Env → Store → Option (Bool × Store)} {f : Env → Store → Option (D × Store)} {env : Env} {enc : α → D} {P : α → Prop} (s lim : Nat) : ∀ (ds : List D) (a : Nat), a + s * ds.length ≤ lim →
    (∀ d ∈ ds, ∀ a, a + s ≤ lim → ∃ e x a', asgT t d env = some e ∧ c e (Sa a) = some (true, Sa a) ∧ f e (Sa a) = some (enc x, Sa a') ∧ P x ∧ a ≤ a' ∧ a' ≤ a + s) →
    ∃ (xs : List α) (a' : Nat), lcS t c f env ds (Sa a) = some (xs.map enc, Sa a') ∧ xs.length = ds.length ∧ (∀ x ∈ xs, P x) ∧ a ≤ a' ∧ a' ≤ a + s * ds.length
  | [], a, _, _ => ⟨[], a, rfl, rfl, fun _ h => (by cases h), Nat.le_refl _, by simp⟩
  | d :: ds, a, hn, hk => by
    simp only [List.length_cons, Nat.mul_succ] at hn
    obtain ⟨e, x, a1, h1, h2, h3, h4, h5, h6⟩ := hk d (by simp) a (by omega)
    obtain ⟨xs, a', g1, g2, g3, g4, g5⟩ := lc_draw s lim ds a1 (by omega) (fun d' hd' => hk d' (by simp [hd']))
    refine ⟨x :: xs, a', ?_, by simp [g2], ?_, by omega, by simp only [List.length_cons, Nat.mul_succ]; omega⟩
    · rw [lcS_cons, h1]
      simp -implicitDefEqProofs only [Option.bind_some, h2, if_true, h3, g1, Option.map_some, List.map_cons]
    · intro y hy
      rcases List.mem_cons.mp hy with rfl | hy
      · exact h4
      · exact g3 y hy
theorem ev_lc_draw {α : Type} {Φ : FnS} {Γ : GlS} {x : E} {t : T} {it : I} {vs : List Nat} {env : Env} {enc : α → D} {P : α → Prop} {a0 a : Nat} {ds : List D} (s lim : Nat) (hI : evI Φ Γ it env (Sa a0) = some (ds, Sa a)) (hl : ds.length ≤ 16777216) (hn : a + s * ds.length ≤ lim)
    (hk : ∀ d ∈ ds, ∀ a, a + s ≤ lim → ∃ e y a', asgT t d (wipeE env vs) = some e ∧ ev Φ Γ x e (Sa a) = some (enc y, Sa a') ∧ P y ∧ a ≤ a' ∧ a' ≤ a + s) :
    ∃ (xs : List α) (a' : Nat), ev Φ Γ (.lc x t it Eo.none vs) env (Sa a0) = some (.lst (xs.map enc), Sa a') ∧ xs.length = ds.length ∧ (∀ x ∈ xs, P x) ∧ a ≤ a' ∧ a' ≤ a + s * ds.length := by
  obtain ⟨xs, a', g1, g2, g3, g4, g5⟩ := lc_draw (t := t) (c := fun env' μ' => evc Φ Γ Eo.none env' μ') (f := fun env' μ' => ev Φ Γ x env' μ') (env := wipeE env vs) (enc := enc) (P := P) s lim ds a hn (fun d hd a ha => by
    obtain ⟨e, y, a', h1, h2, h3, h4, h5⟩ := hk d hd a ha
    exact ⟨e, y, a', h1, by simp, h2, h3, h4, h5⟩)
  refine ⟨xs, a', ?_, g2, g3, g4, g5⟩
  rw [ev_lc, hI]
  simp -implicitDefEqProofs only [Option.bind_some]
  rw [if_pos (by unfold SZ; exact hl), g1]
  rfl
/-- a draw whose walk knows the item (indexed by l) -/
theorem ev_lc_drawM {α β : Type} {Φ : FnS} {Γ : GlS} {x : E} {t : T} {it : I} {vs : List Nat} {env : Env} {g : α → D} {enc : β → D} {P : α → β → Prop} {a0 a : Nat} (l : List α) (s lim : Nat) (hI : evI Φ Γ it env (Sa a0) = some (l.map g, Sa a)) (hl : l.length ≤ 16777216) (hn : a + s * l.length ≤ lim)
    (hk : ∀ d ∈ l, ∀ a, a + s ≤ lim → ∃ e y a', asgT t (g d) (wipeE env vs) = some e ∧ ev Φ Γ x e (Sa a) = some (enc y, Sa a') ∧ P d y ∧ a ≤ a' ∧ a' ≤ a + s) :
    ∃ (xs : List β) (a' : Nat), ev Φ Γ (.lc x t it Eo.none vs) env (Sa a0) = some (.lst (xs.map enc), Sa a') ∧ xs.length = l.length ∧ (∀ p ∈ l.zip xs, P p.1 p.2) ∧ a ≤ a' ∧ a' ≤ a + s * l.length := by
  have key : ∀ (l : List α) (a : Nat), a + s * l.length ≤ lim → (∀ d ∈ l, ∀ a, a + s ≤ lim → ∃ e y a', asgT t (g d) (wipeE env vs) = some e ∧ ev Φ Γ x e (Sa a) = some (enc y, Sa a') ∧ P d y ∧ a ≤ a' ∧ a' ≤ a + s) →
      ∃ (xs : List β) (a' : Nat), lcS t (fun env' μ' => evc Φ Γ Eo.none env' μ') (fun env' μ' => ev Φ Γ x env' μ') (wipeE env vs) (l.map g) (Sa a) = some (xs.map enc, Sa a') ∧ xs.length = l.length ∧ (∀ p ∈ l.zip xs, P p.1 p.2) ∧ a ≤ a' ∧ a' ≤ a + s * l.length := by
    intro l
    induction l with
    | nil => intro a _ _; exact ⟨[], a, rfl, rfl, fun _ h => (by cases h), Nat.le_refl _, by simp⟩
    | cons d l ih =>
      intro a hn hk
      simp only [List.length_cons, Nat.mul_succ] at hn
      obtain ⟨e, y, a1, h1, h2, h3, h4, h5⟩ := hk d (by simp) a (by omega)
      obtain ⟨xs, a', g1, g2, g3, g4, g5⟩ := ih a1 (by omega) (fun d' hd' => hk d' (by simp [hd']))
      refine ⟨y :: xs, a', ?_, by simp [g2], ?_, by omega, by simp only [List.length_cons, Nat.mul_succ]; omega⟩
      · rw [List.map_cons, lcS_cons, h1]
        simp only [evc_none] at g1
        simp -implicitDefEqProofs only [Option.bind_some, evc_none, if_true, h2, g1, Option.map_some, List.map_cons]
      · intro p hp
        rw [List.zip_cons_cons] at hp
        rcases List.mem_cons.mp hp with rfl | hp
        · exact h3
        · exact g3 p hp
  obtain ⟨xs, a', g1, g2, g3, g4, g5⟩ := key l a hn hk
  refine ⟨xs, a', ?_, g2, g3, g4, g5⟩
  rw [ev_lc, hI]
  simp -implicitDefEqProofs only [Option.bind_some]
  rw [if_pos (by rw [List.length_map]; unfold SZ; exact hl), g1]
  rfl
end Py
end
section
set_option Elab.async false
set_option linter.all false
set_option maxRecDepth 100000
namespace Geo
open PySem L2 Py FM
/-! ### bounds, points, boxes as data -/
structure Bd where
  f : List Rat
  r : Rat
  s : Bool
def bdD (B : Bd) : D := .tup [.tup (B.f.map rD), rD B.r, .bl B.s]
def Bd.val (B : Bd) (x : List Rat) : Rat := dot B.f x + B.r
def okb (s : Bool) (v : Rat) : Bool := if s then decide (0 < v) else decide (0 ≤ v)
theorem okb_iff {s : Bool} {v : Rat} : okb s v = true ↔ okv s v := by
  unfold okb okv; split <;> simp
def BSz (b : Nat) (B : Bd) : Prop := (∀ a ∈ B.f, Sz b a) ∧ Sz b B.r
def keepsB (B : Bd) (x : List Rat) : Bool := okb B.s (B.val x)
def hasB (bs : List Bd) (x : List Rat) : Bool := bs.all fun B => keepsB B x
def bsD (bs : List Bd) : D := .tup (bs.map bdD)
def ptD (x : List Rat) : D := .tup (x.map rD)
def pairD (p : Rat × Rat) : D := .tup [rD p.1, rD p.2]
def boxD (b : List (Rat × Rat)) : D := .tup (b.map pairD)
theorem dot_take : ∀ (f x : List Rat) (i : Nat) (h1 : i < f.length) (h2 : i < x.length), dot (f.take (i + 1)) (x.take (i + 1)) = dot (f.take i) (x.take i) + f[i] * x[i]
  | a :: f, y :: x, 0, _, _ => by simp [dot]; grind
  | a :: f, y :: x, i + 1, h1, h2 => by
    have := dot_take f x i (by simpa using h1) (by simpa using h2)
    simp only [List.take_succ_cons, dot, this, List.getElem_cons_succ]
    grind
theorem sz_add_le {a b m : Nat} {s t : Rat} (h : Sz a s) (h' : Sz b t) (hm : a + b + 1 ≤ m) : Sz m (s + t) := (h.add h').mono hm
def unitL (n i : Nat) (v : Rat) : List Rat := (List.range n).map fun m => if m = i then v else 0
def movedM (x r : List Rat) (t : Rat) : List Rat := (x.zip r).map fun p => p.1 + p.2 * t
theorem movedM_length {x r : List Rat} {t : Rat} (h : x.length = r.length) : (movedM x r t).length = x.length := by unfold movedM; simp [h]
theorem movedM_sz {a b c : Nat} {x r : List Rat} {t : Rat} (hx : ∀ y ∈ x, Sz a y) (hr : ∀ y ∈ r, Sz b y) (ht : Sz c t) : ∀ y ∈ movedM x r t, Sz (a + (b + c) + 1) y := fun y hy => by
  obtain ⟨p, hp, rfl⟩ := List.mem_map.mp hy
  obtain ⟨i1, i2⟩ := List.of_mem_zip (a := p.1) (b := p.2) hp
  exact (hx _ i1).add ((hr _ i2).mul ht)
/-! plain data: numbers, None, texts, and tuples and lists of these -/
def pln : Nat → D → Bool
  | _, .int _ => true | _, .bl _ => true | _, .non => true
  | n + 1, .tup ds => decide (ds.length ≤ 10000) && ds.all (pln n)
  | n + 1, .lst ds => decide (ds.length ≤ 10000) && ds.all (pln n)
  | _, _ => false
theorem plain_rD {n : Nat} {r : Rat} : pln (n + 1) (rD r) = true := by simp [pln, rD]
theorem plain_tup {α : Type} {n : Nat} {g : α → D} {l : List α} (hl : l.length ≤ 10000) (h : ∀ a ∈ l, pln n (g a) = true) : pln (n + 1) (.tup (l.map g)) = true := by
  rw [pln, Bool.and_eq_true, decide_eq_true_iff, List.all_eq_true]
  refine ⟨by simpa using hl, fun d hd => ?_⟩
  obtain ⟨a, ha, rfl⟩ := List.mem_map.mp hd
  exact h a ha
theorem plain_lst {α : Type} {n : Nat} {g : α → D} {l : List α} (hl : l.length ≤ 10000) (h : ∀ a ∈ l, pln n (g a) = true) : pln (n + 1) (.lst (l.map g)) = true := by
  rw [pln, Bool.and_eq_true, decide_eq_true_iff, List.all_eq_true]
  refine ⟨by simpa using hl, fun d hd => ?_⟩
  obtain ⟨a, ha, rfl⟩ := List.mem_map.mp hd
  exact h a ha
theorem plain_ptD {n : Nat} {x : List Rat} (hl : x.length ≤ 10000) : pln (n + 2) (ptD x) = true := plain_tup hl fun _ _ => plain_rD
/-! no lists within -/
theorem noLs_map {α : Type} {g : α → D} {l : List α} (h : ∀ a ∈ l, noL (g a) = true) : noLs (l.map g) = true := by
  induction l with
  | nil => rfl
  | cons a l ih => rw [List.map_cons, noLs, h a (by simp), ih (fun b hb => h b (by simp [hb]))]; rfl
theorem noL_rD {r : Rat} : noL (rD r) = true := rfl
theorem noL_ptD {x : List Rat} : noL (ptD x) = true := by unfold ptD; rw [noL]; exact noLs_map fun _ _ => noL_rD
end Geo
end
section
set_option Elab.async false
set_option linter.all false
set_option maxRecDepth 100000
namespace Geo
open PySem L2 Py FM
/-! ### plain data are like themselves; slices -/
theorem pln_py : ∀ (n : Nat) (d : D), pln n d = true → ∃ p, toPy d = some p ∧ p.canLay0 = true ∧ p.depth ≤ n ∧ PyData.eqv p p = true
  | _, .int i, _ => ⟨.int i, by rw [toPy], by rw [PyData.canLay0], by rw [PyData.depth]; omega, by rw [PyData.eqv]; simp⟩
  | _, .bl b, _ => ⟨.bool b, by rw [toPy], by rw [PyData.canLay0], by rw [PyData.depth]; omega, by rw [PyData.eqv]; simp⟩
  | _, .non, _ => ⟨.none, by rw [toPy], by rw [PyData.canLay0], by rw [PyData.depth]; omega, by rw [PyData.eqv]⟩
  | 0, .tup _, h => by simp [pln] at h
  | 0, .lst _, h => by simp [pln] at h
  | 0, .str _, h => by simp [pln] at h
  | _ + 1, .str _, h => by simp [pln] at h
  | 0, .mr _, h => by simp [pln] at h
  | _ + 1, .mr _, h => by simp [pln] at h
  | 0, .rg _ _, h => by simp [pln] at h
  | _ + 1, .rg _ _, h => by simp [pln] at h
  | 0, .dk _ _, h => by simp [pln] at h
  | _ + 1, .dk _ _, h => by simp [pln] at h
  | 0, .scr _, h => by simp [pln] at h
  | _ + 1, .scr _, h => by simp [pln] at h
  | n + 1, .tup ds, h => by
    rw [pln, Bool.and_eq_true, decide_eq_true_iff, List.all_eq_true] at h
    have key : ∀ l : List D, (∀ d ∈ l, pln n d = true) → ∃ ps, toPys l = some ps ∧ PyData.canLayAll0 ps = true ∧ PyData.depthAll ps ≤ n ∧ PyData.eqvAll ps ps = true := by
      intro l
      induction l with
      | nil => intro _; exact ⟨[], by rw [toPys], by rw [PyData.canLayAll0], by rw [PyData.depthAll]; omega, by rw [PyData.eqvAll]⟩
      | cons d l ih =>
        intro hl
        obtain ⟨p, h1, h2, h3, h4⟩ := pln_py n d (hl d (by simp))
        obtain ⟨ps, g1, g2, g3, g4⟩ := ih (fun e he => hl e (by simp [he]))
        exact ⟨p :: ps, by rw [toPys, h1, g1]; rfl, by rw [PyData.canLayAll0, h2, g2]; rfl, by rw [PyData.depthAll]; omega, by rw [PyData.eqvAll, h4, g4]; rfl⟩
    obtain ⟨ps, g1, g2, g3, g4⟩ := key ds h.2
    exact ⟨.tuple ps, by rw [toPy, g1]; rfl, by rw [PyData.canLay0]; exact g2, by rw [PyData.depth]; omega, by rw [PyData.eqv]; exact g4⟩
  | n + 1, .lst ds, h => by
    rw [pln, Bool.and_eq_true, decide_eq_true_iff, List.all_eq_true] at h
    have key : ∀ l : List D, (∀ d ∈ l, pln n d = true) → ∃ ps, toPys l = some ps ∧ PyData.canLayAll0 ps = true ∧ PyData.depthAll ps ≤ n ∧ PyData.eqvAll ps ps = true := by
      intro l
      induction l with
      | nil => intro _; exact ⟨[], by rw [toPys], by rw [PyData.canLayAll0], by rw [PyData.depthAll]; omega, by rw [PyData.eqvAll]⟩
      | cons d l ih =>
        intro hl
        obtain ⟨p, h1, h2, h3, h4⟩ := pln_py n d (hl d (by simp))
        obtain ⟨ps, g1, g2, g3, g4⟩ := ih (fun e he => hl e (by simp [he]))
        exact ⟨p :: ps, by rw [toPys, h1, g1]; rfl, by rw [PyData.canLayAll0, h2, g2]; rfl, by rw [PyData.depthAll]; omega, by rw [PyData.eqvAll, h4, g4]; rfl⟩
    obtain ⟨ps, g1, g2, g3, g4⟩ := key ds h.2
    exact ⟨.list ps, by rw [toPy, g1]; rfl, by rw [PyData.canLay0]; exact g2, by rw [PyData.depth]; omega, by rw [PyData.eqv]; exact g4⟩
theorem eqS_refl {n : Nat} {d : D} (h : pln n d = true) (hn : n ≤ 64 := by decide) : eqS d d = some true := by
  obtain ⟨p, h1, h2, h3, h4⟩ := pln_py n d h
  have hs : SeqAt.shaped p = true := by unfold SeqAt.shaped; rw [h2, Bool.true_and]; exact decide_eq_true (by omega)
  unfold eqS
  rw [h1]
  dsimp only [Option.bind_some]
  rw [hs, Bool.and_self, if_pos rfl, h4]
theorem cutS_take (ds : List D) (k : Nat) : Py.cutS ds none (some (k : Int)) = ds.take k := by
  unfold Py.cutS HT.sIx
  dsimp only
  rw [if_neg (by omega)]
  simp [List.take_eq_take_iff]
theorem cutS_drop (ds : List D) (k : Nat) : Py.cutS ds (some (k : Int)) none = ds.drop k := by
  unfold Py.cutS HT.sIx
  dsimp only
  rw [if_neg (by omega)]
  by_cases h : k ≤ ds.length
  · rw [show min (k : Int).toNat ds.length = k by omega]
    rw [List.take_of_length_le (by simp)]
  · rw [show min (k : Int).toNat ds.length = ds.length by omega]
    simp [List.drop_eq_nil_of_le (show ds.length ≤ k by omega)]
end Geo
end
section
set_option Elab.async false
set_option linter.all false
set_option maxRecDepth 100000
set_option maxHeartbeats 0
namespace P1
open PySem L2 Py
def top (i : Nat) : Stmt := PySem.Challenge.pw_surepilot_k01_whole_regions_are_sets.main.body.getD i (.Pass ⟨0, 0, 0, 0⟩)
/-- greatest_divisor(p, q) -/
def l1_greatest_divisor : List S := [(S.par 0 1 (E.slot 1) (E.bin .Mod (E.slot 0) (E.slot 1)))]
def b_greatest_divisor : List S := [
  (S.wh (E.cmp .NotEq (E.slot 1) (E.int 0)) l1_greatest_divisor),
  (S.ret (E.bi .abs (E.slot 0) Es.nil))]
def p_greatest_divisor : PF := ⟨"greatest_divisor", ["p", "q"], ⟨2, 2, b_greatest_divisor⟩, top 3⟩
/-- ratio(p, q) -/
def b_ratio : List S := [
  (S.iff (E.cmp .Lt (E.slot 1) (E.int 0)) [(S.asg (T.nm 0) (E.neg (E.slot 0))), (S.asg (T.nm 1) (E.neg (E.slot 1)))] []),
  (S.asg (T.nm 2) (E.call 0 (E.slot 0) (Es.cons (E.slot 1) Es.nil))),
  (S.ret (E.tup (Es.cons (E.bin .FloorDiv (E.slot 0) (E.slot 2)) (Es.cons (E.bin .FloorDiv (E.slot 1) (E.slot 2)) Es.nil))))]
def p_ratio : PF := ⟨"ratio", ["p", "q", "shared"], ⟨2, 3, b_ratio⟩, top 4⟩
/-- added(s, t) -/
def b_added : List S := [
  (S.ret (E.call 1 (E.bin .Add (E.bin .Mult (E.ix (E.slot 0) (E.int 0)) (E.ix (E.slot 1) (E.int 1))) (E.bin .Mult (E.ix (E.slot 1) (E.int 0)) (E.ix (E.slot 0) (E.int 1)))) (Es.cons (E.bin .Mult (E.ix (E.slot 0) (E.int 1)) (E.ix (E.slot 1) (E.int 1))) Es.nil)))]
def p_added : PF := ⟨"added", ["s", "t"], ⟨2, 2, b_added⟩, top 5⟩
/-- opposite(t) -/
def b_opposite : List S := [
  (S.ret (E.tup (Es.cons (E.neg (E.ix (E.slot 0) (E.int 0))) (Es.cons (E.ix (E.slot 0) (E.int 1)) Es.nil))))]
def p_opposite : PF := ⟨"opposite", ["t"], ⟨1, 1, b_opposite⟩, top 6⟩
/-- less(s, t) -/
def b_less : List S := [
  (S.ret (E.call 2 (E.slot 0) (Es.cons (E.call 3 (E.slot 1) Es.nil) Es.nil)))]
def p_less : PF := ⟨"less", ["s", "t"], ⟨2, 2, b_less⟩, top 7⟩
/-- times(s, t) -/
def b_times : List S := [
  (S.ret (E.call 1 (E.bin .Mult (E.ix (E.slot 0) (E.int 0)) (E.ix (E.slot 1) (E.int 0))) (Es.cons (E.bin .Mult (E.ix (E.slot 0) (E.int 1)) (E.ix (E.slot 1) (E.int 1))) Es.nil)))]
def p_times : PF := ⟨"times", ["s", "t"], ⟨2, 2, b_times⟩, top 8⟩
/-- over(s, t) -/
def b_over : List S := [
  (S.ret (E.call 1 (E.bin .Mult (E.ix (E.slot 0) (E.int 0)) (E.ix (E.slot 1) (E.int 1))) (Es.cons (E.bin .Mult (E.ix (E.slot 0) (E.int 1)) (E.ix (E.slot 1) (E.int 0))) Es.nil)))]
def p_over : PF := ⟨"over", ["s", "t"], ⟨2, 2, b_over⟩, top 9⟩
/-- compare(s, t) -/
def b_compare : List S := [
  (S.asg (T.nm 2) (E.bin .Sub (E.bin .Mult (E.ix (E.slot 0) (E.int 0)) (E.ix (E.slot 1) (E.int 1))) (E.bin .Mult (E.ix (E.slot 1) (E.int 0)) (E.ix (E.slot 0) (E.int 1))))),
  (S.iff (E.cmp .Lt (E.slot 2) (E.int 0)) [(S.ret (E.neg (E.int 1)))] []),
  (S.iff (E.cmp .Gt (E.slot 2) (E.int 0)) [(S.ret (E.int 1))] []),
  (S.ret (E.int 0))]
def p_compare : PF := ⟨"compare", ["s", "t", "difference"], ⟨2, 3, b_compare⟩, top 10⟩
/-- blended(weights, ratios) -/
def l1_blended : List S := [(S.iff (E.and (E.cmp .NotEq (E.slot 3) (E.glob 0)) (Es.cons (E.cmp .NotEq (E.slot 4) (E.glob 0)) Es.nil)) [(S.asg (T.nm 2) (E.call 2 (E.slot 2) (Es.cons (E.call 5 (E.slot 3) (Es.cons (E.slot 4) Es.nil)) Es.nil)))] [])]
def b_blended : List S := [
  (S.asg (T.nm 2) (E.glob 0)),
  (S.for (T.tp [(T.nm 3), (T.nm 4)]) (I.zip (E.slot 0) (E.slot 1)) l1_blended),
  (S.ret (E.slot 2))]
def p_blended : PF := ⟨"blended", ["weights", "ratios", "total", "weight", "t"], ⟨2, 5, b_blended⟩, top 11⟩
/-- height(bound, point) -/
def b_height : List S := [
  (S.ret (E.call 2 (E.call 8 (E.ix (E.slot 0) (E.int 0)) (Es.cons (E.slot 1) Es.nil)) (Es.cons (E.ix (E.slot 0) (E.int 1)) Es.nil)))]
def p_height : PF := ⟨"height", ["bound", "point"], ⟨2, 2, b_height⟩, top 13⟩
/-- keeps(bound, point) -/
def b_keeps : List S := [
  (S.asg (T.nm 2) (E.call 7 (E.call 9 (E.slot 0) (Es.cons (E.slot 1) Es.nil)) (Es.cons (E.glob 0) Es.nil))),
  (S.ret (E.or (E.cmp .Gt (E.slot 2) (E.int 0)) (Es.cons (E.and (E.cmp .Eq (E.slot 2) (E.int 0)) (Es.cons (E.not (E.ix (E.slot 0) (E.int 2))) Es.nil)) Es.nil)))]
def p_keeps : PF := ⟨"keeps", ["bound", "point", "sign"], ⟨2, 3, b_keeps⟩, top 14⟩
/-- has_point(polyhedron, point) -/
def c1_has_point : E := E.lc (E.int 1) (T.nm 2) (I.seq (E.ix (E.slot 0) (E.int 1))) (Eo.some (E.not (E.call 10 (E.slot 2) (Es.cons (E.slot 1) Es.nil)))) [2]
def b_has_point : List S := [
  (S.ret (E.cmp .Eq (E.bi .len c1_has_point Es.nil) (E.int 0)))]
def p_has_point : PF := ⟨"has_point", ["polyhedron", "point", "bound"], ⟨2, 3, b_has_point⟩, top 15⟩
/-- turned(bound) -/
def c1_turned : E := E.lc (E.call 3 (E.slot 4) Es.nil) (T.nm 4) (I.seq (E.slot 1)) Eo.none [4]
def b_turned : List S := [
  (S.asg (T.tp [(T.nm 1), (T.nm 2), (T.nm 3)]) (E.slot 0)),
  (S.ret (E.tup (Es.cons (E.bi .tuple c1_turned Es.nil) (Es.cons (E.call 3 (E.slot 2) Es.nil) (Es.cons (E.not (E.slot 3)) Es.nil)))))]
def p_turned : PF := ⟨"turned", ["bound", "factors", "rest", "strict", "t"], ⟨1, 5, b_turned⟩, top 16⟩
/-- scaled(row, factor) -/
def c1_scaled : E := E.lc (E.call 5 (E.slot 1) (Es.cons (E.slot 6) Es.nil)) (T.nm 6) (I.seq (E.slot 5)) Eo.none [6]
def c2_scaled : E := E.lc (E.call 5 (E.slot 1) (Es.cons (E.slot 6) Es.nil)) (T.nm 6) (I.seq (E.slot 2)) Eo.none [6]
def b_scaled : List S := [
  (S.asg (T.tp [(T.nm 2), (T.nm 3), (T.nm 4), (T.nm 5)]) (E.slot 0)),
  (S.iff (E.cmp .Eq (E.slot 1) (E.glob 1)) [(S.ret (E.slot 0))] []),
  (S.ret (E.tup (Es.cons c2_scaled (Es.cons (E.call 5 (E.slot 1) (Es.cons (E.slot 3) Es.nil)) (Es.cons (E.slot 4) (Es.cons c1_scaled Es.nil))))))]
def p_scaled : PF := ⟨"scaled", ["row", "factor", "factors", "rest", "strict", "weights", "t"], ⟨2, 7, b_scaled⟩, top 18⟩
/-- sum_of(one, other) -/
def c1_sum_of : E := E.lc (E.call 2 (E.slot 3) (Es.cons (E.slot 4) Es.nil)) (T.tp [(T.nm 3), (T.nm 4)]) (I.zip (E.ix (E.slot 0) (E.int 0)) (E.ix (E.slot 1) (E.int 0))) Eo.none [3, 4]
def c2_sum_of : E := E.lc (E.call 2 (E.slot 3) (Es.cons (E.slot 4) Es.nil)) (T.tp [(T.nm 3), (T.nm 4)]) (I.zip (E.ix (E.slot 0) (E.int 3)) (E.ix (E.slot 1) (E.int 3))) Eo.none [3, 4]
def b_sum_of : List S := [
  (S.asg (T.nm 2) c1_sum_of),
  (S.asg (T.nm 5) c2_sum_of),
  (S.ret (E.tup (Es.cons (E.slot 2) (Es.cons (E.call 2 (E.ix (E.slot 0) (E.int 1)) (Es.cons (E.ix (E.slot 1) (E.int 1)) Es.nil)) (Es.cons (E.or (E.ix (E.slot 0) (E.int 2)) (Es.cons (E.ix (E.slot 1) (E.int 2)) Es.nil)) (Es.cons (E.slot 5) Es.nil))))))]
def p_sum_of : PF := ⟨"sum_of", ["one", "other", "factors", "s", "t", "weights"], ⟨2, 6, b_sum_of⟩, top 19⟩
/-- evened_out(row) -/
def l1_evened_out : List S := [(S.iff (E.cmp .NotEq (E.slot 1) (E.glob 0)) [(S.ret (E.call 13 (E.slot 0) (Es.cons (E.call 6 (E.glob 1) (Es.cons (E.ite (E.cmp .Gt (E.ix (E.slot 1) (E.int 0)) (E.int 0)) (E.slot 1) (E.call 3 (E.slot 1) Es.nil)) Es.nil)) Es.nil)))] [])]
def b_evened_out : List S := [
  (S.for (T.nm 1) (I.seq (E.ix (E.slot 0) (E.int 0))) l1_evened_out),
  (S.ret (E.slot 0))]
def p_evened_out : PF := ⟨"evened_out", ["row", "t"], ⟨1, 2, b_evened_out⟩, top 20⟩
/-- says_nothing(row) -/
def c1_says_nothing : E := E.lc (E.int 1) (T.nm 1) (I.seq (E.ix (E.slot 0) (E.int 0))) (Eo.some (E.cmp .NotEq (E.slot 1) (E.glob 0))) [1]
def b_says_nothing : List S := [
  (S.iff (E.cmp .Gt (E.bi .len c1_says_nothing Es.nil) (E.int 0)) [(S.ret (E.bl false))] []),
  (S.asg (T.nm 2) (E.call 7 (E.ix (E.slot 0) (E.int 1)) (Es.cons (E.glob 0) Es.nil))),
  (S.ret (E.or (E.cmp .Gt (E.slot 2) (E.int 0)) (Es.cons (E.and (E.cmp .Eq (E.slot 2) (E.int 0)) (Es.cons (E.not (E.ix (E.slot 0) (E.int 2))) Es.nil)) Es.nil)))]
def p_says_nothing : PF := ⟨"says_nothing", ["row", "t", "sign"], ⟨1, 3, b_says_nothing⟩, top 21⟩
/-- is_against(row) -/
def c1_is_against : E := E.lc (E.int 1) (T.nm 1) (I.seq (E.ix (E.slot 0) (E.int 0))) (Eo.some (E.cmp .NotEq (E.slot 1) (E.glob 0))) [1]
def b_is_against : List S := [
  (S.ret (E.and (E.cmp .Eq (E.bi .len c1_is_against Es.nil) (E.int 0)) (Es.cons (E.not (E.call 16 (E.slot 0) Es.nil)) Es.nil)))]
def p_is_against : PF := ⟨"is_against", ["row", "t"], ⟨1, 2, b_is_against⟩, top 22⟩
/-- binds_more(one, other) -/
def b_binds_more : List S := [
  (S.asg (T.nm 2) (E.call 7 (E.ix (E.slot 0) (E.int 1)) (Es.cons (E.ix (E.slot 1) (E.int 1)) Es.nil))),
  (S.ret (E.or (E.cmp .Lt (E.slot 2) (E.int 0)) (Es.cons (E.and (E.cmp .Eq (E.slot 2) (E.int 0)) (Es.cons (E.or (E.ix (E.slot 0) (E.int 2)) (Es.cons (E.not (E.ix (E.slot 1) (E.int 2))) Es.nil)) Es.nil)) Es.nil)))]
def p_binds_more : PF := ⟨"binds_more", ["one", "other", "sign"], ⟨2, 3, b_binds_more⟩, top 23⟩
/-- strongest(rows) -/
def l1_strongest : List S := [(S.asg (T.nm 2) (E.call 15 (E.slot 2) Es.nil)), (S.asg (T.nm 3) (E.bi .tuple (E.ix (E.slot 2) (E.int 0)) Es.nil)), (S.iff (E.and (E.not (E.call 16 (E.slot 2) Es.nil)) (Es.cons (E.or (E.dIn true 1 (E.slot 3)) (Es.cons (E.not (E.call 18 (E.dAt 1 (E.slot 3)) (Es.cons (E.slot 2) Es.nil))) Es.nil)) Es.nil)) [(S.dPut 1 (E.slot 3) (E.slot 2))] [])]
def b_strongest : List S := [
  (S.dNew 1),
  (S.for (T.nm 2) (I.seq (E.slot 0)) l1_strongest),
  (S.ret (E.dVals 1))]
def p_strongest : PF := ⟨"strongest", ["rows", "found", "row", "key"], ⟨1, 4, b_strongest⟩, top 24⟩
/-- without_quantity(rows, at) -/
def c1_without_quantity : E := E.lc (E.slot 3) (T.nm 3) (I.seq (E.slot 0)) (Eo.some (E.cmp .Gt (E.ix (E.ix (E.ix (E.slot 3) (E.int 0)) (E.slot 1)) (E.int 0)) (E.int 0))) [3]
def c2_without_quantity : E := E.lc (E.slot 3) (T.nm 3) (I.seq (E.slot 0)) (Eo.some (E.cmp .Lt (E.ix (E.ix (E.ix (E.slot 3) (E.int 0)) (E.slot 1)) (E.int 0)) (E.int 0))) [3]
def c3_without_quantity : E := E.lc (E.slot 3) (T.nm 3) (I.seq (E.slot 0)) (Eo.some (E.cmp .Eq (E.ix (E.ix (E.ix (E.slot 3) (E.int 0)) (E.slot 1)) (E.int 0)) (E.int 0))) [3]
def l1_without_quantity : List S := [(S.asg (T.nm 8) (E.call 13 (E.slot 6) (Es.cons (E.call 6 (E.glob 1) (Es.cons (E.ix (E.ix (E.slot 6) (E.int 0)) (E.slot 1)) Es.nil)) Es.nil))), (S.asg (T.nm 9) (E.call 13 (E.slot 7) (Es.cons (E.call 6 (E.glob 1) (Es.cons (E.call 3 (E.ix (E.ix (E.slot 7) (E.int 0)) (E.slot 1)) Es.nil) Es.nil)) Es.nil))), (S.app 5 (E.call 14 (E.slot 8) (Es.cons (E.slot 9) Es.nil)))]
def l2_without_quantity : List S := [(S.for (T.nm 7) (I.seq (E.slot 4)) l1_without_quantity)]
def b_without_quantity : List S := [
  (S.asg (T.nm 2) c1_without_quantity),
  (S.asg (T.nm 4) c2_without_quantity),
  (S.asgN 5 c3_without_quantity),
  (S.for (T.nm 6) (I.seq (E.slot 2)) l2_without_quantity),
  (S.frz 5 (S.ret (E.call 19 (E.slot 5) Es.nil)))]
def p_without_quantity : PF := ⟨"without_quantity", ["rows", "at", "above", "row", "below", "found", "one", "other", "first", "second"], ⟨2, 10, b_without_quantity⟩, top 25⟩
/-- cheapest(rows, left) -/
def c1_cheapest : E := E.lc (E.int 1) (T.nm 5) (I.seq (E.slot 0)) (Eo.some (E.cmp .Gt (E.ix (E.ix (E.ix (E.slot 5) (E.int 0)) (E.slot 3)) (E.int 0)) (E.int 0))) [5]
def c2_cheapest : E := E.lc (E.int 1) (T.nm 5) (I.seq (E.slot 0)) (Eo.some (E.cmp .Lt (E.ix (E.ix (E.ix (E.slot 5) (E.int 0)) (E.slot 3)) (E.int 0)) (E.int 0))) [5]
def l1_cheapest : List S := [(S.asg (T.nm 4) (E.bi .len c1_cheapest Es.nil)), (S.asg (T.nm 6) (E.bi .len c2_cheapest Es.nil)), (S.app 2 (E.tup (Es.cons (E.bin .Sub (E.bin .Sub (E.bin .Mult (E.slot 4) (E.slot 6)) (E.slot 4)) (E.slot 6)) (Es.cons (E.slot 3) Es.nil))))]
def b_cheapest : List S := [
  (S.asgN 2 (E.lst Es.nil)),
  (S.for (T.nm 3) (I.seq (E.slot 1)) l1_cheapest),
  (S.frz 2 (S.ret (E.ix (E.bi .minp (E.slot 2) Es.nil) (E.int 1))))]
def p_cheapest : PF := ⟨"cheapest", ["rows", "left", "costs", "at", "above", "row", "below"], ⟨2, 7, b_cheapest⟩, top 26⟩
/-- rows_of(polyhedron, weighed) -/
def c1_rows_of : E := E.lc (E.ite (E.cmp .Eq (E.slot 6) (E.slot 4)) (E.glob 1) (E.glob 0)) (T.nm 6) (I.rng1 (E.bi .len (E.slot 2) Es.nil)) Eo.none [6]
def l1_rows_of : List S := [(S.asg (T.nm 5) (E.ite (E.slot 1) c1_rows_of (E.lst Es.nil))), (S.app 3 (E.tup (Es.cons (E.bi .list (E.ix (E.ix (E.slot 2) (E.slot 4)) (E.int 0)) Es.nil) (Es.cons (E.ix (E.ix (E.slot 2) (E.slot 4)) (E.int 1)) (Es.cons (E.ix (E.ix (E.slot 2) (E.slot 4)) (E.int 2)) (Es.cons (E.slot 5) Es.nil))))))]
def b_rows_of : List S := [
  (S.asg (T.nm 2) (E.ix (E.slot 0) (E.int 1))),
  (S.asgN 3 (E.lst Es.nil)),
  (S.for (T.nm 4) (I.rng1 (E.bi .len (E.slot 2) Es.nil)) l1_rows_of),
  (S.frz 3 (S.ret (E.call 19 (E.slot 3) Es.nil)))]
def p_rows_of : PF := ⟨"rows_of", ["polyhedron", "weighed", "bounds", "rows", "k", "weights", "m"], ⟨2, 7, b_rows_of⟩, top 27⟩
/-- stages(polyhedron, weighed) -/
def c1_stages : E := E.lc (E.int 1) (T.nm 5) (I.seq (E.slot 2)) (Eo.some (E.call 17 (E.slot 5) Es.nil)) [5]
def c2_stages : E := E.lc (E.slot 7) (T.nm 7) (I.seq (E.slot 3)) (Eo.some (E.cmp .NotEq (E.slot 7) (E.slot 6))) [7]
def l1_stages : List S := [(S.asg (T.nm 6) (E.call 21 (E.slot 2) (Es.cons (E.slot 3) Es.nil))), (S.app 4 (E.tup (Es.cons (E.slot 6) (Es.cons (E.slot 2) Es.nil)))), (S.asg (T.nm 2) (E.call 20 (E.slot 2) (Es.cons (E.slot 6) Es.nil))), (S.asg (T.nm 3) c2_stages)]
def b_stages : List S := [
  (S.asg (T.nm 2) (E.call 22 (E.slot 0) (Es.cons (E.slot 1) Es.nil))),
  (S.asg (T.nm 3) (E.rngL (E.ix (E.slot 0) (E.int 0)))),
  (S.asgN 4 (E.lst Es.nil)),
  (S.wh (E.and (E.cmp .Gt (E.bi .len (E.slot 3) Es.nil) (E.int 0)) (Es.cons (E.cmp .Eq (E.bi .len c1_stages Es.nil) (E.int 0)) Es.nil)) l1_stages),
  (S.frz 4 (S.ret (E.tup (Es.cons (E.slot 4) (Es.cons (E.slot 2) Es.nil)))))]
def p_stages : PF := ⟨"stages", ["polyhedron", "weighed", "rows", "left", "found", "row", "at", "other"], ⟨2, 8, b_stages⟩, top 28⟩
/-- is_empty(polyhedron) -/
def c1_is_empty : E := E.lc (E.int 1) (T.nm 3) (I.seq (E.slot 2)) (Eo.some (E.call 17 (E.slot 3) Es.nil)) [3]
def b_is_empty : List S := [
  (S.asg (T.tp [(T.nm 1), (T.nm 2)]) (E.call 23 (E.slot 0) (Es.cons (E.bl false) Es.nil))),
  (S.ret (E.cmp .Gt (E.bi .len c1_is_empty Es.nil) (E.int 0)))]
def p_is_empty : PF := ⟨"is_empty", ["polyhedron", "_", "rows", "row"], ⟨1, 4, b_is_empty⟩, top 29⟩
/-- empty_paper(polyhedron) -/
def c1_empty_paper : E := E.lc (E.slot 4) (T.nm 4) (I.seq (E.slot 2)) (Eo.some (E.call 17 (E.slot 4) Es.nil)) [4]
def b_empty_paper : List S := [
  (S.asg (T.tp [(T.nm 1), (T.nm 2)]) (E.call 23 (E.slot 0) (Es.cons (E.bl true) Es.nil))),
  (S.asg (T.nm 3) c1_empty_paper),
  (S.ret (E.ite (E.cmp .Gt (E.bi .len (E.slot 3) Es.nil) (E.int 0)) (E.bi .tuple (E.ix (E.ix (E.slot 3) (E.int 0)) (E.int 3)) Es.nil) E.non))]
def p_empty_paper : PF := ⟨"empty_paper", ["polyhedron", "_", "rows", "against", "row"], ⟨1, 5, b_empty_paper⟩, top 30⟩
/-- worth_between(rows, at, known) -/
def c1_worth_between : E := E.lc (E.kGet (E.slot 2) (E.slot 7) (E.glob 0)) (T.nm 7) (I.rng1 (E.bi .len (E.ix (E.slot 5) (E.int 0)) Es.nil)) Eo.none [7]
def l1_worth_between : List S := [(S.iff (E.cmp .NotEq (E.ix (E.ix (E.slot 5) (E.int 0)) (E.slot 1)) (E.glob 0)) [(S.asg (T.nm 6) (E.call 2 (E.ix (E.slot 5) (E.int 1)) (Es.cons (E.call 8 (E.ix (E.slot 5) (E.int 0)) (Es.cons c1_worth_between Es.nil)) Es.nil))), (S.asg (T.nm 8) (E.tup (Es.cons (E.call 6 (E.call 3 (E.slot 6) Es.nil) (Es.cons (E.ix (E.ix (E.slot 5) (E.int 0)) (E.slot 1)) Es.nil)) (Es.cons (E.ix (E.slot 5) (E.int 2)) Es.nil)))), (S.iff (E.and (E.cmp .Gt (E.ix (E.ix (E.ix (E.slot 5) (E.int 0)) (E.slot 1)) (E.int 0)) (E.int 0)) (Es.cons (E.or (E.isN (E.slot 3)) (Es.cons (E.cmp .Gt (E.call 7 (E.ix (E.slot 8) (E.int 0)) (Es.cons (E.ix (E.slot 3) (E.int 0)) Es.nil)) (E.int 0)) (Es.cons (E.and (E.cmp .Eq (E.ix (E.slot 8) (E.int 0)) (E.ix (E.slot 3) (E.int 0))) (Es.cons (E.ix (E.slot 8) (E.int 1)) Es.nil)) Es.nil))) Es.nil)) [(S.asg (T.nm 3) (E.slot 8))] []), (S.iff (E.and (E.cmp .Lt (E.ix (E.ix (E.ix (E.slot 5) (E.int 0)) (E.slot 1)) (E.int 0)) (E.int 0)) (Es.cons (E.or (E.isN (E.slot 4)) (Es.cons (E.cmp .Lt (E.call 7 (E.ix (E.slot 8) (E.int 0)) (Es.cons (E.ix (E.slot 4) (E.int 0)) Es.nil)) (E.int 0)) (Es.cons (E.and (E.cmp .Eq (E.ix (E.slot 8) (E.int 0)) (E.ix (E.slot 4) (E.int 0))) (Es.cons (E.ix (E.slot 8) (E.int 1)) Es.nil)) Es.nil))) Es.nil)) [(S.asg (T.nm 4) (E.slot 8))] [])] [])]
def b_worth_between : List S := [
  (S.asg (T.nm 3) E.non),
  (S.asg (T.nm 4) E.non),
  (S.for (T.nm 5) (I.seq (E.slot 0)) l1_worth_between),
  (S.iff (E.and (E.isN (E.slot 3)) (Es.cons (E.isN (E.slot 4)) Es.nil)) [(S.ret (E.glob 0))] []),
  (S.iff (E.isN (E.slot 4)) [(S.ret (E.ite (E.ix (E.slot 3) (E.int 1)) (E.call 2 (E.ix (E.slot 3) (E.int 0)) (Es.cons (E.glob 1) Es.nil)) (E.ix (E.slot 3) (E.int 0))))] []),
  (S.iff (E.isN (E.slot 3)) [(S.ret (E.ite (E.ix (E.slot 4) (E.int 1)) (E.call 4 (E.ix (E.slot 4) (E.int 0)) (Es.cons (E.glob 1) Es.nil)) (E.ix (E.slot 4) (E.int 0))))] []),
  (S.ret (E.call 6 (E.call 2 (E.ix (E.slot 3) (E.int 0)) (Es.cons (E.ix (E.slot 4) (E.int 0)) Es.nil)) (Es.cons (E.tup (Es.cons (E.int 2) (Es.cons (E.int 1) Es.nil))) Es.nil)))]
def p_worth_between : PF := ⟨"worth_between", ["rows", "at", "known", "low", "high", "row", "rest", "other", "edge"], ⟨3, 9, b_worth_between⟩, top 31⟩
/-- point_paper(polyhedron) -/
def c1_point_paper : E := E.lc (E.int 1) (T.nm 3) (I.seq (E.slot 2)) (Eo.some (E.call 17 (E.slot 3) Es.nil)) [3]
def l1_point_paper : List S := [(S.kPut 4 (E.slot 5) (E.kBor 4 (E.call 26 (E.slot 6) (Es.cons (E.slot 5) (Es.cons (E.slot 4) Es.nil)))))]
def c2_point_paper : E := E.lc (E.kAt 4 (E.slot 5)) (T.nm 5) (I.rng1 (E.ix (E.slot 0) (E.int 0))) Eo.none [5]
def b_point_paper : List S := [
  (S.asg (T.tp [(T.nm 1), (T.nm 2)]) (E.call 23 (E.slot 0) (Es.cons (E.bl false) Es.nil))),
  (S.iff (E.cmp .Gt (E.bi .len c1_point_paper Es.nil) (E.int 0)) [(S.ret E.non)] []),
  (S.kNew 4),
  (S.for (T.tp [(T.nm 5), (T.nm 6)]) (I.seq (E.rev (E.slot 1))) l1_point_paper),
  (S.ret (E.bi .tuple c2_point_paper Es.nil))]
def p_point_paper : PF := ⟨"point_paper", ["polyhedron", "found", "rows", "row", "known", "at", "earlier"], ⟨1, 7, b_point_paper⟩, top 32⟩
/-- impossible(n) -/
def b_impossible : List S := [
  (S.ret (E.tup (Es.cons (E.slot 0) (Es.cons (E.tup (Es.cons (E.tup (Es.cons (E.bin .Mult (E.tup (Es.cons (E.glob 0) Es.nil)) (E.slot 0)) (Es.cons (E.tup (Es.cons (E.neg (E.int 1)) (Es.cons (E.int 1) Es.nil))) (Es.cons (E.bl false) Es.nil)))) Es.nil)) Es.nil))))]
def p_impossible : PF := ⟨"impossible", ["n"], ⟨1, 1, b_impossible⟩, top 34⟩
/-- lean(polyhedron) -/
def l1_lean : List S := [(S.asg (T.nm 5) (E.bin .Add (E.slc (E.slot 3) Eo.none (Eo.some (E.slot 4))) (E.slc (E.slot 3) (Eo.some (E.bin .Add (E.slot 4) (E.int 1))) Eo.none))), (S.iff (E.call 24 (E.tup (Es.cons (E.slot 1) (Es.cons (E.bin .Add (E.bi .tuple (E.slot 5) Es.nil) (E.tup (Es.cons (E.call 12 (E.ix (E.slot 2) (E.slot 4)) Es.nil) Es.nil))) Es.nil))) Es.nil) [(S.asg (T.nm 3) (E.slot 5))] [])]
def b_lean : List S := [
  (S.asg (T.tp [(T.nm 1), (T.nm 2)]) (E.slot 0)),
  (S.iff (E.call 24 (E.slot 0) Es.nil) [(S.ret (E.call 28 (E.slot 1) Es.nil))] []),
  (S.asg (T.nm 3) (E.bi .list (E.slot 2) Es.nil)),
  (S.for (T.nm 4) (I.rngD (E.bin .Sub (E.bi .len (E.slot 2) Es.nil) (E.int 1))) l1_lean),
  (S.ret (E.tup (Es.cons (E.slot 1) (Es.cons (E.bi .tuple (E.slot 3) Es.nil) Es.nil))))]
def p_lean : PF := ⟨"lean", ["polyhedron", "n", "bounds", "left", "k", "rest"], ⟨1, 6, b_lean⟩, top 35⟩
/-- without(polyhedron, other) -/
def l1_without : List S := [(S.asg (T.nm 6) (E.tup (Es.cons (E.slot 2) (Es.cons (E.bin .Add (E.bin .Add (E.slot 3) (E.slc (E.ix (E.slot 1) (E.int 1)) Eo.none (Eo.some (E.slot 5)))) (E.tup (Es.cons (E.call 12 (E.ix (E.ix (E.slot 1) (E.int 1)) (E.slot 5)) Es.nil) Es.nil))) Es.nil)))), (S.iff (E.not (E.call 24 (E.slot 6) Es.nil)) [(S.app 4 (E.slot 6))] [])]
def b_without : List S := [
  (S.asg (T.tp [(T.nm 2), (T.nm 3)]) (E.slot 0)),
  (S.asgN 4 (E.lst Es.nil)),
  (S.for (T.nm 5) (I.rng1 (E.bi .len (E.ix (E.slot 1) (E.int 1)) Es.nil)) l1_without),
  (S.frz 4 (S.ret (E.slot 4)))]
def p_without : PF := ⟨"without", ["polyhedron", "other", "n", "bounds", "found", "k", "piece"], ⟨2, 7, b_without⟩, top 36⟩
/-- region_of(polyhedron) -/
def b_region_of : List S := [
  (S.ret (E.tup (Es.cons (E.ix (E.slot 0) (E.int 0)) (Es.cons (E.tup (Es.cons (E.ix (E.slot 0) (E.int 1)) Es.nil)) Es.nil))))]
def p_region_of : PF := ⟨"region_of", ["polyhedron"], ⟨1, 1, b_region_of⟩, top 38⟩
/-- nothing(n) -/
def b_nothing : List S := [
  (S.ret (E.tup (Es.cons (E.slot 0) (Es.cons (E.tup Es.nil) Es.nil))))]
def p_nothing : PF := ⟨"nothing", ["n"], ⟨1, 1, b_nothing⟩, top 39⟩
/-- everywhere(n) -/
def b_everywhere : List S := [
  (S.ret (E.tup (Es.cons (E.slot 0) (Es.cons (E.tup (Es.cons (E.tup Es.nil) Es.nil)) Es.nil))))]
def p_everywhere : PF := ⟨"everywhere", ["n"], ⟨1, 1, b_everywhere⟩, top 40⟩
/-- polyhedra_of(region) -/
def c1_polyhedra_of : E := E.lc (E.tup (Es.cons (E.ix (E.slot 0) (E.int 0)) (Es.cons (E.slot 1) Es.nil))) (T.nm 1) (I.seq (E.ix (E.slot 0) (E.int 1))) Eo.none [1]
def b_polyhedra_of : List S := [
  (S.ret c1_polyhedra_of)]
def p_polyhedra_of : PF := ⟨"polyhedra_of", ["region", "bounds"], ⟨1, 2, b_polyhedra_of⟩, top 41⟩
/-- has(region, point) -/
def c1_has : E := E.lc (E.int 1) (T.nm 2) (I.seq (E.call 34 (E.slot 0) Es.nil)) (Eo.some (E.call 11 (E.slot 2) (Es.cons (E.slot 1) Es.nil))) [2]
def b_has : List S := [
  (S.ret (E.cmp .Gt (E.bi .len c1_has Es.nil) (E.int 0)))]
def p_has : PF := ⟨"has", ["region", "point", "polyhedron"], ⟨2, 3, b_has⟩, top 42⟩
/-- is_void(region) -/
def c1_is_void : E := E.lc (E.int 1) (T.nm 1) (I.seq (E.call 34 (E.slot 0) Es.nil)) (Eo.some (E.not (E.call 24 (E.slot 1) Es.nil))) [1]
def b_is_void : List S := [
  (S.ret (E.cmp .Eq (E.bi .len c1_is_void Es.nil) (E.int 0)))]
def p_is_void : PF := ⟨"is_void", ["region", "polyhedron"], ⟨1, 2, b_is_void⟩, top 43⟩
/-- point_in(region) -/
def l1_point_in : List S := [(S.asg (T.nm 2) (E.call 27 (E.slot 1) Es.nil)), (S.iff (E.notN (E.slot 2)) [(S.ret (E.slot 2))] [])]
def b_point_in : List S := [
  (S.for (T.nm 1) (I.seq (E.call 34 (E.slot 0) Es.nil)) l1_point_in),
  (S.ret E.non)]
def p_point_in : PF := ⟨"point_in", ["region", "polyhedron", "point"], ⟨1, 3, b_point_in⟩, top 44⟩
/-- joined(one, other) -/
def b_joined : List S := [
  (S.ret (E.tup (Es.cons (E.ix (E.slot 0) (E.int 0)) (Es.cons (E.bin .Add (E.ix (E.slot 0) (E.int 1)) (E.ix (E.slot 1) (E.int 1))) Es.nil))))]
def p_joined : PF := ⟨"joined", ["one", "other"], ⟨2, 2, b_joined⟩, top 45⟩
/-- met(one, other) -/
def l1_met : List S := [(S.iff (E.not (E.call 24 (E.tup (Es.cons (E.ix (E.slot 0) (E.int 0)) (Es.cons (E.bin .Add (E.slot 3) (E.slot 4)) Es.nil))) Es.nil)) [(S.app 2 (E.bin .Add (E.slot 3) (E.slot 4)))] [])]
def l2_met : List S := [(S.for (T.nm 4) (I.seq (E.ix (E.slot 1) (E.int 1))) l1_met)]
def b_met : List S := [
  (S.asgN 2 (E.lst Es.nil)),
  (S.for (T.nm 3) (I.seq (E.ix (E.slot 0) (E.int 1))) l2_met),
  (S.frz 2 (S.ret (E.tup (Es.cons (E.ix (E.slot 0) (E.int 0)) (Es.cons (E.bi .tuple (E.slot 2) Es.nil) Es.nil)))))]
def p_met : PF := ⟨"met", ["one", "other", "found", "first", "second"], ⟨2, 5, b_met⟩, top 46⟩
/-- taken_away(one, other) -/
def c1_taken_away : E := E.lc (E.slot 3) (T.nm 3) (I.seq (E.call 34 (E.slot 0) Es.nil)) (Eo.some (E.not (E.call 24 (E.slot 3) Es.nil))) [3]
def l1_taken_away : List S := [(S.ext 5 (E.call 30 (E.slot 6) (Es.cons (E.slot 4) Es.nil)))]
def l2_taken_away : List S := [(S.asgN 5 (E.lst Es.nil)), (S.for (T.nm 6) (I.seq (E.slot 2)) l1_taken_away), (S.frz 5 (S.asg (T.nm 2) (E.slot 5)))]
def c2_taken_away : E := E.lc (E.slot 8) (T.tp [(T.nm 7), (T.nm 8)]) (I.seq (E.slot 2)) Eo.none [7, 8]
def b_taken_away : List S := [
  (S.asg (T.nm 2) c1_taken_away),
  (S.for (T.nm 4) (I.seq (E.call 34 (E.slot 1) Es.nil)) l2_taken_away),
  (S.ret (E.tup (Es.cons (E.ix (E.slot 0) (E.int 0)) (Es.cons (E.bi .tuple c2_taken_away Es.nil) Es.nil))))]
def p_taken_away : PF := ⟨"taken_away", ["one", "other", "parts", "polyhedron", "piece", "later", "part", "_", "bounds"], ⟨2, 9, b_taken_away⟩, top 47⟩
/-- turned_out(region) -/
def b_turned_out : List S := [
  (S.ret (E.call 40 (E.call 33 (E.ix (E.slot 0) (E.int 0)) Es.nil) (Es.cons (E.slot 0) Es.nil)))]
def p_turned_out : PF := ⟨"turned_out", ["region"], ⟨1, 1, b_turned_out⟩, top 48⟩
/-- is_covered(one, other) -/
def b_is_covered : List S := [
  (S.ret (E.cmp .Eq (E.bi .len (E.ix (E.call 40 (E.slot 0) (Es.cons (E.slot 1) Es.nil)) (E.int 1)) Es.nil) (E.int 0)))]
def p_is_covered : PF := ⟨"is_covered", ["one", "other"], ⟨2, 2, b_is_covered⟩, top 49⟩
/-- are_same_regions(one, other) -/
def b_are_same_regions : List S := [
  (S.ret (E.and (E.call 42 (E.slot 0) (Es.cons (E.slot 1) Es.nil)) (Es.cons (E.call 42 (E.slot 1) (Es.cons (E.slot 0) Es.nil)) Es.nil)))]
def p_are_same_regions : PF := ⟨"are_same_regions", ["one", "other"], ⟨2, 2, b_are_same_regions⟩, top 50⟩
/-- least_region(region) -/
def c1_least_region : E := E.lc (E.ix (E.call 29 (E.slot 3) Es.nil) (E.int 1)) (T.nm 3) (I.seq (E.call 34 (E.slot 0) Es.nil)) (Eo.some (E.not (E.call 24 (E.slot 3) Es.nil))) [3]
def l1_least_region : List S := [(S.asg (T.nm 5) (E.bin .Add (E.slc (E.slot 2) Eo.none (Eo.some (E.slot 4))) (E.slc (E.slot 2) (Eo.some (E.bin .Add (E.slot 4) (E.int 1))) Eo.none))), (S.iff (E.call 42 (E.tup (Es.cons (E.slot 1) (Es.cons (E.tup (Es.cons (E.ix (E.slot 2) (E.slot 4)) Es.nil)) Es.nil))) (Es.cons (E.tup (Es.cons (E.slot 1) (Es.cons (E.bi .tuple (E.slot 5) Es.nil) Es.nil))) Es.nil)) [(S.asg (T.nm 2) (E.slot 5))] [])]
def b_least_region : List S := [
  (S.asg (T.nm 1) (E.ix (E.slot 0) (E.int 0))),
  (S.asg (T.nm 2) c1_least_region),
  (S.for (T.nm 4) (I.rngD (E.bin .Sub (E.bi .len (E.slot 2) Es.nil) (E.int 1))) l1_least_region),
  (S.ret (E.tup (Es.cons (E.slot 1) (Es.cons (E.bi .tuple (E.slot 2) Es.nil) Es.nil))))]
def p_least_region : PF := ⟨"least_region", ["region", "n", "left", "polyhedron", "k", "rest"], ⟨1, 6, b_least_region⟩, top 51⟩
/-- _law_deal(script) -/
def l1__law_deal : List S := [(S.iff (E.cmp .Gt (E.slot 3) (E.int 0)) [(S.app 1 (E.bin .Mod (E.slot 3) (E.int 1009))), (S.asg (T.nm 3) (E.bin .FloorDiv (E.slot 3) (E.int 1009)))] [])]
def l2__law_deal : List S := [(S.asg (T.nm 3) (E.bin .Mod (E.bin .Add (E.bin .Add (E.bin .Mult (E.slot 3) (E.int 16807)) (E.int 12345)) (E.slot 4)) (E.int 2147483647))), (S.app 1 (E.bin .Mod (E.bin .FloorDiv (E.slot 3) (E.int 7)) (E.int 1009)))]
def l3__law_deal : List S := [(S.asg (T.nm 3) (E.bi .abs (E.bi .int (E.ix (E.slot 0) (E.slot 2)) Es.nil) Es.nil)), (S.iff (E.cmp .GtE (E.slot 3) (E.bin .Pow (E.int 10) (E.int 18))) [(S.for (T.nm 4) (I.rng1 (E.int 40)) l1__law_deal)] [(S.asg (T.nm 3) (E.bin .Add (E.bin .Add (E.bin .Mult (E.bin .Mod (E.slot 3) (E.int 2147483629)) (E.int 48271)) (E.bin .Mult (E.slot 2) (E.int 69621))) (E.int 11))), (S.for (T.nm 4) (I.rng1 (E.int 5)) l2__law_deal)])]
def b__law_deal : List S := [
  (S.asgN 1 (E.lst Es.nil)),
  (S.for (T.nm 2) (I.rng1 (E.bi .min (E.bi .len (E.slot 0) Es.nil) (Es.cons (E.int 63) Es.nil))) l3__law_deal),
  (S.frz 1 (S.asg (T.nm 5) (E.bin .Add (E.bi .sum (E.slot 1) Es.nil) (E.bi .len (E.slot 0) Es.nil)))),
  (S.ret (E.lst (Es.cons (E.slot 1) (Es.cons (E.mlst (Es.cons (E.int 0) Es.nil)) (Es.cons (E.slot 5) Es.nil)))))]
def p__law_deal : PF := ⟨"_law_deal", ["script", "row", "k", "cell", "turn", "total"], ⟨1, 6, b__law_deal⟩, top 53⟩
/-- _law_take(deal, many) -/
def b__law_take : List S := [
  (S.asg (T.nm 2) (E.ix (E.ix (E.slot 0) (E.int 1)) (E.int 0))),
  (S.setm (E.ix (E.slot 0) (E.int 1)) (E.int 0) (E.bin .Add (E.slot 2) (E.int 1))),
  (S.iff (E.cmp .Lt (E.slot 2) (E.bi .len (E.ix (E.slot 0) (E.int 0)) Es.nil)) [(S.ret (E.bin .Mod (E.ix (E.ix (E.slot 0) (E.int 0)) (E.slot 2)) (E.slot 1)))] []),
  (S.ret (E.bin .Mod (E.bin .FloorDiv (E.bin .Add (E.bin .Add (E.bin .Mult (E.slot 2) (E.int 7919)) (E.bin .Mult (E.ix (E.slot 0) (E.int 2)) (E.int 31))) (E.bin .Mult (E.bin .Mult (E.slot 2) (E.slot 2)) (E.int 17))) (E.int 3)) (E.slot 1)))]
def p__law_take : PF := ⟨"_law_take", ["deal", "many", "at"], ⟨2, 3, b__law_take⟩, top 54⟩
/-- _law_same(a, b) -/
def l1__law_same : List S := [(S.iff (E.not (E.call 47 (E.ix (E.slot 0) (E.slot 2)) (Es.cons (E.ix (E.slot 1) (E.slot 2)) Es.nil))) [(S.ret (E.bl false))] [])]
def b__law_same : List S := [
  (S.iff (E.or (E.isi (E.slot 1) .tup) (Es.cons (E.isi (E.slot 1) .lst) Es.nil)) [(S.iff (E.or (E.and (E.isi (E.slot 1) .tup) (Es.cons (E.not (E.isi (E.slot 0) .tup)) Es.nil)) (Es.cons (E.and (E.isi (E.slot 1) .lst) (Es.cons (E.not (E.isi (E.slot 0) .lst)) Es.nil)) Es.nil)) [(S.ret (E.bl false))] []), (S.iff (E.cmp .NotEq (E.bi .len (E.slot 0) Es.nil) (E.bi .len (E.slot 1) Es.nil)) [(S.ret (E.bl false))] []), (S.for (T.nm 2) (I.rng1 (E.bi .len (E.slot 1) Es.nil)) l1__law_same), (S.ret (E.bl true))] []),
  (S.iff (E.or (E.isi (E.slot 0) .bool) (Es.cons (E.isi (E.slot 1) .bool) Es.nil)) [(S.ret (E.and (E.isi (E.slot 0) .bool) (Es.cons (E.isi (E.slot 1) .bool) (Es.cons (E.cmp .Eq (E.slot 0) (E.slot 1)) Es.nil))))] []),
  (S.iff (E.isi (E.slot 1) .int) [(S.ret (E.and (E.isi (E.slot 0) .int) (Es.cons (E.cmp .Eq (E.slot 0) (E.slot 1)) Es.nil)))] []),
  (S.iff (E.isi (E.slot 1) .str) [(S.ret (E.and (E.isi (E.slot 0) .str) (Es.cons (E.cmp .Eq (E.slot 0) (E.slot 1)) Es.nil)))] []),
  (S.ret (E.and (E.isN (E.slot 0)) (Es.cons (E.isN (E.slot 1)) Es.nil)))]
def p__law_same : PF := ⟨"_law_same", ["a", "b", "k"], ⟨2, 3, b__law_same⟩, top 55⟩
/-- _law_bool(answer, due) -/
def b__law_bool : List S := [
  (S.ret (E.and (E.isi (E.slot 0) .bool) (Es.cons (E.cmp .Eq (E.slot 0) (E.slot 1)) Es.nil)))]
def p__law_bool : PF := ⟨"_law_bool", ["answer", "due"], ⟨2, 2, b__law_bool⟩, top 56⟩
/-- _law_ratio(p, q) -/
def l1__law_ratio : List S := [(S.iff (E.cmp .Eq (E.slot 2) (E.int 0)) [S.brk] []), (S.par 2 3 (E.bin .Mod (E.slot 3) (E.slot 2)) (E.slot 2))]
def b__law_ratio : List S := [
  (S.iff (E.cmp .Lt (E.slot 1) (E.int 0)) [(S.asg (T.nm 0) (E.neg (E.slot 0))), (S.asg (T.nm 1) (E.neg (E.slot 1)))] []),
  (S.asg (T.nm 2) (E.bi .abs (E.slot 0) Es.nil)),
  (S.asg (T.nm 3) (E.slot 1)),
  (S.for (T.nm 4) (I.rng1 (E.int 100000)) l1__law_ratio),
  (S.ret (E.tup (Es.cons (E.bin .FloorDiv (E.slot 0) (E.slot 3)) (Es.cons (E.bin .FloorDiv (E.slot 1) (E.slot 3)) Es.nil))))]
def p__law_ratio : PF := ⟨"_law_ratio", ["p", "q", "a", "b", "turn"], ⟨2, 5, b__law_ratio⟩, top 57⟩
/-- _law_plus(s, t) -/
def b__law_plus : List S := [
  (S.ret (E.call 49 (E.bin .Add (E.bin .Mult (E.ix (E.slot 0) (E.int 0)) (E.ix (E.slot 1) (E.int 1))) (E.bin .Mult (E.ix (E.slot 1) (E.int 0)) (E.ix (E.slot 0) (E.int 1)))) (Es.cons (E.bin .Mult (E.ix (E.slot 0) (E.int 1)) (E.ix (E.slot 1) (E.int 1))) Es.nil)))]
def p__law_plus : PF := ⟨"_law_plus", ["s", "t"], ⟨2, 2, b__law_plus⟩, top 58⟩
/-- _law_mult(s, t) -/
def b__law_mult : List S := [
  (S.ret (E.call 49 (E.bin .Mult (E.ix (E.slot 0) (E.int 0)) (E.ix (E.slot 1) (E.int 0))) (Es.cons (E.bin .Mult (E.ix (E.slot 0) (E.int 1)) (E.ix (E.slot 1) (E.int 1))) Es.nil)))]
def p__law_mult : PF := ⟨"_law_mult", ["s", "t"], ⟨2, 2, b__law_mult⟩, top 59⟩
/-- _law_sum(ratios) -/
def l1__law_sum : List S := [(S.asg (T.nm 1) (E.call 50 (E.slot 1) (Es.cons (E.slot 2) Es.nil)))]
def b__law_sum : List S := [
  (S.asg (T.nm 1) (E.tup (Es.cons (E.int 0) (Es.cons (E.int 1) Es.nil)))),
  (S.for (T.nm 2) (I.seq (E.slot 0)) l1__law_sum),
  (S.ret (E.slot 1))]
def p__law_sum : PF := ⟨"_law_sum", ["ratios", "total", "t"], ⟨1, 3, b__law_sum⟩, top 60⟩
/-- _law_height(bound, point) -/
def l1__law_height : List S := [(S.asg (T.nm 2) (E.call 50 (E.slot 2) (Es.cons (E.call 51 (E.ix (E.ix (E.slot 0) (E.int 0)) (E.slot 3)) (Es.cons (E.ix (E.slot 1) (E.slot 3)) Es.nil)) Es.nil)))]
def b__law_height : List S := [
  (S.asg (T.nm 2) (E.ix (E.slot 0) (E.int 1))),
  (S.for (T.nm 3) (I.rng1 (E.bi .len (E.slot 1) Es.nil)) l1__law_height),
  (S.ret (E.slot 2))]
def p__law_height : PF := ⟨"_law_height", ["bound", "point", "total", "k"], ⟨2, 4, b__law_height⟩, top 61⟩
/-- _law_keeps(bound, point) -/
def b__law_keeps : List S := [
  (S.asg (T.nm 2) (E.call 53 (E.slot 0) (Es.cons (E.slot 1) Es.nil))),
  (S.ret (E.or (E.cmp .Gt (E.ix (E.slot 2) (E.int 0)) (E.int 0)) (Es.cons (E.and (E.cmp .Eq (E.ix (E.slot 2) (E.int 0)) (E.int 0)) (Es.cons (E.not (E.ix (E.slot 0) (E.int 2))) Es.nil)) Es.nil)))]
def p__law_keeps : PF := ⟨"_law_keeps", ["bound", "point", "high"], ⟨2, 3, b__law_keeps⟩, top 62⟩
/-- _law_has(polyhedron, point) -/
def c1__law_has : E := E.lc (E.int 1) (T.nm 2) (I.seq (E.ix (E.slot 0) (E.int 1))) (Eo.some (E.not (E.call 54 (E.slot 2) (Es.cons (E.slot 1) Es.nil)))) [2]
def b__law_has : List S := [
  (S.ret (E.cmp .Eq (E.bi .len c1__law_has Es.nil) (E.int 0)))]
def p__law_has : PF := ⟨"_law_has", ["polyhedron", "point", "bound"], ⟨2, 3, b__law_has⟩, top 63⟩
/-- _law_empty_right(polyhedron, paper) -/
def c1__law_empty_right : E := E.lc (E.int 1) (T.nm 4) (I.seq (E.slot 1)) (Eo.some (E.cmp .Lt (E.ix (E.slot 4) (E.int 0)) (E.int 0))) [4]
def c2__law_empty_right : E := E.lc (E.call 51 (E.ix (E.slot 1) (E.slot 6)) (Es.cons (E.ix (E.ix (E.ix (E.slot 3) (E.slot 6)) (E.int 0)) (E.slot 5)) Es.nil)) (T.nm 6) (I.rng1 (E.bi .len (E.slot 3) Es.nil)) Eo.none [6]
def l1__law_empty_right : List S := [(S.iff (E.cmp .NotEq (E.call 52 c2__law_empty_right Es.nil) (E.tup (Es.cons (E.int 0) (Es.cons (E.int 1) Es.nil)))) [(S.ret (E.bl false))] [])]
def c3__law_empty_right : E := E.lc (E.call 51 (E.ix (E.slot 1) (E.slot 6)) (Es.cons (E.ix (E.ix (E.slot 3) (E.slot 6)) (E.int 1)) Es.nil)) (T.nm 6) (I.rng1 (E.bi .len (E.slot 3) Es.nil)) Eo.none [6]
def c4__law_empty_right : E := E.lc (E.int 1) (T.nm 6) (I.rng1 (E.bi .len (E.slot 3) Es.nil)) (Eo.some (E.and (E.ix (E.ix (E.slot 3) (E.slot 6)) (E.int 2)) (Es.cons (E.cmp .Gt (E.ix (E.ix (E.slot 1) (E.slot 6)) (E.int 0)) (E.int 0)) Es.nil))) [6]
def b__law_empty_right : List S := [
  (S.asg (T.tp [(T.nm 2), (T.nm 3)]) (E.slot 0)),
  (S.iff (E.or (E.cmp .NotEq (E.bi .len (E.slot 1) Es.nil) (E.bi .len (E.slot 3) Es.nil)) (Es.cons (E.cmp .Gt (E.bi .len c1__law_empty_right Es.nil) (E.int 0)) Es.nil)) [(S.ret (E.bl false))] []),
  (S.for (T.nm 5) (I.rng1 (E.slot 2)) l1__law_empty_right),
  (S.asg (T.nm 7) (E.call 52 c3__law_empty_right Es.nil)),
  (S.asg (T.nm 8) (E.cmp .Gt (E.bi .len c4__law_empty_right Es.nil) (E.int 0))),
  (S.ret (E.or (E.cmp .Lt (E.ix (E.slot 7) (E.int 0)) (E.int 0)) (Es.cons (E.and (E.cmp .Eq (E.ix (E.slot 7) (E.int 0)) (E.int 0)) (Es.cons (E.slot 8) Es.nil)) Es.nil)))]
def p__law_empty_right : PF := ⟨"_law_empty_right", ["polyhedron", "paper", "n", "bounds", "t", "k", "m", "total", "strict"], ⟨2, 9, b__law_empty_right⟩, top 64⟩
/-- _law_small(deal) -/
def b__law_small : List S := [
  (S.iff (E.cmp .Eq (E.call 46 (E.slot 0) (Es.cons (E.int 4) Es.nil)) (E.int 0)) [(S.ret (E.call 49 (E.bin .Sub (E.call 46 (E.slot 0) (Es.cons (E.int 7) Es.nil)) (E.int 3)) (Es.cons (E.bin .Add (E.int 1) (E.call 46 (E.slot 0) (Es.cons (E.int 3) Es.nil))) Es.nil)))] []),
  (S.ret (E.tup (Es.cons (E.bin .Sub (E.call 46 (E.slot 0) (Es.cons (E.int 9) Es.nil)) (E.int 4)) (Es.cons (E.int 1) Es.nil))))]
def p__law_small : PF := ⟨"_law_small", ["deal"], ⟨1, 1, b__law_small⟩, top 65⟩
/-- _law_bound(deal, n) -/
def c1__law_bound : E := E.lc (E.ite (E.cmp .Gt (E.call 46 (E.slot 0) (Es.cons (E.int 3) Es.nil)) (E.int 0)) (E.call 57 (E.slot 0) Es.nil) (E.tup (Es.cons (E.int 0) (Es.cons (E.int 1) Es.nil)))) (T.nm 3) (I.rng1 (E.slot 1)) Eo.none [3]
def b__law_bound : List S := [
  (S.asg (T.nm 2) (E.bi .tuple c1__law_bound Es.nil)),
  (S.ret (E.tup (Es.cons (E.slot 2) (Es.cons (E.call 57 (E.slot 0) Es.nil) (Es.cons (E.cmp .Eq (E.call 46 (E.slot 0) (Es.cons (E.int 4) Es.nil)) (E.int 0)) Es.nil)))))]
def p__law_bound : PF := ⟨"_law_bound", ["deal", "n", "factors", "k"], ⟨2, 4, b__law_bound⟩, top 66⟩
/-- _law_region(deal, n, most, many) -/
def c1__law_region : E := E.lc (E.call 58 (E.slot 0) (Es.cons (E.slot 1) Es.nil)) (T.nm 6) (I.rng1 (E.call 46 (E.slot 0) (Es.cons (E.bin .Add (E.slot 3) (E.int 1)) Es.nil))) Eo.none [6]
def l1__law_region : List S := [(S.app 4 (E.bi .tuple c1__law_region Es.nil))]
def b__law_region : List S := [
  (S.asgN 4 (E.lst Es.nil)),
  (S.for (T.nm 5) (I.rng1 (E.call 46 (E.slot 0) (Es.cons (E.bin .Add (E.slot 2) (E.int 1)) Es.nil))) l1__law_region),
  (S.frz 4 (S.ret (E.tup (Es.cons (E.slot 1) (Es.cons (E.bi .tuple (E.slot 4) Es.nil) Es.nil)))))]
def p__law_region : PF := ⟨"_law_region", ["deal", "n", "most", "many", "pieces", "turn", "k"], ⟨4, 7, b__law_region⟩, top 67⟩
/-- _law_in(region, point) -/
def c1__law_in : E := E.lc (E.int 1) (T.nm 2) (I.seq (E.ix (E.slot 0) (E.int 1))) (Eo.some (E.call 55 (E.tup (Es.cons (E.ix (E.slot 0) (E.int 0)) (Es.cons (E.slot 2) Es.nil))) (Es.cons (E.slot 1) Es.nil))) [2]
def b__law_in : List S := [
  (S.ret (E.cmp .Gt (E.bi .len c1__law_in Es.nil) (E.int 0)))]
def p__law_in : PF := ⟨"_law_in", ["region", "point", "bounds"], ⟨2, 3, b__law_in⟩, top 68⟩
/-- _law_points(deal, n, many) -/
def c1__law_points : E := E.lc (E.call 57 (E.slot 0) Es.nil) (T.nm 3) (I.rng1 (E.slot 1)) Eo.none [3]
def c2__law_points : E := E.lc (E.bi .tuple c1__law_points Es.nil) (T.nm 4) (I.rng1 (E.slot 2)) Eo.none [4]
def b__law_points : List S := [
  (S.ret c2__law_points)]
def p__law_points : PF := ⟨"_law_points", ["deal", "n", "many", "k", "turn"], ⟨3, 5, b__law_points⟩, top 69⟩
/-- _law_filled(region) -/
def l1__law_filled : List S := [(S.asg (T.nm 2) (E.call 27 (E.slot 1) Es.nil)), (S.iff (E.or (E.isN (E.slot 2)) (Es.cons (E.not (E.call 55 (E.slot 1) (Es.cons (E.slot 2) Es.nil))) Es.nil)) [(S.ret (E.bl false))] [])]
def b__law_filled : List S := [
  (S.for (T.nm 1) (I.seq (E.call 34 (E.slot 0) Es.nil)) l1__law_filled),
  (S.ret (E.bl true))]
def p__law_filled : PF := ⟨"_law_filled", ["region", "polyhedron", "point"], ⟨1, 3, b__law_filled⟩, top 70⟩
/-- _law_all(deal, one, other) -/
def c1__law_all : E := E.lc (E.slot 10) (T.nm 10) (I.seq (E.lst (Es.cons (E.call 37 (E.slot 1) Es.nil) (Es.cons (E.call 37 (E.slot 2) Es.nil) (Es.cons (E.call 37 (E.slot 6) Es.nil) (Es.cons (E.call 37 (E.slot 7) Es.nil) Es.nil)))))) (Eo.some (E.notN (E.slot 10))) [10]
def l1__law_all : List S := [(S.asg (T.nm 11) (E.call 60 (E.slot 1) (Es.cons (E.slot 10) Es.nil))), (S.asg (T.nm 12) (E.call 60 (E.slot 2) (Es.cons (E.slot 10) Es.nil))), (S.iff (E.or (E.not (E.call 48 (E.call 35 (E.slot 1) (Es.cons (E.slot 10) Es.nil)) (Es.cons (E.slot 11) Es.nil))) (Es.cons (E.cmp .NotEq (E.call 60 (E.slot 4) (Es.cons (E.slot 10) Es.nil)) (E.or (E.slot 11) (Es.cons (E.slot 12) Es.nil))) (Es.cons (E.cmp .NotEq (E.call 60 (E.slot 5) (Es.cons (E.slot 10) Es.nil)) (E.and (E.slot 11) (Es.cons (E.slot 12) Es.nil))) Es.nil))) [(S.ret (E.bl false))] []), (S.iff (E.or (E.cmp .NotEq (E.call 60 (E.slot 6) (Es.cons (E.slot 10) Es.nil)) (E.and (E.slot 11) (Es.cons (E.not (E.slot 12)) Es.nil))) (Es.cons (E.cmp .Eq (E.call 60 (E.slot 7) (Es.cons (E.slot 10) Es.nil)) (E.slot 11)) Es.nil)) [(S.ret (E.bl false))] [])]
def b__law_all : List S := [
  (S.asg (T.nm 3) (E.ix (E.slot 1) (E.int 0))),
  (S.asg (T.nm 4) (E.call 38 (E.slot 1) (Es.cons (E.slot 2) Es.nil))),
  (S.asg (T.nm 5) (E.call 39 (E.slot 1) (Es.cons (E.slot 2) Es.nil))),
  (S.asg (T.nm 6) (E.call 40 (E.slot 1) (Es.cons (E.slot 2) Es.nil))),
  (S.asg (T.nm 7) (E.call 41 (E.slot 1) Es.nil)),
  (S.iff (E.or (E.not (E.call 62 (E.slot 5) Es.nil)) (Es.cons (E.not (E.call 62 (E.slot 6) Es.nil)) (Es.cons (E.not (E.call 62 (E.slot 7) Es.nil)) Es.nil))) [(S.ret (E.bl false))] []),
  (S.iff (E.or (E.not (E.call 47 (E.slot 5) (Es.cons (E.call 66 (E.slot 1) (Es.cons (E.slot 2) Es.nil)) Es.nil))) (Es.cons (E.not (E.call 47 (E.slot 6) (Es.cons (E.call 67 (E.slot 1) (Es.cons (E.slot 2) Es.nil)) Es.nil))) Es.nil)) [(S.ret (E.bl false))] []),
  (S.asg (T.nm 8) (E.cmp .Eq (E.bin .Add (E.bi .len (E.ix (E.call 67 (E.slot 1) (Es.cons (E.slot 2) Es.nil)) (E.int 1)) Es.nil) (E.bi .len (E.ix (E.call 67 (E.slot 2) (Es.cons (E.slot 1) Es.nil)) (E.int 1)) Es.nil)) (E.int 0))),
  (S.iff (E.or (E.not (E.call 48 (E.call 43 (E.slot 1) (Es.cons (E.slot 2) Es.nil)) (Es.cons (E.slot 8) Es.nil))) (Es.cons (E.not (E.call 47 (E.slot 7) (Es.cons (E.call 67 (E.tup (Es.cons (E.slot 3) (Es.cons (E.tup (Es.cons (E.tup Es.nil) Es.nil)) Es.nil))) (Es.cons (E.slot 1) Es.nil)) Es.nil))) Es.nil)) [(S.ret (E.bl false))] []),
  (S.asg (T.nm 9) (E.bin .Add (E.call 61 (E.slot 0) (Es.cons (E.slot 3) (Es.cons (E.int 4) Es.nil))) c1__law_all)),
  (S.for (T.nm 10) (I.seq (E.slot 9)) l1__law_all),
  (S.ret (E.and (E.cmp .Is (E.call 36 (E.call 39 (E.slot 6) (Es.cons (E.slot 2) Es.nil)) Es.nil) (E.bl true)) (Es.cons (E.cmp .Is (E.call 36 (E.call 39 (E.slot 7) (Es.cons (E.slot 1) Es.nil)) Es.nil) (E.bl true)) Es.nil)))]
def p__law_all : PF := ⟨"_law_all", ["deal", "one", "other", "n", "both", "common", "left", "out", "same", "points", "point", "first", "second"], ⟨3, 13, b__law_all⟩, top 71⟩
/-- _law_covers(one, other) -/
def b__law_covers : List S := [
  (S.asg (T.nm 2) (E.call 40 (E.slot 0) (Es.cons (E.slot 1) Es.nil))),
  (S.asg (T.nm 3) (E.call 37 (E.slot 2) Es.nil)),
  (S.asg (T.nm 4) (E.call 42 (E.slot 0) (Es.cons (E.slot 1) Es.nil))),
  (S.iff (E.or (E.not (E.call 48 (E.call 36 (E.slot 2) Es.nil) (Es.cons (E.isN (E.slot 3)) Es.nil))) (Es.cons (E.not (E.call 48 (E.slot 4) (Es.cons (E.isN (E.slot 3)) Es.nil))) Es.nil)) [(S.ret (E.bl false))] []),
  (S.ret (E.or (E.isN (E.slot 3)) (Es.cons (E.and (E.call 60 (E.slot 0) (Es.cons (E.slot 3) Es.nil)) (Es.cons (E.not (E.call 60 (E.slot 1) (Es.cons (E.slot 3) Es.nil))) Es.nil)) Es.nil)))]
def p__law_covers : PF := ⟨"_law_covers", ["one", "other", "left", "point", "covered"], ⟨2, 5, b__law_covers⟩, top 72⟩
/-- _law_turned(bound) -/
def c1__law_turned : E := E.lc (E.tup (Es.cons (E.neg (E.ix (E.slot 1) (E.int 0))) (Es.cons (E.ix (E.slot 1) (E.int 1)) Es.nil))) (T.nm 1) (I.seq (E.ix (E.slot 0) (E.int 0))) Eo.none [1]
def b__law_turned : List S := [
  (S.ret (E.tup (Es.cons (E.bi .tuple c1__law_turned Es.nil) (Es.cons (E.tup (Es.cons (E.neg (E.ix (E.ix (E.slot 0) (E.int 1)) (E.int 0))) (Es.cons (E.ix (E.ix (E.slot 0) (E.int 1)) (E.int 1)) Es.nil))) (Es.cons (E.not (E.ix (E.slot 0) (E.int 2))) Es.nil)))))]
def p__law_turned : PF := ⟨"_law_turned", ["bound", "t"], ⟨1, 2, b__law_turned⟩, top 73⟩
/-- _law_met(one, other) -/
def l1__law_met : List S := [(S.iff (E.notN (E.call 27 (E.tup (Es.cons (E.ix (E.slot 0) (E.int 0)) (Es.cons (E.bin .Add (E.slot 3) (E.slot 4)) Es.nil))) Es.nil)) [(S.app 2 (E.bin .Add (E.slot 3) (E.slot 4)))] [])]
def l2__law_met : List S := [(S.for (T.nm 4) (I.seq (E.ix (E.slot 1) (E.int 1))) l1__law_met)]
def b__law_met : List S := [
  (S.asgN 2 (E.lst Es.nil)),
  (S.for (T.nm 3) (I.seq (E.ix (E.slot 0) (E.int 1))) l2__law_met),
  (S.frz 2 (S.ret (E.tup (Es.cons (E.ix (E.slot 0) (E.int 0)) (Es.cons (E.bi .tuple (E.slot 2) Es.nil) Es.nil)))))]
def p__law_met : PF := ⟨"_law_met", ["one", "other", "found", "first", "second"], ⟨2, 5, b__law_met⟩, top 74⟩
/-- _law_taken(one, other) -/
def c1__law_taken : E := E.lc (E.slot 4) (T.nm 4) (I.seq (E.ix (E.slot 0) (E.int 1))) (Eo.some (E.notN (E.call 27 (E.tup (Es.cons (E.slot 2) (Es.cons (E.slot 4) Es.nil))) Es.nil))) [4]
def l1__law_taken : List S := [(S.asg (T.nm 9) (E.bin .Add (E.bin .Add (E.slot 7) (E.slc (E.slot 5) Eo.none (Eo.some (E.slot 8)))) (E.tup (Es.cons (E.call 65 (E.ix (E.slot 5) (E.slot 8)) Es.nil) Es.nil)))), (S.iff (E.notN (E.call 27 (E.tup (Es.cons (E.slot 2) (Es.cons (E.slot 9) Es.nil))) Es.nil)) [(S.app 6 (E.slot 9))] [])]
def l2__law_taken : List S := [(S.for (T.nm 8) (I.rng1 (E.bi .len (E.slot 5) Es.nil)) l1__law_taken)]
def l3__law_taken : List S := [(S.asgN 6 (E.lst Es.nil)), (S.for (T.nm 7) (I.seq (E.slot 3)) l2__law_taken), (S.frz 6 (S.asg (T.nm 3) (E.slot 6)))]
def b__law_taken : List S := [
  (S.asg (T.nm 2) (E.ix (E.slot 0) (E.int 0))),
  (S.asg (T.nm 3) c1__law_taken),
  (S.for (T.nm 5) (I.seq (E.ix (E.slot 1) (E.int 1))) l3__law_taken),
  (S.ret (E.tup (Es.cons (E.slot 2) (Es.cons (E.bi .tuple (E.slot 3) Es.nil) Es.nil))))]
def p__law_taken : PF := ⟨"_law_taken", ["one", "other", "n", "parts", "bounds", "piece", "later", "part", "k", "told"], ⟨2, 10, b__law_taken⟩, top 75⟩
/-- _law_lean(n, bounds) -/
def l1__law_lean : List S := [(S.asg (T.nm 4) (E.bin .Add (E.slc (E.slot 2) Eo.none (Eo.some (E.slot 3))) (E.slc (E.slot 2) (Eo.some (E.bin .Add (E.slot 3) (E.int 1))) Eo.none))), (S.iff (E.isN (E.call 27 (E.tup (Es.cons (E.slot 0) (Es.cons (E.bin .Add (E.bi .tuple (E.slot 4) Es.nil) (E.tup (Es.cons (E.call 65 (E.ix (E.slot 2) (E.slot 3)) Es.nil) Es.nil))) Es.nil))) Es.nil)) [(S.asg (T.nm 2) (E.slot 4))] [])]
def b__law_lean : List S := [
  (S.asg (T.nm 2) (E.bi .list (E.slot 1) Es.nil)),
  (S.for (T.nm 3) (I.rngD (E.bin .Sub (E.bi .len (E.slot 1) Es.nil) (E.int 1))) l1__law_lean),
  (S.ret (E.bi .tuple (E.slot 2) Es.nil))]
def p__law_lean : PF := ⟨"_law_lean", ["n", "bounds", "left", "k", "rest"], ⟨2, 5, b__law_lean⟩, top 76⟩
/-- _law_slim(region) -/
def c1__law_slim : E := E.lc (E.call 68 (E.slot 1) (Es.cons (E.slot 3) Es.nil)) (T.nm 3) (I.seq (E.ix (E.slot 0) (E.int 1))) (Eo.some (E.notN (E.call 27 (E.tup (Es.cons (E.slot 1) (Es.cons (E.slot 3) Es.nil))) Es.nil))) [3]
def l1__law_slim : List S := [(S.asg (T.nm 5) (E.bin .Add (E.slc (E.slot 2) Eo.none (Eo.some (E.slot 4))) (E.slc (E.slot 2) (Eo.some (E.bin .Add (E.slot 4) (E.int 1))) Eo.none))), (S.iff (E.cmp .Eq (E.bi .len (E.ix (E.call 67 (E.tup (Es.cons (E.slot 1) (Es.cons (E.tup (Es.cons (E.ix (E.slot 2) (E.slot 4)) Es.nil)) Es.nil))) (Es.cons (E.tup (Es.cons (E.slot 1) (Es.cons (E.bi .tuple (E.slot 5) Es.nil) Es.nil))) Es.nil)) (E.int 1)) Es.nil) (E.int 0)) [(S.asg (T.nm 2) (E.slot 5))] [])]
def b__law_slim : List S := [
  (S.asg (T.nm 1) (E.ix (E.slot 0) (E.int 0))),
  (S.asg (T.nm 2) c1__law_slim),
  (S.for (T.nm 4) (I.rngD (E.bin .Sub (E.bi .len (E.slot 2) Es.nil) (E.int 1))) l1__law_slim),
  (S.ret (E.tup (Es.cons (E.slot 1) (Es.cons (E.bi .tuple (E.slot 2) Es.nil) Es.nil))))]
def p__law_slim : PF := ⟨"_law_slim", ["region", "n", "left", "bounds", "k", "rest"], ⟨1, 6, b__law_slim⟩, top 77⟩
/-- _law_least(region) -/
def l1__law_least : List S := [(S.iff (E.cmp .NotEq (E.ix (E.call 29 (E.tup (Es.cons (E.ix (E.slot 1) (E.int 0)) (Es.cons (E.ix (E.ix (E.slot 1) (E.int 1)) (E.slot 2)) Es.nil))) Es.nil) (E.int 1)) (E.ix (E.ix (E.slot 1) (E.int 1)) (E.slot 2))) [(S.ret (E.bl false))] []), (S.iff (E.call 42 (E.tup (Es.cons (E.ix (E.slot 1) (E.int 0)) (Es.cons (E.slc (E.ix (E.slot 1) (E.int 1)) (Eo.some (E.slot 2)) (Eo.some (E.bin .Add (E.slot 2) (E.int 1)))) Es.nil))) (Es.cons (E.tup (Es.cons (E.ix (E.slot 1) (E.int 0)) (Es.cons (E.bin .Add (E.slc (E.ix (E.slot 1) (E.int 1)) Eo.none (Eo.some (E.slot 2))) (E.slc (E.ix (E.slot 1) (E.int 1)) (Eo.some (E.bin .Add (E.slot 2) (E.int 1))) Eo.none)) Es.nil))) Es.nil)) [(S.ret (E.bl false))] [])]
def b__law_least : List S := [
  (S.asg (T.nm 1) (E.call 44 (E.slot 0) Es.nil)),
  (S.iff (E.not (E.call 47 (E.slot 1) (Es.cons (E.call 69 (E.slot 0) Es.nil) Es.nil))) [(S.ret (E.bl false))] []),
  (S.iff (E.or (E.not (E.call 48 (E.call 43 (E.slot 1) (Es.cons (E.slot 0) Es.nil)) (Es.cons (E.bl true) Es.nil))) (Es.cons (E.not (E.call 48 (E.call 43 (E.slot 0) (Es.cons (E.slot 1) Es.nil)) (Es.cons (E.bl true) Es.nil))) Es.nil)) [(S.ret (E.bl false))] []),
  (S.for (T.nm 2) (I.rng1 (E.bi .len (E.ix (E.slot 1) (E.int 1)) Es.nil)) l1__law_least),
  (S.ret (E.call 48 (E.call 36 (E.slot 0) Es.nil) (Es.cons (E.cmp .Eq (E.bi .len (E.ix (E.slot 1) (E.int 1)) Es.nil) (E.int 0)) Es.nil)))]
def p__law_least : PF := ⟨"_law_least", ["region", "slim", "k"], ⟨1, 3, b__law_least⟩, top 78⟩
/-- law(script) -/
def l1_law : List S := [(S.iff (E.not (E.call 42 (E.call 31 (E.slot 5) Es.nil) (Es.cons (E.slot 3) Es.nil))) [(S.ret (E.bl false))] []), (S.asg (T.nm 6) (E.call 27 (E.slot 5) Es.nil)), (S.asg (T.nm 7) (E.call 25 (E.slot 5) Es.nil)), (S.iff (E.or (E.cmp .Eq (E.isN (E.slot 6)) (E.isN (E.slot 7))) (Es.cons (E.and (E.notN (E.slot 7)) (Es.cons (E.not (E.call 56 (E.slot 5) (Es.cons (E.slot 7) Es.nil))) Es.nil)) Es.nil)) [(S.ret (E.bl false))] [])]
def b_law : List S := [
  (S.asg (T.nm 1) (E.call 45 (E.slot 0) Es.nil)),
  (S.asg (T.nm 2) (E.bin .Add (E.int 1) (E.bi .int (E.cmp .Eq (E.call 46 (E.slot 1) (Es.cons (E.int 3) Es.nil)) (E.int 0)) Es.nil))),
  (S.asg (T.nm 3) (E.call 59 (E.slot 1) (Es.cons (E.slot 2) (Es.cons (E.ite (E.cmp .Eq (E.slot 2) (E.int 1)) (E.int 3) (E.int 2)) (Es.cons (E.ite (E.cmp .Eq (E.slot 2) (E.int 1)) (E.int 3) (E.int 2)) Es.nil))))),
  (S.asg (T.nm 4) (E.call 59 (E.slot 1) (Es.cons (E.slot 2) (Es.cons (E.int 2) (Es.cons (E.ite (E.cmp .Eq (E.slot 2) (E.int 1)) (E.int 3) (E.int 2)) Es.nil))))),
  (S.iff (E.or (E.not (E.call 63 (E.slot 1) (Es.cons (E.slot 3) (Es.cons (E.slot 4) Es.nil)))) (Es.cons (E.not (E.call 64 (E.slot 3) (Es.cons (E.slot 4) Es.nil))) (Es.cons (E.not (E.call 64 (E.call 39 (E.slot 3) (Es.cons (E.slot 4) Es.nil)) (Es.cons (E.slot 3) Es.nil))) (Es.cons (E.not (E.call 70 (E.slot 3) Es.nil)) Es.nil)))) [(S.ret (E.bl false))] []),
  (S.iff (E.or (E.not (E.call 42 (E.slot 3) (Es.cons (E.call 38 (E.slot 4) (Es.cons (E.slot 3) Es.nil)) Es.nil))) (Es.cons (E.not (E.call 43 (E.call 38 (E.call 39 (E.slot 3) (Es.cons (E.slot 4) Es.nil)) (Es.cons (E.call 40 (E.slot 3) (Es.cons (E.slot 4) Es.nil)) Es.nil)) (Es.cons (E.slot 3) Es.nil))) Es.nil)) [(S.ret (E.bl false))] []),
  (S.iff (E.or (E.not (E.call 47 (E.call 33 (E.slot 2) Es.nil) (Es.cons (E.tup (Es.cons (E.slot 2) (Es.cons (E.tup (Es.cons (E.tup Es.nil) Es.nil)) Es.nil))) Es.nil))) (Es.cons (E.not (E.call 47 (E.call 32 (E.slot 2) Es.nil) (Es.cons (E.tup (Es.cons (E.slot 2) (Es.cons (E.tup Es.nil) Es.nil))) Es.nil))) (Es.cons (E.not (E.call 42 (E.call 32 (E.slot 2) Es.nil) (Es.cons (E.slot 3) Es.nil))) Es.nil))) [(S.ret (E.bl false))] []),
  (S.for (T.nm 5) (I.seq (E.call 34 (E.slot 3) Es.nil)) l1_law),
  (S.ret (E.cmp .Is (E.call 43 (E.call 41 (E.call 41 (E.slot 3) Es.nil) Es.nil) (Es.cons (E.slot 3) Es.nil)) (E.bl true)))]
def p_law : PF := ⟨"law", ["script", "deal", "n", "one", "other", "polyhedron", "point", "paper"], ⟨1, 8, b_law⟩, top 79⟩
def pfs : List PF := [p_greatest_divisor, p_ratio, p_added, p_opposite, p_less, p_times, p_over, p_compare, p_blended, p_height, p_keeps, p_has_point, p_turned, p_scaled, p_sum_of, p_evened_out, p_says_nothing, p_is_against, p_binds_more, p_strongest, p_without_quantity, p_cheapest, p_rows_of, p_stages, p_is_empty, p_empty_paper, p_worth_between, p_point_paper, p_impossible, p_lean, p_without, p_region_of, p_nothing, p_everywhere, p_polyhedra_of, p_has, p_is_void, p_point_in, p_joined, p_met, p_taken_away, p_turned_out, p_is_covered, p_are_same_regions, p_least_region, p__law_deal, p__law_take, p__law_same, p__law_bool, p__law_ratio, p__law_plus, p__law_mult, p__law_sum, p__law_height, p__law_keeps, p__law_has, p__law_empty_right, p__law_small, p__law_bound, p__law_region, p__law_in, p__law_points, p__law_filled, p__law_all, p__law_covers, p__law_turned, p__law_met, p__law_taken, p__law_lean, p__law_slim, p__law_least, p_law]
def fs : List Fn := pfs.map (·.fn)
def cons : List (Str × D) := [("NOTHING", .tup [.int 0, .int 1]), ("ONE", .tup [.int 1, .int 1])]
abbrev gls : List Str := cons.map (·.1)
def Γ : GlS := ΓC cons
@[simp] theorem Γ_0 : Γ 0 = some (.tup [.int 0, .int 1]) := rfl
@[simp] theorem Γ_1 : Γ 1 = some (.tup [.int 1, .int 1]) := rfl
abbrev f_greatest_divisor : Nat := 0
abbrev f_ratio : Nat := 1
abbrev f_added : Nat := 2
abbrev f_opposite : Nat := 3
abbrev f_less : Nat := 4
abbrev f_times : Nat := 5
abbrev f_over : Nat := 6
abbrev f_compare : Nat := 7
abbrev f_blended : Nat := 8
abbrev f_height : Nat := 9
abbrev f_keeps : Nat := 10
abbrev f_has_point : Nat := 11
abbrev f_turned : Nat := 12
abbrev f_scaled : Nat := 13
abbrev f_sum_of : Nat := 14
abbrev f_evened_out : Nat := 15
abbrev f_says_nothing : Nat := 16
abbrev f_is_against : Nat := 17
abbrev f_binds_more : Nat := 18
abbrev f_strongest : Nat := 19
abbrev f_without_quantity : Nat := 20
abbrev f_cheapest : Nat := 21
abbrev f_rows_of : Nat := 22
abbrev f_stages : Nat := 23
abbrev f_is_empty : Nat := 24
abbrev f_empty_paper : Nat := 25
abbrev f_worth_between : Nat := 26
abbrev f_point_paper : Nat := 27
abbrev f_impossible : Nat := 28
abbrev f_lean : Nat := 29
abbrev f_without : Nat := 30
abbrev f_region_of : Nat := 31
abbrev f_nothing : Nat := 32
abbrev f_everywhere : Nat := 33
abbrev f_polyhedra_of : Nat := 34
abbrev f_has : Nat := 35
abbrev f_is_void : Nat := 36
abbrev f_point_in : Nat := 37
abbrev f_joined : Nat := 38
abbrev f_met : Nat := 39
abbrev f_taken_away : Nat := 40
abbrev f_turned_out : Nat := 41
abbrev f_is_covered : Nat := 42
abbrev f_are_same_regions : Nat := 43
abbrev f_least_region : Nat := 44
abbrev f__law_deal : Nat := 45
abbrev f__law_take : Nat := 46
abbrev f__law_same : Nat := 47
abbrev f__law_bool : Nat := 48
abbrev f__law_ratio : Nat := 49
abbrev f__law_plus : Nat := 50
abbrev f__law_mult : Nat := 51
abbrev f__law_sum : Nat := 52
abbrev f__law_height : Nat := 53
abbrev f__law_keeps : Nat := 54
abbrev f__law_has : Nat := 55
abbrev f__law_empty_right : Nat := 56
abbrev f__law_small : Nat := 57
abbrev f__law_bound : Nat := 58
abbrev f__law_region : Nat := 59
abbrev f__law_in : Nat := 60
abbrev f__law_points : Nat := 61
abbrev f__law_filled : Nat := 62
abbrev f__law_all : Nat := 63
abbrev f__law_covers : Nat := 64
abbrev f__law_turned : Nat := 65
abbrev f__law_met : Nat := 66
abbrev f__law_taken : Nat := 67
abbrev f__law_lean : Nat := 68
abbrev f__law_slim : Nat := 69
abbrev f__law_least : Nat := 70
abbrev f_law : Nat := 71
theorem u_greatest_divisor (k : Nat) (d0 d1 : D) (μ : Store) : Py.run fs Γ (k + 1) f_greatest_divisor [d0, d1] μ = fin (exs (Py.run fs Γ k) Γ b_greatest_divisor [some (.val d0), some (.val d1)] μ) := run_fin (fs := fs) (fn := p_greatest_divisor.fn) rfl rfl
theorem u_ratio (k : Nat) (d0 d1 : D) (μ : Store) : Py.run fs Γ (k + 1) f_ratio [d0, d1] μ = fin (exs (Py.run fs Γ k) Γ b_ratio [some (.val d0), some (.val d1), none] μ) := run_fin (fs := fs) (fn := p_ratio.fn) rfl rfl
theorem u_added (k : Nat) (d0 d1 : D) (μ : Store) : Py.run fs Γ (k + 1) f_added [d0, d1] μ = fin (exs (Py.run fs Γ k) Γ b_added [some (.val d0), some (.val d1)] μ) := run_fin (fs := fs) (fn := p_added.fn) rfl rfl
theorem u_opposite (k : Nat) (d0 : D) (μ : Store) : Py.run fs Γ (k + 1) f_opposite [d0] μ = fin (exs (Py.run fs Γ k) Γ b_opposite [some (.val d0)] μ) := run_fin (fs := fs) (fn := p_opposite.fn) rfl rfl
theorem u_less (k : Nat) (d0 d1 : D) (μ : Store) : Py.run fs Γ (k + 1) f_less [d0, d1] μ = fin (exs (Py.run fs Γ k) Γ b_less [some (.val d0), some (.val d1)] μ) := run_fin (fs := fs) (fn := p_less.fn) rfl rfl
theorem u_times (k : Nat) (d0 d1 : D) (μ : Store) : Py.run fs Γ (k + 1) f_times [d0, d1] μ = fin (exs (Py.run fs Γ k) Γ b_times [some (.val d0), some (.val d1)] μ) := run_fin (fs := fs) (fn := p_times.fn) rfl rfl
theorem u_over (k : Nat) (d0 d1 : D) (μ : Store) : Py.run fs Γ (k + 1) f_over [d0, d1] μ = fin (exs (Py.run fs Γ k) Γ b_over [some (.val d0), some (.val d1)] μ) := run_fin (fs := fs) (fn := p_over.fn) rfl rfl
theorem u_compare (k : Nat) (d0 d1 : D) (μ : Store) : Py.run fs Γ (k + 1) f_compare [d0, d1] μ = fin (exs (Py.run fs Γ k) Γ b_compare [some (.val d0), some (.val d1), none] μ) := run_fin (fs := fs) (fn := p_compare.fn) rfl rfl
theorem u_blended (k : Nat) (d0 d1 : D) (μ : Store) : Py.run fs Γ (k + 1) f_blended [d0, d1] μ = fin (exs (Py.run fs Γ k) Γ b_blended [some (.val d0), some (.val d1), none, none, none] μ) := run_fin (fs := fs) (fn := p_blended.fn) rfl rfl
theorem u_height (k : Nat) (d0 d1 : D) (μ : Store) : Py.run fs Γ (k + 1) f_height [d0, d1] μ = fin (exs (Py.run fs Γ k) Γ b_height [some (.val d0), some (.val d1)] μ) := run_fin (fs := fs) (fn := p_height.fn) rfl rfl
theorem u_keeps (k : Nat) (d0 d1 : D) (μ : Store) : Py.run fs Γ (k + 1) f_keeps [d0, d1] μ = fin (exs (Py.run fs Γ k) Γ b_keeps [some (.val d0), some (.val d1), none] μ) := run_fin (fs := fs) (fn := p_keeps.fn) rfl rfl
theorem u_has_point (k : Nat) (d0 d1 : D) (μ : Store) : Py.run fs Γ (k + 1) f_has_point [d0, d1] μ = fin (exs (Py.run fs Γ k) Γ b_has_point [some (.val d0), some (.val d1), none] μ) := run_fin (fs := fs) (fn := p_has_point.fn) rfl rfl
theorem u_turned (k : Nat) (d0 : D) (μ : Store) : Py.run fs Γ (k + 1) f_turned [d0] μ = fin (exs (Py.run fs Γ k) Γ b_turned [some (.val d0), none, none, none, none] μ) := run_fin (fs := fs) (fn := p_turned.fn) rfl rfl
theorem u_scaled (k : Nat) (d0 d1 : D) (μ : Store) : Py.run fs Γ (k + 1) f_scaled [d0, d1] μ = fin (exs (Py.run fs Γ k) Γ b_scaled [some (.val d0), some (.val d1), none, none, none, none, none] μ) := run_fin (fs := fs) (fn := p_scaled.fn) rfl rfl
theorem u_sum_of (k : Nat) (d0 d1 : D) (μ : Store) : Py.run fs Γ (k + 1) f_sum_of [d0, d1] μ = fin (exs (Py.run fs Γ k) Γ b_sum_of [some (.val d0), some (.val d1), none, none, none, none] μ) := run_fin (fs := fs) (fn := p_sum_of.fn) rfl rfl
theorem u_evened_out (k : Nat) (d0 : D) (μ : Store) : Py.run fs Γ (k + 1) f_evened_out [d0] μ = fin (exs (Py.run fs Γ k) Γ b_evened_out [some (.val d0), none] μ) := run_fin (fs := fs) (fn := p_evened_out.fn) rfl rfl
theorem u_says_nothing (k : Nat) (d0 : D) (μ : Store) : Py.run fs Γ (k + 1) f_says_nothing [d0] μ = fin (exs (Py.run fs Γ k) Γ b_says_nothing [some (.val d0), none, none] μ) := run_fin (fs := fs) (fn := p_says_nothing.fn) rfl rfl
theorem u_is_against (k : Nat) (d0 : D) (μ : Store) : Py.run fs Γ (k + 1) f_is_against [d0] μ = fin (exs (Py.run fs Γ k) Γ b_is_against [some (.val d0), none] μ) := run_fin (fs := fs) (fn := p_is_against.fn) rfl rfl
theorem u_binds_more (k : Nat) (d0 d1 : D) (μ : Store) : Py.run fs Γ (k + 1) f_binds_more [d0, d1] μ = fin (exs (Py.run fs Γ k) Γ b_binds_more [some (.val d0), some (.val d1), none] μ) := run_fin (fs := fs) (fn := p_binds_more.fn) rfl rfl
theorem u_strongest (k : Nat) (d0 : D) (μ : Store) : Py.run fs Γ (k + 1) f_strongest [d0] μ = fin (exs (Py.run fs Γ k) Γ b_strongest [some (.val d0), none, none, none] μ) := run_fin (fs := fs) (fn := p_strongest.fn) rfl rfl
theorem u_without_quantity (k : Nat) (d0 d1 : D) (μ : Store) : Py.run fs Γ (k + 1) f_without_quantity [d0, d1] μ = fin (exs (Py.run fs Γ k) Γ b_without_quantity [some (.val d0), some (.val d1), none, none, none, none, none, none, none, none] μ) := run_fin (fs := fs) (fn := p_without_quantity.fn) rfl rfl
theorem u_cheapest (k : Nat) (d0 d1 : D) (μ : Store) : Py.run fs Γ (k + 1) f_cheapest [d0, d1] μ = fin (exs (Py.run fs Γ k) Γ b_cheapest [some (.val d0), some (.val d1), none, none, none, none, none] μ) := run_fin (fs := fs) (fn := p_cheapest.fn) rfl rfl
theorem u_rows_of (k : Nat) (d0 d1 : D) (μ : Store) : Py.run fs Γ (k + 1) f_rows_of [d0, d1] μ = fin (exs (Py.run fs Γ k) Γ b_rows_of [some (.val d0), some (.val d1), none, none, none, none, none] μ) := run_fin (fs := fs) (fn := p_rows_of.fn) rfl rfl
theorem u_stages (k : Nat) (d0 d1 : D) (μ : Store) : Py.run fs Γ (k + 1) f_stages [d0, d1] μ = fin (exs (Py.run fs Γ k) Γ b_stages [some (.val d0), some (.val d1), none, none, none, none, none, none] μ) := run_fin (fs := fs) (fn := p_stages.fn) rfl rfl
theorem u_is_empty (k : Nat) (d0 : D) (μ : Store) : Py.run fs Γ (k + 1) f_is_empty [d0] μ = fin (exs (Py.run fs Γ k) Γ b_is_empty [some (.val d0), none, none, none] μ) := run_fin (fs := fs) (fn := p_is_empty.fn) rfl rfl
theorem u_empty_paper (k : Nat) (d0 : D) (μ : Store) : Py.run fs Γ (k + 1) f_empty_paper [d0] μ = fin (exs (Py.run fs Γ k) Γ b_empty_paper [some (.val d0), none, none, none, none] μ) := run_fin (fs := fs) (fn := p_empty_paper.fn) rfl rfl
theorem u_worth_between (k : Nat) (d0 d1 d2 : D) (μ : Store) : Py.run fs Γ (k + 1) f_worth_between [d0, d1, d2] μ = fin (exs (Py.run fs Γ k) Γ b_worth_between [some (.val d0), some (.val d1), some (.val d2), none, none, none, none, none, none] μ) := run_fin (fs := fs) (fn := p_worth_between.fn) rfl rfl
theorem u_point_paper (k : Nat) (d0 : D) (μ : Store) : Py.run fs Γ (k + 1) f_point_paper [d0] μ = fin (exs (Py.run fs Γ k) Γ b_point_paper [some (.val d0), none, none, none, none, none, none] μ) := run_fin (fs := fs) (fn := p_point_paper.fn) rfl rfl
theorem u_impossible (k : Nat) (d0 : D) (μ : Store) : Py.run fs Γ (k + 1) f_impossible [d0] μ = fin (exs (Py.run fs Γ k) Γ b_impossible [some (.val d0)] μ) := run_fin (fs := fs) (fn := p_impossible.fn) rfl rfl
theorem u_lean (k : Nat) (d0 : D) (μ : Store) : Py.run fs Γ (k + 1) f_lean [d0] μ = fin (exs (Py.run fs Γ k) Γ b_lean [some (.val d0), none, none, none, none, none] μ) := run_fin (fs := fs) (fn := p_lean.fn) rfl rfl
theorem u_without (k : Nat) (d0 d1 : D) (μ : Store) : Py.run fs Γ (k + 1) f_without [d0, d1] μ = fin (exs (Py.run fs Γ k) Γ b_without [some (.val d0), some (.val d1), none, none, none, none, none] μ) := run_fin (fs := fs) (fn := p_without.fn) rfl rfl
theorem u_region_of (k : Nat) (d0 : D) (μ : Store) : Py.run fs Γ (k + 1) f_region_of [d0] μ = fin (exs (Py.run fs Γ k) Γ b_region_of [some (.val d0)] μ) := run_fin (fs := fs) (fn := p_region_of.fn) rfl rfl
theorem u_nothing (k : Nat) (d0 : D) (μ : Store) : Py.run fs Γ (k + 1) f_nothing [d0] μ = fin (exs (Py.run fs Γ k) Γ b_nothing [some (.val d0)] μ) := run_fin (fs := fs) (fn := p_nothing.fn) rfl rfl
theorem u_everywhere (k : Nat) (d0 : D) (μ : Store) : Py.run fs Γ (k + 1) f_everywhere [d0] μ = fin (exs (Py.run fs Γ k) Γ b_everywhere [some (.val d0)] μ) := run_fin (fs := fs) (fn := p_everywhere.fn) rfl rfl
theorem u_polyhedra_of (k : Nat) (d0 : D) (μ : Store) : Py.run fs Γ (k + 1) f_polyhedra_of [d0] μ = fin (exs (Py.run fs Γ k) Γ b_polyhedra_of [some (.val d0), none] μ) := run_fin (fs := fs) (fn := p_polyhedra_of.fn) rfl rfl
theorem u_has (k : Nat) (d0 d1 : D) (μ : Store) : Py.run fs Γ (k + 1) f_has [d0, d1] μ = fin (exs (Py.run fs Γ k) Γ b_has [some (.val d0), some (.val d1), none] μ) := run_fin (fs := fs) (fn := p_has.fn) rfl rfl
theorem u_is_void (k : Nat) (d0 : D) (μ : Store) : Py.run fs Γ (k + 1) f_is_void [d0] μ = fin (exs (Py.run fs Γ k) Γ b_is_void [some (.val d0), none] μ) := run_fin (fs := fs) (fn := p_is_void.fn) rfl rfl
theorem u_point_in (k : Nat) (d0 : D) (μ : Store) : Py.run fs Γ (k + 1) f_point_in [d0] μ = fin (exs (Py.run fs Γ k) Γ b_point_in [some (.val d0), none, none] μ) := run_fin (fs := fs) (fn := p_point_in.fn) rfl rfl
theorem u_joined (k : Nat) (d0 d1 : D) (μ : Store) : Py.run fs Γ (k + 1) f_joined [d0, d1] μ = fin (exs (Py.run fs Γ k) Γ b_joined [some (.val d0), some (.val d1)] μ) := run_fin (fs := fs) (fn := p_joined.fn) rfl rfl
theorem u_met (k : Nat) (d0 d1 : D) (μ : Store) : Py.run fs Γ (k + 1) f_met [d0, d1] μ = fin (exs (Py.run fs Γ k) Γ b_met [some (.val d0), some (.val d1), none, none, none] μ) := run_fin (fs := fs) (fn := p_met.fn) rfl rfl
theorem u_taken_away (k : Nat) (d0 d1 : D) (μ : Store) : Py.run fs Γ (k + 1) f_taken_away [d0, d1] μ = fin (exs (Py.run fs Γ k) Γ b_taken_away [some (.val d0), some (.val d1), none, none, none, none, none, none, none] μ) := run_fin (fs := fs) (fn := p_taken_away.fn) rfl rfl
theorem u_turned_out (k : Nat) (d0 : D) (μ : Store) : Py.run fs Γ (k + 1) f_turned_out [d0] μ = fin (exs (Py.run fs Γ k) Γ b_turned_out [some (.val d0)] μ) := run_fin (fs := fs) (fn := p_turned_out.fn) rfl rfl
theorem u_is_covered (k : Nat) (d0 d1 : D) (μ : Store) : Py.run fs Γ (k + 1) f_is_covered [d0, d1] μ = fin (exs (Py.run fs Γ k) Γ b_is_covered [some (.val d0), some (.val d1)] μ) := run_fin (fs := fs) (fn := p_is_covered.fn) rfl rfl
theorem u_are_same_regions (k : Nat) (d0 d1 : D) (μ : Store) : Py.run fs Γ (k + 1) f_are_same_regions [d0, d1] μ = fin (exs (Py.run fs Γ k) Γ b_are_same_regions [some (.val d0), some (.val d1)] μ) := run_fin (fs := fs) (fn := p_are_same_regions.fn) rfl rfl
theorem u_least_region (k : Nat) (d0 : D) (μ : Store) : Py.run fs Γ (k + 1) f_least_region [d0] μ = fin (exs (Py.run fs Γ k) Γ b_least_region [some (.val d0), none, none, none, none, none] μ) := run_fin (fs := fs) (fn := p_least_region.fn) rfl rfl
theorem u__law_deal (k : Nat) (d0 : D) (μ : Store) : Py.run fs Γ (k + 1) f__law_deal [d0] μ = fin (exs (Py.run fs Γ k) Γ b__law_deal [some (.val d0), none, none, none, none, none] μ) := run_fin (fs := fs) (fn := p__law_deal.fn) rfl rfl
theorem u__law_take (k : Nat) (d0 d1 : D) (μ : Store) : Py.run fs Γ (k + 1) f__law_take [d0, d1] μ = fin (exs (Py.run fs Γ k) Γ b__law_take [some (.val d0), some (.val d1), none] μ) := run_fin (fs := fs) (fn := p__law_take.fn) rfl rfl
theorem u__law_same (k : Nat) (d0 d1 : D) (μ : Store) : Py.run fs Γ (k + 1) f__law_same [d0, d1] μ = fin (exs (Py.run fs Γ k) Γ b__law_same [some (.val d0), some (.val d1), none] μ) := run_fin (fs := fs) (fn := p__law_same.fn) rfl rfl
theorem u__law_bool (k : Nat) (d0 d1 : D) (μ : Store) : Py.run fs Γ (k + 1) f__law_bool [d0, d1] μ = fin (exs (Py.run fs Γ k) Γ b__law_bool [some (.val d0), some (.val d1)] μ) := run_fin (fs := fs) (fn := p__law_bool.fn) rfl rfl
theorem u__law_ratio (k : Nat) (d0 d1 : D) (μ : Store) : Py.run fs Γ (k + 1) f__law_ratio [d0, d1] μ = fin (exs (Py.run fs Γ k) Γ b__law_ratio [some (.val d0), some (.val d1), none, none, none] μ) := run_fin (fs := fs) (fn := p__law_ratio.fn) rfl rfl
theorem u__law_plus (k : Nat) (d0 d1 : D) (μ : Store) : Py.run fs Γ (k + 1) f__law_plus [d0, d1] μ = fin (exs (Py.run fs Γ k) Γ b__law_plus [some (.val d0), some (.val d1)] μ) := run_fin (fs := fs) (fn := p__law_plus.fn) rfl rfl
theorem u__law_mult (k : Nat) (d0 d1 : D) (μ : Store) : Py.run fs Γ (k + 1) f__law_mult [d0, d1] μ = fin (exs (Py.run fs Γ k) Γ b__law_mult [some (.val d0), some (.val d1)] μ) := run_fin (fs := fs) (fn := p__law_mult.fn) rfl rfl
theorem u__law_sum (k : Nat) (d0 : D) (μ : Store) : Py.run fs Γ (k + 1) f__law_sum [d0] μ = fin (exs (Py.run fs Γ k) Γ b__law_sum [some (.val d0), none, none] μ) := run_fin (fs := fs) (fn := p__law_sum.fn) rfl rfl
theorem u__law_height (k : Nat) (d0 d1 : D) (μ : Store) : Py.run fs Γ (k + 1) f__law_height [d0, d1] μ = fin (exs (Py.run fs Γ k) Γ b__law_height [some (.val d0), some (.val d1), none, none] μ) := run_fin (fs := fs) (fn := p__law_height.fn) rfl rfl
theorem u__law_keeps (k : Nat) (d0 d1 : D) (μ : Store) : Py.run fs Γ (k + 1) f__law_keeps [d0, d1] μ = fin (exs (Py.run fs Γ k) Γ b__law_keeps [some (.val d0), some (.val d1), none] μ) := run_fin (fs := fs) (fn := p__law_keeps.fn) rfl rfl
theorem u__law_has (k : Nat) (d0 d1 : D) (μ : Store) : Py.run fs Γ (k + 1) f__law_has [d0, d1] μ = fin (exs (Py.run fs Γ k) Γ b__law_has [some (.val d0), some (.val d1), none] μ) := run_fin (fs := fs) (fn := p__law_has.fn) rfl rfl
theorem u__law_empty_right (k : Nat) (d0 d1 : D) (μ : Store) : Py.run fs Γ (k + 1) f__law_empty_right [d0, d1] μ = fin (exs (Py.run fs Γ k) Γ b__law_empty_right [some (.val d0), some (.val d1), none, none, none, none, none, none, none] μ) := run_fin (fs := fs) (fn := p__law_empty_right.fn) rfl rfl
theorem u__law_small (k : Nat) (d0 : D) (μ : Store) : Py.run fs Γ (k + 1) f__law_small [d0] μ = fin (exs (Py.run fs Γ k) Γ b__law_small [some (.val d0)] μ) := run_fin (fs := fs) (fn := p__law_small.fn) rfl rfl
theorem u__law_bound (k : Nat) (d0 d1 : D) (μ : Store) : Py.run fs Γ (k + 1) f__law_bound [d0, d1] μ = fin (exs (Py.run fs Γ k) Γ b__law_bound [some (.val d0), some (.val d1), none, none] μ) := run_fin (fs := fs) (fn := p__law_bound.fn) rfl rfl
theorem u__law_region (k : Nat) (d0 d1 d2 d3 : D) (μ : Store) : Py.run fs Γ (k + 1) f__law_region [d0, d1, d2, d3] μ = fin (exs (Py.run fs Γ k) Γ b__law_region [some (.val d0), some (.val d1), some (.val d2), some (.val d3), none, none, none] μ) := run_fin (fs := fs) (fn := p__law_region.fn) rfl rfl
theorem u__law_in (k : Nat) (d0 d1 : D) (μ : Store) : Py.run fs Γ (k + 1) f__law_in [d0, d1] μ = fin (exs (Py.run fs Γ k) Γ b__law_in [some (.val d0), some (.val d1), none] μ) := run_fin (fs := fs) (fn := p__law_in.fn) rfl rfl
theorem u__law_points (k : Nat) (d0 d1 d2 : D) (μ : Store) : Py.run fs Γ (k + 1) f__law_points [d0, d1, d2] μ = fin (exs (Py.run fs Γ k) Γ b__law_points [some (.val d0), some (.val d1), some (.val d2), none, none] μ) := run_fin (fs := fs) (fn := p__law_points.fn) rfl rfl
theorem u__law_filled (k : Nat) (d0 : D) (μ : Store) : Py.run fs Γ (k + 1) f__law_filled [d0] μ = fin (exs (Py.run fs Γ k) Γ b__law_filled [some (.val d0), none, none] μ) := run_fin (fs := fs) (fn := p__law_filled.fn) rfl rfl
theorem u__law_all (k : Nat) (d0 d1 d2 : D) (μ : Store) : Py.run fs Γ (k + 1) f__law_all [d0, d1, d2] μ = fin (exs (Py.run fs Γ k) Γ b__law_all [some (.val d0), some (.val d1), some (.val d2), none, none, none, none, none, none, none, none, none, none] μ) := run_fin (fs := fs) (fn := p__law_all.fn) rfl rfl
theorem u__law_covers (k : Nat) (d0 d1 : D) (μ : Store) : Py.run fs Γ (k + 1) f__law_covers [d0, d1] μ = fin (exs (Py.run fs Γ k) Γ b__law_covers [some (.val d0), some (.val d1), none, none, none] μ) := run_fin (fs := fs) (fn := p__law_covers.fn) rfl rfl
theorem u__law_turned (k : Nat) (d0 : D) (μ : Store) : Py.run fs Γ (k + 1) f__law_turned [d0] μ = fin (exs (Py.run fs Γ k) Γ b__law_turned [some (.val d0), none] μ) := run_fin (fs := fs) (fn := p__law_turned.fn) rfl rfl
theorem u__law_met (k : Nat) (d0 d1 : D) (μ : Store) : Py.run fs Γ (k + 1) f__law_met [d0, d1] μ = fin (exs (Py.run fs Γ k) Γ b__law_met [some (.val d0), some (.val d1), none, none, none] μ) := run_fin (fs := fs) (fn := p__law_met.fn) rfl rfl
theorem u__law_taken (k : Nat) (d0 d1 : D) (μ : Store) : Py.run fs Γ (k + 1) f__law_taken [d0, d1] μ = fin (exs (Py.run fs Γ k) Γ b__law_taken [some (.val d0), some (.val d1), none, none, none, none, none, none, none, none] μ) := run_fin (fs := fs) (fn := p__law_taken.fn) rfl rfl
theorem u__law_lean (k : Nat) (d0 d1 : D) (μ : Store) : Py.run fs Γ (k + 1) f__law_lean [d0, d1] μ = fin (exs (Py.run fs Γ k) Γ b__law_lean [some (.val d0), some (.val d1), none, none, none] μ) := run_fin (fs := fs) (fn := p__law_lean.fn) rfl rfl
theorem u__law_slim (k : Nat) (d0 : D) (μ : Store) : Py.run fs Γ (k + 1) f__law_slim [d0] μ = fin (exs (Py.run fs Γ k) Γ b__law_slim [some (.val d0), none, none, none, none, none] μ) := run_fin (fs := fs) (fn := p__law_slim.fn) rfl rfl
theorem u__law_least (k : Nat) (d0 : D) (μ : Store) : Py.run fs Γ (k + 1) f__law_least [d0] μ = fin (exs (Py.run fs Γ k) Γ b__law_least [some (.val d0), none, none] μ) := run_fin (fs := fs) (fn := p__law_least.fn) rfl rfl
theorem u_law (k : Nat) (d0 : D) (μ : Store) : Py.run fs Γ (k + 1) f_law [d0] μ = fin (exs (Py.run fs Γ k) Γ b_law [some (.val d0), none, none, none, none, none, none, none] μ) := run_fin (fs := fs) (fn := p_law.fn) rfl rfl
end P1
end
section
set_option Elab.async false
set_option linter.all false
set_option maxRecDepth 100000
namespace P1
open PySem L2 Py Geo FM
theorem r_gcd {k : Nat} {μ : Store} (p q : Int) (h : 0 ≤ q) : Py.run fs Γ (k + 1) f_greatest_divisor [.int p, .int q] μ = some (.int (Int.gcd p q), μ) := by
  obtain ⟨r, h1, h2⟩ := gcd_loop (c := fun env' μ' => evT (Py.run fs Γ k) Γ (E.cmp .NotEq (E.slot 1) (E.int 0)) env' μ') (b := fun env' μ' => exs (Py.run fs Γ k) Γ l1_greatest_divisor env' μ') (μ := μ)
    (fun p q => by simp [getV]) (fun p q hq => by simp [l1_greatest_divisor, hq]) q.toNat p q h (Nat.le_refl _)
  rw [u_greatest_divisor, b_greatest_divisor]
  rw [exs_nx (by rw [ex]; exact h1)]
  simp [atI, ixN, SZ]
  omega
theorem r_ratio {k n : Nat} {μ : Store} (p q : Int) (h : q ≠ 0) (hq : q.natAbs < 2 ^ n) (hn : n ≤ 8999) : Py.run fs Γ (k + 2) f_ratio [.int p, .int q] μ = some (rD (Rat.divInt p q), μ) := by
  rw [u_ratio, b_ratio]
  by_cases h0 : q < 0
  · have hq' : (-q).natAbs < 2 ^ n := by omega
    have g := r_gcd (k := k) (μ := μ) (-p) (-q) (by omega)
    have hd := divOk_of (j := (Int.gcd (-p) (-q) : Int)) (b := n) (gcd_pos' (by omega)) (gcd_lt (by omega) hq') hn
    rw [← Rat.neg_divInt_neg, rD_divInt (by omega)]
    rw [Int.neg_gcd, Int.gcd_neg] at g hd ⊢
    simp [atI, ixN, SZ, h0, g, hd]
  · have g := r_gcd (k := k) (μ := μ) p q (by omega)
    have hd := divOk_of (j := (Int.gcd p q : Int)) (b := n) (gcd_pos' h) (gcd_lt h hq) hn
    rw [rD_divInt (by omega)]
    simp [atI, ixN, SZ, h0, g, hd]
theorem r_times {k a b : Nat} {μ : Store} (s t : Rat) (hs : Sz a s) (ht : Sz b t) (hn : a + b ≤ 8999) : Py.run fs Γ (k + 3) f_times [rD s, rD t] μ = some (rD (s * t), μ) := by
  have h1 := mulOk_of hs.1 ht.1 (by omega)
  have h2 := mulOk_of hs.den ht.den (by omega)
  have g := r_ratio (k := k) (μ := μ) (s.num * t.num) (s.den * t.den) (den_mul_ne s t) (abs_mul_lt hs.den ht.den) hn
  rw [mul_divInt] at g
  rw [u_times, b_times]
  unfold rD at g ⊢
  simp [atI, ixN, SZ, h1, h2, g]
theorem r_over {k a b : Nat} {μ : Store} (s t : Rat) (h0 : t ≠ 0) (hs : Sz a s) (ht : Sz b t) (hn : a + b ≤ 8999) : Py.run fs Γ (k + 3) f_over [rD s, rD t] μ = some (rD (s / t), μ) := by
  have h1 := mulOk_of hs.1 ht.den (by omega)
  have h2 := mulOk_of hs.den ht.1 (by omega)
  have g := r_ratio (k := k) (μ := μ) (s.num * t.den) (s.den * t.num) (Int.mul_ne_zero (den_ne s) (num_ne h0)) (abs_mul_lt hs.den ht.1) hn
  rw [div_divInt] at g
  rw [u_over, b_over]
  unfold rD at g ⊢
  simp [atI, ixN, SZ, h1, h2, g]
theorem r_added {k a b : Nat} {μ : Store} (s t : Rat) (hs : Sz a s) (ht : Sz b t) (hn : a + b + 1 ≤ 8999) : Py.run fs Γ (k + 3) f_added [rD s, rD t] μ = some (rD (s + t), μ) := by
  have h1 := mulOk_of hs.1 ht.den (by omega)
  have h2 := mulOk_of ht.1 hs.den (by omega)
  have h3 := mulOk_of hs.den ht.den (by omega)
  have g := r_ratio (k := k) (n := a + b) (μ := μ) (s.num * t.den + t.num * s.den) (s.den * t.den) (den_mul_ne s t) (abs_mul_lt hs.den ht.den) (by omega)
  rw [add_divInt] at g
  rw [u_added, b_added]
  unfold rD at g ⊢
  simp -implicitDefEqProofs [atI, ixN, szle, h1, h2, h3, g]
theorem rD_neg (t : Rat) : rD (-t) = .tup [.int (-t.num), .int t.den] := rD_neg' t
def sgn (s t : Rat) : Int := if s < t then -1 else if t < s then 1 else 0
theorem r_compare {k a b : Nat} {μ : Store} (s t : Rat) (hs : Sz a s) (ht : Sz b t) (hn : a + b ≤ 8999) : Py.run fs Γ (k + 1) f_compare [rD s, rD t] μ = some (.int (sgn s t), μ) := by
  have h1 := mulOk_of hs.1 ht.den (by omega)
  have h2 := mulOk_of ht.1 hs.den (by omega)
  have l1 : s < t ↔ s.num * t.den - t.num * s.den < 0 := by rw [Rat.lt_iff]; omega
  have l2 : t < s ↔ 0 < s.num * t.den - t.num * s.den := by rw [Rat.lt_iff]; omega
  rw [u_compare, b_compare, sgn]
  simp only [l1, l2]
  unfold rD
  generalize hq : s.num * t.den - t.num * s.den = q
  by_cases c1 : q < 0
  · simp -implicitDefEqProofs [atI, ixN, szle, h1, h2, hq, c1]
  · by_cases c2 : 0 < q
    · simp -implicitDefEqProofs [atI, ixN, szle, h1, h2, hq, c1, c2]
    · simp -implicitDefEqProofs [atI, ixN, szle, h1, h2, hq, c1, c2]
end P1
namespace P1
open PySem L2 Py Geo FM
theorem r_opposite {k : Nat} {μ : Store} (t : Rat) : Py.run fs Γ (k + 1) f_opposite [rD t] μ = some (rD (-t), μ) := by
  rw [u_opposite, b_opposite, rD_neg]
  unfold rD
  simp -implicitDefEqProofs [atI, ixN, szle]
theorem r_less {k a b : Nat} {μ : Store} (s t : Rat) (hs : Sz a s) (ht : Sz b t) (hn : a + b + 1 ≤ 8999) : Py.run fs Γ (k + 4) f_less [rD s, rD t] μ = some (rD (s - t), μ) := by
  have g1 := r_opposite (k := k + 2) (μ := μ) t
  have g2 := r_added (k := k) (μ := μ) s (-t) hs ht.neg hn
  rw [u_less, b_less, Rat.sub_eq_add_neg]
  simp -implicitDefEqProofs [g1, g2]
end P1
end
section
set_option Elab.async false
set_option linter.all false
set_option maxRecDepth 100000
namespace P1
open PySem L2 Py
/-! ### the deal -/
def RowOk (ns : List Int) : Prop := ∀ x ∈ ns, 0 ≤ x ∧ x < 1009
theorem RowOk.nil : RowOk [] := fun _ h => by cases h
theorem RowOk.app {ns : List Int} {x : Int} (h : RowOk ns) (h0 : 0 ≤ x) (h1 : x < 1009) : RowOk (ns ++ [x]) := fun y hy => by
  rcases List.mem_append.mp hy with hy | hy
  · exact h y hy
  · have : y = x := by simpa using hy
    subst this; exact ⟨h0, h1⟩
theorem fmod_lt (a b : Int) (h : 0 < b) : 0 ≤ a.fmod b ∧ a.fmod b < b := by
  rw [Int.fmod_eq_emod_of_nonneg a (Int.le_of_lt h)]
  exact ⟨Int.emod_nonneg a (by omega), Int.emod_lt_of_pos a h⟩
theorem d1009 : divOk 1009 = true := by decide +kernel
theorem d7 : divOk 7 = true := by decide +kernel
theorem d3 : divOk 3 = true := by decide +kernel
theorem lt_pow64 {i : Int} (h : i < 18446744073709551616) (h0 : -18446744073709551616 < i) : i.natAbs < 2 ^ 64 := by
  have : (2 : Nat) ^ 64 = 18446744073709551616 := by decide
  omega
theorem mul64 {i j : Int} (h1 : i < 18446744073709551616 ∧ -18446744073709551616 < i) (h2 : j < 18446744073709551616 ∧ -18446744073709551616 < j) : mulOk i j = true := mulOk_of (lt_pow64 h1.1 h1.2) (lt_pow64 h2.1 h2.2)
theorem rangeD_get {lo : Int} {n i : Nat} {d : D} (h : (rangeD lo n)[i]? = some d) : d = .int (lo + i) ∧ i < n := by
  unfold rangeD at h
  rw [List.getElem?_map] at h
  obtain ⟨j, h1, h2⟩ := Option.map_eq_some_iff.mp h
  obtain ⟨h3, h4⟩ := List.getElem?_eq_some_iff.mp h1
  rw [List.getElem_range] at h4
  subst h4
  exact ⟨h2.symm, by simpa using h3⟩
theorem rangeD_len {lo : Int} {n : Nat} : (rangeD lo n).length = n := by unfold rangeD; simp
theorem rngS_0 {n : Nat} (h : n ≤ 16777216) : rngS 0 (n : Int) = some (rangeD 0 n) := by
  unfold rngS
  rw [if_pos]
  · simp
  · simp [SZ]; omega
section
variable {Φ : FnS} {μ : Store}
theorem deal_l1 (s kd : D) (ns : List Int) (cell : Int) (x y : Option SV) (h0 : 0 ≤ cell) (hr : RowOk ns) (hl : ns.length ≤ 4000) :
    ∃ ns' cell' x', forS (T.nm 4) (fun env' μ' => exs Φ Γ l1__law_deal env' μ') (rangeD 0 40) [some (.val s), some (.own (ns.map D.int)), some (.val kd), some (.val (.int cell)), x, y] μ =
      some (.nx [some (.val s), some (.own (ns'.map D.int)), some (.val kd), some (.val (.int cell')), x', y] μ) ∧ RowOk ns' ∧ ns'.length ≤ ns.length + 40 := by
  obtain ⟨env', μ', h1, ns', cell', x', rfl, rfl, h2, h3, h4⟩ := forS_inv (t := T.nm 4) (b := fun env' μ' => exs Φ Γ l1__law_deal env' μ') (ds := rangeD 0 40) (env := [some (.val s), some (.own (ns.map D.int)), some (.val kd), some (.val (.int cell)), x, y]) (μ := μ)
    (fun i env m => ∃ ns' cell' x', env = [some (.val s), some (.own (ns'.map D.int)), some (.val kd), some (.val (.int cell')), x', y] ∧ m = μ ∧ RowOk ns' ∧ 0 ≤ cell' ∧ ns'.length ≤ ns.length + i)
    ⟨ns, cell, x, rfl, rfl, hr, h0, Nat.le_refl _⟩ (by
      rintro i env m d hd ⟨ns', cell', x', rfl, rfl, h2, h3, h4⟩
      obtain ⟨rfl, hi⟩ := rangeD_get hd
      have hz : ns'.length < 16777216 := by omega
      refine ⟨[some (.val s), some (.own (ns'.map D.int)), some (.val kd), some (.val (.int cell')), some (.val (.int (0 + (i : Nat)))), y], ?_⟩
      by_cases hc : 0 < cell'
      · refine ⟨[some (.val s), some (.own ((ns' ++ [cell'.fmod 1009]).map D.int)), some (.val kd), some (.val (.int (cell' / 1009))), some (.val (.int (0 + (i : Nat)))), y], m, by simp, .inl ?_, ns' ++ [cell'.fmod 1009], cell' / 1009, _, rfl, rfl, ?_, ?_, ?_⟩
        · simp [l1__law_deal, hc, SZ, hz, d1009]
        · exact h2.app (fmod_lt _ _ (by decide)).1 (fmod_lt _ _ (by decide)).2
        · exact Int.ediv_nonneg h3 (by decide)
        · simp; omega
      · refine ⟨[some (.val s), some (.own (ns'.map D.int)), some (.val kd), some (.val (.int cell')), some (.val (.int (0 + (i : Nat)))), y], m, by simp, .inl ?_, ns', cell', _, rfl, rfl, h2, h3, by omega⟩
        simp [l1__law_deal, hc])
  rw [rangeD_len] at h4
  exact ⟨ns', cell', x', h1, h2, h4⟩
theorem deal_l2 (s kd : D) (ns : List Int) (cell : Int) (x y : Option SV) (h0 : 0 ≤ cell) (hc : cell < 2 ^ 50) (hr : RowOk ns) (hl : ns.length ≤ 4000) :
    ∃ ns' cell' x', forS (T.nm 4) (fun env' μ' => exs Φ Γ l2__law_deal env' μ') (rangeD 0 5) [some (.val s), some (.own (ns.map D.int)), some (.val kd), some (.val (.int cell)), x, y] μ =
      some (.nx [some (.val s), some (.own (ns'.map D.int)), some (.val kd), some (.val (.int cell')), x', y] μ) ∧ RowOk ns' ∧ ns'.length ≤ ns.length + 40 := by
  obtain ⟨env', μ', h1, ns', cell', x', rfl, rfl, h2, h3, h4⟩ := forS_inv (t := T.nm 4) (b := fun env' μ' => exs Φ Γ l2__law_deal env' μ') (ds := rangeD 0 5) (env := [some (.val s), some (.own (ns.map D.int)), some (.val kd), some (.val (.int cell)), x, y]) (μ := μ)
    (fun i env m => ∃ ns' cell' x', env = [some (.val s), some (.own (ns'.map D.int)), some (.val kd), some (.val (.int cell')), x', y] ∧ m = μ ∧ RowOk ns' ∧ (0 ≤ cell' ∧ cell' < 2 ^ 50) ∧ ns'.length ≤ ns.length + i)
    ⟨ns, cell, x, rfl, rfl, hr, ⟨h0, hc⟩, Nat.le_refl _⟩ (by
      rintro i env m d hd ⟨ns', cell', x', rfl, rfl, h2, h3, h4⟩
      obtain ⟨rfl, hi⟩ := rangeD_get hd
      have hz : ns'.length < 16777216 := by omega
      have hm : mulOk cell' 16807 = true := mul64 (by omega) (by omega)
      generalize hc' : (cell' * 16807 + 12345 + (0 + (i : Nat) : Int)).fmod 2147483647 = c
      have hcr := fmod_lt (cell' * 16807 + 12345 + (0 + (i : Nat) : Int)) 2147483647 (by decide)
      rw [hc'] at hcr
      refine ⟨[some (.val s), some (.own (ns'.map D.int)), some (.val kd), some (.val (.int cell')), some (.val (.int (0 + (i : Nat)))), y], ?_⟩
      refine ⟨[some (.val s), some (.own ((ns' ++ [(c / 7).fmod 1009]).map D.int)), some (.val kd), some (.val (.int c)), some (.val (.int (0 + (i : Nat)))), y], m, by simp, .inl ?_, ns' ++ [(c / 7).fmod 1009], c, _, rfl, rfl, ?_, ?_, ?_⟩
      · simp [l2__law_deal, hm, SZ, hz, d7, ← hc']
      · exact h2.app (fmod_lt _ _ (by decide)).1 (fmod_lt _ _ (by decide)).2
      · exact ⟨hcr.1, by omega⟩
      · simp; omega)
  rw [rangeD_len] at h4
  exact ⟨ns', cell', x', h1, h2, by omega⟩
theorem deal_l3 (ms : List Int) (n : Nat) (hn : n ≤ ms.length) (hm : n ≤ 63) (a b c e : Option SV) :
    ∃ ns a' b' c', forS (T.nm 2) (fun env' μ' => exs Φ Γ l3__law_deal env' μ') (rangeD 0 n) [some (.val (.scr (ms.map D.int))), some (.own []), a, b, c, e] μ =
      some (.nx [some (.val (.scr (ms.map D.int))), some (.own (ns.map D.int)), a', b', c', e] μ) ∧ RowOk ns ∧ ns.length ≤ 40 * n := by
  obtain ⟨env', μ', h1, ns', a', b', c', rfl, rfl, h2, h3⟩ := forS_inv (t := T.nm 2) (b := fun env' μ' => exs Φ Γ l3__law_deal env' μ') (ds := rangeD 0 n) (env := [some (.val (.scr (ms.map D.int))), some (.own []), a, b, c, e]) (μ := μ)
    (fun i env m => ∃ ns' a' b' c', env = [some (.val (.scr (ms.map D.int))), some (.own (ns'.map D.int)), a', b', c', e] ∧ m = μ ∧ RowOk ns' ∧ ns'.length ≤ 40 * i)
    ⟨[], a, b, c, rfl, rfl, RowOk.nil, Nat.le_refl _⟩ (by
      rintro i env m d hd ⟨ns', a', b', c', rfl, rfl, h2, h3⟩
      obtain ⟨rfl, hi⟩ := rangeD_get hd
      have hlt : i < ms.length := by omega
      have hat : atI (ms.map D.int) (i : Int) = some (.int ms[i]) := by
        rw [atI_of (by simpa using hlt)]
        simp
      generalize hcell : (if ms[i] < 0 then -ms[i] else ms[i]) = cell
      have hc0 : 0 ≤ cell := by subst hcell; split <;> omega
      have hpow : (10 : Int) ^ (18 : Int).toNat = 1000000000000000000 := by decide
      by_cases hbig : (1000000000000000000 : Int) ≤ cell
      · obtain ⟨ns2, cell2, x2, g1, g2, g3⟩ := deal_l1 (Φ := Φ) (μ := m) (.scr (ms.map D.int)) (.int (0 + (i : Nat))) ns' cell c' e hc0 h2 (by omega)
        refine ⟨[some (.val (.scr (ms.map D.int))), some (.own (ns'.map D.int)), some (.val (.int (0 + (i : Nat)))), b', c', e], [some (.val (.scr (ms.map D.int))), some (.own (ns2.map D.int)), some (.val (.int (0 + (i : Nat)))), some (.val (.int cell2)), x2, e], m, by simp, .inl ?_, ns2, _, _, x2, rfl, rfl, g2, by omega⟩
        · simp only [l3__law_deal]
          simp [hat, hcell, binS, hbig, ex_for]
          rw [show rngS 0 40 = some (rangeD 0 40) from rngS_0 (n := 40) (by decide)]
          simp only [Int.zero_add] at g1
          simp [g1]
      · generalize hc2 : cell.fmod 2147483629 * 48271 + (i : Int) * 69621 + 11 = c2
        have hr1 := fmod_lt cell 2147483629 (by decide)
        have hm1 : mulOk (cell.fmod 2147483629) 48271 = true := mul64 (by omega) (by omega)
        have hm2 : mulOk (i : Int) 69621 = true := mul64 (by omega) (by omega)
        obtain ⟨ns2, cell2, x2, g1, g2, g3⟩ := deal_l2 (Φ := Φ) (μ := m) (.scr (ms.map D.int)) (.int (0 + (i : Nat))) ns' c2 c' e (by omega) (by omega) h2 (by omega)
        refine ⟨[some (.val (.scr (ms.map D.int))), some (.own (ns'.map D.int)), some (.val (.int (0 + (i : Nat)))), b', c', e], [some (.val (.scr (ms.map D.int))), some (.own (ns2.map D.int)), some (.val (.int (0 + (i : Nat)))), some (.val (.int cell2)), x2, e], m, by simp, .inl ?_, ns2, _, _, x2, rfl, rfl, g2, by omega⟩
        · simp only [l3__law_deal]
          simp [hat, hcell, binS, hbig, ex_for, hm1, hm2, hc2]
          rw [show rngS 0 5 = some (rangeD 0 5) from rngS_0 (n := 5) (by decide)]
          simp only [Int.zero_add] at g1
          simp [g1])
  rw [rangeD_len] at h3
  exact ⟨ns', a', b', c', h1, h2, h3⟩
end
end P1
end
section
set_option Elab.async false
set_option linter.all false
set_option maxRecDepth 100000
namespace P1
open PySem L2 Py
theorem asInts_map (ns : List Int) : asInts (ns.map D.int) = some ns := by
  induction ns with
  | nil => rfl
  | cons x xs ih => simp [asInts, ih]
theorem RowOk.sum {ns : List Int} (h : RowOk ns) : 0 ≤ ns.sum ∧ ns.sum ≤ 1009 * ns.length := by
  induction ns with
  | nil => simp
  | cons x xs ih =>
    have h1 := h x (by simp)
    have h2 := ih (fun y hy => h y (by simp [hy]))
    simp only [List.sum_cons, List.length_cons]
    omega
/-- a deal -/
def dealD (ns : List Int) (t : Int) : D := .lst [.lst (ns.map D.int), .mr 0, .int t]
def DealOk (ns : List Int) (t : Int) : Prop := RowOk ns ∧ ns.length ≤ 4000 ∧ 0 ≤ t ∧ t ≤ 10000000
theorem r_deal {k : Nat} (ms : List Int) (hm : ms.length ≤ 63) : ∃ ns t, DealOk ns t ∧ Py.run fs Γ (k + 1) f__law_deal [.scr (ms.map D.int)] [] = some (dealD ns t, [[.int 0]]) := by
  obtain ⟨ns, a', b', c', h1, h2, h3⟩ := deal_l3 (Φ := Py.run fs Γ k) (μ := []) ms ms.length (Nat.le_refl _) hm none none none none
  have hs := h2.sum
  refine ⟨ns, ns.sum + ms.length, ⟨h2, by omega, by omega, by omega⟩, ?_⟩
  rw [u__law_deal, b__law_deal]
  have hr := rngS_0 (n := ms.length) (by omega)
  have hmin : ¬ (63 : Int) < ms.length := by omega
  simp -implicitDefEqProofs [ex_for, szle, hmin, hr, h1, asInts_map, dealD]
theorem r_take {k a : Nat} (ns : List Int) (t m : Int) (h : DealOk ns t) (hm : 0 < m) (ha : a < 100000) : ∃ r : Int, 0 ≤ r ∧ r < m ∧ Py.run fs Γ (k + 1) f__law_take [dealD ns t, .int m] (Sa a) = some (.int r, Sa (a + 1)) := by
  rw [u__law_take, b__law_take]
  obtain ⟨h1, h2, h3, h4⟩ := h
  unfold dealD Sa
  have hm' : m ≠ 0 := by omega
  by_cases hlt : a < ns.length
  · refine ⟨ns[a].fmod m, (fmod_lt _ _ hm).1, (fmod_lt _ _ hm).2, ?_⟩
    simp -implicitDefEqProofs [atI, ixN, hlt, hm']
  · have m1 : mulOk (a : Int) 7919 = true := mul64 (by omega) (by omega)
    have m2 : mulOk t 31 = true := mul64 (by omega) (by omega)
    have m3 : mulOk (a : Int) a = true := mul64 (by omega) (by omega)
    have hsq : ((a : Int) * a) ≤ 100000 * 100000 := Int.mul_le_mul (by omega) (by omega) (by omega) (by omega)
    have hsq0 : 0 ≤ ((a : Int) * a) := Int.mul_nonneg (by omega) (by omega)
    have m4 : mulOk ((a : Int) * a) 17 = true := mul64 (by omega) (by omega)
    refine ⟨((((a : Int) * 7919 + t * 31 + (a : Int) * a * 17) / 3)).fmod m, (fmod_lt _ _ hm).1, (fmod_lt _ _ hm).2, ?_⟩
    simp -implicitDefEqProofs [atI, ixN, hlt, hm', m1, m2, m3, m4, d3]
/-! ratios reckoned by Euclid in so many turns -/
theorem half {a b : Int} (ha : 0 < a) (hab : a ≤ b) : b % a * 2 < b := by
  have h1 := Int.emod_lt_of_pos b ha
  have h2 := Int.emod_add_mul_ediv b a
  have h3 : 1 ≤ b / a := by
    have := Int.ediv_le_ediv ha hab
    rwa [Int.ediv_self (by omega)] at this
  have h4 : a * 1 ≤ a * (b / a) := Int.mul_le_mul_of_nonneg_left h3 (by omega)
  omega
theorem ratio_loop {Φ : FnS} {μ : Store} (p q : D) : ∀ (n : Nat) (ds : List D) (a b : Int) (x : Option SV), 0 ≤ a → a ≤ b → 0 < b → a * b < 2 ^ n → n < ds.length →
    ∃ x', forS (T.nm 4) (fun env' μ' => exs Φ Γ l1__law_ratio env' μ') ds [some (.val p), some (.val q), some (.val (.int a)), some (.val (.int b)), x] μ =
      some (.nx [some (.val p), some (.val q), some (.val (.int 0)), some (.val (.int (Int.gcd a b))), x'] μ)
  | n, [], _, _, _, _, _, _, _, h => by simp at h
  | n, d :: ds, a, b, x, h0, hab, hb, hp, hl => by
    by_cases ha : a = 0
    · subst ha
      refine ⟨some (.val d), ?_⟩
      rw [forS_bk (env1 := [some (.val p), some (.val q), some (.val (.int 0)), some (.val (.int b)), some (.val d)]) (env' := [some (.val p), some (.val q), some (.val (.int 0)), some (.val (.int b)), some (.val d)]) (μ' := μ) (by simp) (by simp -implicitDefEqProofs [l1__law_ratio])]
      simp; omega
    · have hpos : 0 < a := by omega
      match n, hp, hl with
      | 0, hp, hl =>
        have : 1 * 1 ≤ a * b := Int.mul_le_mul (by omega) (by omega) (by omega) (by omega)
        simp at hp; omega
      | n + 1, hp, hl =>
        have e : b.fmod a = b % a := Int.fmod_eq_emod_of_nonneg b h0
        have h1 := half hpos hab
        have h2 := Int.emod_lt_of_pos b hpos
        have h3 := Int.emod_nonneg b ha
        have h4 : (b % a * 2) * a < b * a := Int.mul_lt_mul_of_pos_right h1 hpos
        have h5 : b % a * a < 2 ^ n := by
          rw [Int.pow_succ] at hp
          have : a * b = b * a := Int.mul_comm a b
          have : b % a * 2 * a = b % a * a * 2 := by rw [Int.mul_assoc, Int.mul_comm 2 a, Int.mul_assoc]
          omega
        obtain ⟨x', hx⟩ := ratio_loop (Φ := Φ) (μ := μ) p q n ds (b % a) a (some (.val d)) h3 (by omega) hpos h5 (by simpa using hl)
        refine ⟨x', ?_⟩
        rw [forS_go (env1 := [some (.val p), some (.val q), some (.val (.int a)), some (.val (.int b)), some (.val d)]) (env' := [some (.val p), some (.val q), some (.val (.int (b % a))), some (.val (.int a)), some (.val d)]) (μ' := μ) (by simp) (by simp -implicitDefEqProofs [l1__law_ratio, ha, e]), hx]
        have := gcd_fmod b a hpos
        rw [e] at this
        rw [Int.gcd_comm (b % a) a, this, Int.gcd_comm b a]
theorem ratio_loop' {Φ : FnS} {μ : Store} (p q : D) (n : Nat) (ds : List D) (a b : Int) (x : Option SV) (h0 : 0 ≤ a) (hb : 0 < b) (hp : a * b < 2 ^ n) (hl : n + 1 < ds.length) :
    ∃ x', forS (T.nm 4) (fun env' μ' => exs Φ Γ l1__law_ratio env' μ') ds [some (.val p), some (.val q), some (.val (.int a)), some (.val (.int b)), x] μ =
      some (.nx [some (.val p), some (.val q), some (.val (.int 0)), some (.val (.int (Int.gcd a b))), x'] μ) := by
  by_cases h : a ≤ b
  · exact ratio_loop p q n ds a b x h0 h hb hp (by omega)
  · match ds, hl with
    | d :: ds, hl =>
      have hpos : 0 < a := by omega
      have ha : a ≠ 0 := by omega
      have e : b.fmod a = b := by rw [Int.fmod_eq_emod_of_nonneg b h0]; exact Int.emod_eq_of_lt (by omega) (by omega)
      obtain ⟨x', hx⟩ := ratio_loop (Φ := Φ) (μ := μ) p q n ds b a (some (.val d)) (by omega) (by omega) hpos (by rw [Int.mul_comm]; exact hp) (by simpa using hl)
      refine ⟨x', ?_⟩
      rw [forS_go (env1 := [some (.val p), some (.val q), some (.val (.int a)), some (.val (.int b)), some (.val d)]) (env' := [some (.val p), some (.val q), some (.val (.int b)), some (.val (.int a)), some (.val d)]) (μ' := μ) (by simp) (by simp -implicitDefEqProofs [l1__law_ratio, ha, e]), hx]
      rw [Int.gcd_comm b a]
theorem prod_lt {a b : Int} {n : Nat} (ha : a.natAbs < 2 ^ n) (hb : b.natAbs < 2 ^ n) (h0 : 0 ≤ a) (h1 : 0 ≤ b) : a * b < 2 ^ (n + n) := by
  have h := abs_mul_lt ha hb
  have h2 : 0 ≤ a * b := Int.mul_nonneg h0 h1
  have h3 : ((2 ^ (n + n) : Nat) : Int) = 2 ^ (n + n) := by simp
  omega
theorem r_lratio {k n : Nat} {μ : Store} (p q : Int) (h : q ≠ 0) (hp : p.natAbs < 2 ^ n) (hq : q.natAbs < 2 ^ n) (hn : n ≤ 8999) : Py.run fs Γ (k + 1) f__law_ratio [.int p, .int q] μ = some (rD (Rat.divInt p q), μ) := by
  rw [u__law_ratio, b__law_ratio]
  have hr : rngS 0 (100000 : Int) = some (rangeD 0 100000) := rngS_0 (n := 100000) (by decide)
  have hrl : (rangeD 0 100000).length = 100000 := rangeD_len
  generalize rangeD 0 100000 = ds at hr hrl
  have hab : ∀ p : Int, (if p < 0 then -p else p).natAbs = p.natAbs := fun p => by split <;> omega
  have hge : ∀ p : Int, 0 ≤ (if p < 0 then -p else p) := fun p => by split <;> omega
  have hgc : ∀ p q : Int, Int.gcd (if p < 0 then -p else p) q = Int.gcd p q := fun p q => by split <;> simp
  by_cases h0 : q < 0
  · have hq' : (-q).natAbs < 2 ^ n := by omega
    have hp' : (-p).natAbs < 2 ^ n := by omega
    have hd := divOk_of (j := (Int.gcd (-p) (-q) : Int)) (b := n) (gcd_pos' (by omega)) (gcd_lt (by omega) hq') hn
    obtain ⟨x', hx⟩ := ratio_loop' (Φ := Py.run fs Γ k) (μ := μ) (.int (-p)) (.int (-q)) (n + n) ds (if -p < 0 then - -p else -p) (-q) none (hge _) (by omega) (prod_lt (by rw [hab]; exact hp') hq' (hge _) (by omega)) (by omega)
    rw [hgc] at hx
    have e : (if -p < 0 then - -p else -p) = if 0 < p then p else -p := by split <;> split <;> omega
    rw [e] at hx
    rw [← Rat.neg_divInt_neg, rD_divInt (by omega)]
    generalize (Int.gcd (-p) (-q) : Int) = g at *
    simp -implicitDefEqProofs [ex_for, h0, hr, hx, hd, szle]
  · have hd := divOk_of (j := (Int.gcd p q : Int)) (b := n) (gcd_pos' h) (gcd_lt h hq) hn
    obtain ⟨x', hx⟩ := ratio_loop' (Φ := Py.run fs Γ k) (μ := μ) (.int p) (.int q) (n + n) ds (if p < 0 then -p else p) q none (hge _) (by omega) (prod_lt (by rw [hab]; exact hp) hq (hge _) (by omega)) (by omega)
    rw [hgc] at hx
    rw [rD_divInt (by omega)]
    generalize (Int.gcd p q : Int) = g at *
    simp -implicitDefEqProofs [ex_for, h0, hr, hx, hd, szle]
theorem r_lplus {k a b n : Nat} {μ : Store} (s t : Rat) (hs : Sz a s) (ht : Sz b t) (hab : a + b + 1 ≤ n) (hn : n ≤ 8999) : Py.run fs Γ (k + 2) f__law_plus [rD s, rD t] μ = some (rD (s + t), μ) := by
  have h1 := mulOk_of hs.1 ht.den (by omega)
  have h2 := mulOk_of ht.1 hs.den (by omega)
  have h3 := mulOk_of hs.den ht.den (by omega)
  have g := r_lratio (k := k) (n := a + b + 1) (μ := μ) (s.num * t.den + t.num * s.den) (s.den * t.den) (den_mul_ne s t) (abs_add_lt (abs_mul_lt hs.1 ht.den) (by rw [Nat.add_comm]; exact abs_mul_lt ht.1 hs.den)) (Nat.lt_of_lt_of_le (abs_mul_lt hs.den ht.den) (Nat.pow_le_pow_right (by decide) (by omega))) (by omega)
  rw [add_divInt] at g
  rw [u__law_plus, b__law_plus]
  unfold rD at g ⊢
  simp -implicitDefEqProofs [atI, ixN, szle, h1, h2, h3, g]
theorem r_lmult {k a b n : Nat} {μ : Store} (s t : Rat) (hs : Sz a s) (ht : Sz b t) (hab : a + b ≤ n) (hn : n ≤ 8999) : Py.run fs Γ (k + 2) f__law_mult [rD s, rD t] μ = some (rD (s * t), μ) := by
  have h1 := mulOk_of hs.1 ht.1 (by omega)
  have h2 := mulOk_of hs.den ht.den (by omega)
  have g := r_lratio (k := k) (n := a + b) (μ := μ) (s.num * t.num) (s.den * t.den) (den_mul_ne s t) (abs_mul_lt hs.1 ht.1) (abs_mul_lt hs.den ht.den) (by omega)
  rw [mul_divInt] at g
  rw [u__law_mult, b__law_mult]
  unfold rD at g ⊢
  simp -implicitDefEqProofs [atI, ixN, szle, h1, h2, g]
end P1
end
section
set_option Elab.async false
set_option linter.all false
set_option maxRecDepth 100000
namespace P1
open PySem L2 Py Geo
/-! ### the same -/
theorem same_l1 {Φ : FnS} {μ : Store} (D1 : D) (ds : List D) (hD : itsS μ D1 = some ds) (x : Option SV) (h : ∀ d ∈ ds, Φ f__law_same [d, d] μ = some (.bl true, μ)) :
    ∃ x', forS (T.nm 2) (fun env' μ' => exs Φ Γ l1__law_same env' μ') (rangeD 0 ds.length) [some (.val D1), some (.val D1), x] μ = some (.nx [some (.val D1), some (.val D1), x'] μ) := by
  obtain ⟨env', μ', h1, x', rfl, rfl⟩ := forS_inv (t := T.nm 2) (b := fun env' μ' => exs Φ Γ l1__law_same env' μ') (ds := rangeD 0 ds.length) (env := [some (.val D1), some (.val D1), x]) (μ := μ)
    (fun i env m => ∃ x', env = [some (.val D1), some (.val D1), x'] ∧ m = μ) ⟨x, rfl, rfl⟩ (by
      rintro i env m d hd ⟨x', rfl, rfl⟩
      obtain ⟨rfl, hi⟩ := rangeD_get hd
      have hat : atI ds (i : Int) = some ds[i] := atI_of hi
      have hs := h ds[i] (List.getElem_mem hi)
      refine ⟨[some (.val D1), some (.val D1), some (.val (.int (0 + (i : Nat))))], [some (.val D1), some (.val D1), some (.val (.int (0 + (i : Nat))))], m, by simp, .inl ?_, _, rfl, rfl⟩
      simp -implicitDefEqProofs [l1__law_same, hat, hs, hD])
  exact ⟨x', h1⟩
theorem r_same {μ : Store} : ∀ (n k : Nat) (d : D), pln n d = true → Py.run fs Γ (k + n + 1) f__law_same [d, d] μ = some (.bl true, μ)
  | n, k, .int i, _ => by
    rw [u__law_same, b__law_same]
    simp -implicitDefEqProofs
  | n, k, .bl i, _ => by
    rw [u__law_same, b__law_same]
    simp -implicitDefEqProofs
  | n, k, .non, _ => by
    rw [u__law_same, b__law_same]
    simp -implicitDefEqProofs
  | 0, _, .tup _, h => by simp [pln] at h
  | 0, _, .lst _, h => by simp [pln] at h
  | 0, _, .str _, h => by simp [pln] at h
  | _ + 1, _, .str _, h => by simp [pln] at h
  | 0, _, .mr _, h => by simp [pln] at h
  | _ + 1, _, .mr _, h => by simp [pln] at h
  | 0, _, .rg _ _, h => by simp [pln] at h
  | _ + 1, _, .rg _ _, h => by simp [pln] at h
  | 0, _, .dk _ _, h => by simp [pln] at h
  | _ + 1, _, .dk _ _, h => by simp [pln] at h
  | 0, _, .scr _, h => by simp [pln] at h
  | _ + 1, _, .scr _, h => by simp [pln] at h
  | n + 1, k, .tup ds, h => by
    rw [pln, Bool.and_eq_true, decide_eq_true_iff, List.all_eq_true] at h
    obtain ⟨x', hx⟩ := same_l1 (Φ := Py.run fs Γ (k + n + 1)) (μ := μ) (.tup ds) ds rfl none (fun d hd => r_same n k d (h.2 d hd))
    have hr := rngS_0 (n := ds.length) (by omega)
    rw [u__law_same, b__law_same]
    simp -implicitDefEqProofs [ex_for, hr, hx, ← Nat.add_assoc]
  | n + 1, k, .lst ds, h => by
    rw [pln, Bool.and_eq_true, decide_eq_true_iff, List.all_eq_true] at h
    obtain ⟨x', hx⟩ := same_l1 (Φ := Py.run fs Γ (k + n + 1)) (μ := μ) (.lst ds) ds rfl none (fun d hd => r_same n k d (h.2 d hd))
    have hr := rngS_0 (n := ds.length) (by omega)
    rw [u__law_same, b__law_same]
    simp -implicitDefEqProofs [ex_for, hr, hx, ← Nat.add_assoc]
end P1
end
section
set_option Elab.async false
set_option linter.all false
set_option maxRecDepth 100000
set_option maxHeartbeats 0
namespace Geo
open PySem L2 Py FM
section
variable {k b n i : Nat} {μ : Store}
def rowD (R : Rw) : D := .tup [.lst (R.f.map rD), rD R.r, .bl R.s, .lst (R.w.map rD)]
def RSz (b : Nat) (R : Rw) : Prop := (∀ a ∈ R.f, Sz b a) ∧ Sz b R.r ∧ ∀ a ∈ R.w, Sz b a
theorem sz_absR {b : Nat} {t : Rat} (h : Sz b t) : Sz b (absR t) := by
  unfold absR; split
  · exact h
  · exact h.neg
theorem RSz.mono {b c : Nat} {R : Rw} (h : RSz b R) (hb : b ≤ c) : RSz c R := ⟨fun a ha => (h.1 a ha).mono hb, h.2.1.mono hb, fun a ha => (h.2.2 a ha).mono hb⟩
theorem RSz.scale {b c : Nat} {R : Rw} {t : Rat} (h : RSz b R) (ht : Sz c t) : RSz (c + b) (R.scale t) := by
  refine ⟨fun a ha => ?_, ht.mul h.2.1, fun a ha => ?_⟩
  · obtain ⟨y, hy, rfl⟩ := List.mem_map.mp ha; exact ht.mul (h.1 y hy)
  · obtain ⟨y, hy, rfl⟩ := List.mem_map.mp ha; exact ht.mul (h.2.2 y hy)
theorem scale_one (R : Rw) : R.scale 1 = R := by
  unfold Rw.scale
  have : ∀ l : List Rat, l.map ((1 : Rat) * ·) = l := fun l => by
    induction l with
    | nil => rfl
    | cons a l ih => rw [List.map_cons, ih, Rat.one_mul]
  rw [this, this, Rat.one_mul]
theorem zip_map (f g : List Rat) : zipD (f.map rD) (g.map rD) = (f.zip g).map fun p => .tup [rD p.1, rD p.2] := by
  induction f generalizing g with
  | nil => rfl
  | cons a f ih =>
    cases g with
    | nil => rfl
    | cons b g => rw [List.map_cons, List.map_cons, zipD_cons, ih]; rfl
theorem addL_zip : ∀ f g : List Rat, addL f g = (f.zip g).map fun p => p.1 + p.2
  | [], _ => by simp [addL]
  | _ :: _, [] => by simp [addL]
  | a :: f, b :: g => by simp [addL, addL_zip f g]
theorem mem_addL {f g : List Rat} {x : Rat} (h : x ∈ addL f g) : ∃ a ∈ f, ∃ b ∈ g, x = a + b := by
  rw [addL_zip] at h
  obtain ⟨p, hp, rfl⟩ := List.mem_map.mp h
  obtain ⟨h1, h2⟩ := List.of_mem_zip (a := p.1) (b := p.2) hp
  exact ⟨p.1, h1, p.2, h2, rfl⟩
theorem RSz.sum {b c : Nat} {R S : Rw} (h : RSz b R) (h' : RSz c S) : RSz (b + c + 1) (R.sum S) := by
  refine ⟨fun x hx => ?_, h.2.1.add h'.2.1, fun x hx => ?_⟩
  · obtain ⟨a, ha, y, hy, rfl⟩ := mem_addL hx; exact (h.1 a ha).add (h'.1 y hy)
  · obtain ⟨a, ha, y, hy, rfl⟩ := mem_addL hx; exact (h.2.2 a ha).add (h'.2.2 y hy)
theorem firstNZ_some {f : List Rat} {t : Rat} (h : firstNZ f = some t) : t ≠ 0 ∧ t ∈ f := by
  have h1 := List.find?_some h
  exact ⟨by simpa using h1, List.mem_of_find?_eq_some h⟩
theorem RSz.even {b : Nat} {R : Rw} (h : RSz b R) (hb : 0 < b) : RSz (2 * b + 1 + b) R.even := by
  unfold Rw.even
  split
  · exact h.mono (by omega)
  · rename_i t ht
    obtain ⟨h1, h2⟩ := firstNZ_some ht
    have ha := absR_pos h1
    have h3 : Sz (1 + b) (1 / absR t) := (sz_one (b := 1) (by decide)).div (sz_absR (h.1 t h2)) (by grind)
    exact (h.scale h3).mono (by omega)
def kR (r : Rat) : NestedKey := .tup [.num r.num, .num r.den]
def kOf (f : List Rat) : NestedKey := .tup (f.map kR)
theorem keyNs_map : ∀ f : List Rat, keyNs (f.map rD) = some (f.map kR)
  | [] => rfl
  | a :: f => by
    rw [List.map_cons, keyNs, keyNs_map f]
    have : keyN (rD a) = some (kR a) := by
      unfold rD kR
      simp [keyN, keyNs]
    rw [this]
    rfl
theorem depth_kR : ∀ f : List Rat, NestedKey.depthAll (f.map kR) ≤ 4
  | [] => by simp [NestedKey.depthAll]
  | a :: f => by
    have := depth_kR f
    simp only [List.map_cons, NestedKey.depthAll, kR, NestedKey.depth] at this ⊢
    omega
theorem keyS_map (f : List Rat) : keyS (.tup (f.map rD)) = some (kOf f) := by
  unfold keyS
  dsimp only
  rw [keyN, keyNs_map]
  simp only [Option.map_some, Option.bind_some]
  rw [if_pos]
  · rfl
  · have := depth_kR f
    simp only [NestedKey.depth]
    omega
theorem kR_inj {a b : Rat} (h : kR a = kR b) : a = b := by
  unfold kR at h
  simp only [NestedKey.tup.injEq, List.cons.injEq, NestedKey.num.injEq, and_true] at h
  exact Rat.ext h.1 (by exact_mod_cast h.2)
theorem kOf_inj : ∀ {f g : List Rat}, kOf f = kOf g → f = g := by
  intro f g h
  unfold kOf at h
  rw [NestedKey.tup.injEq] at h
  induction f generalizing g with
  | nil => cases g with
    | nil => rfl
    | cons b g => simp at h
  | cons a f ih => cases g with
    | nil => simp at h
    | cons b g =>
      simp only [List.map_cons, List.cons.injEq] at h
      rw [kR_inj h.1, ih h.2]
def dctOf (kvs : List (List Rat × Rw)) : List (NestedKey × D) := kvs.map fun p => (kOf p.1, rowD p.2)
theorem dAt_of (f : List Rat) : ∀ kvs : List (List Rat × Rw), dAtS (dctOf kvs) (kOf f) = (look kvs f).map rowD
  | [] => rfl
  | p :: kvs => by
    have ih := dAt_of f kvs
    by_cases e : p.1 = f
    · simp [dctOf, dAtS, look, e]
    · have e2 : ¬ kOf p.1 = kOf f := fun z => e (kOf_inj z)
      simp only [dctOf, dAtS, look, List.map_cons, List.find?_cons, e, e2, decide_false] at ih ⊢
      exact ih
theorem dPut_of (f : List Rat) (R : Rw) (kvs : List (List Rat × Rw)) : dPutS (dctOf kvs) (kOf f) (rowD R) = dctOf (put kvs f R) := by
  unfold dPutS put
  rw [dAt_of, Option.isSome_map]
  split
  · unfold dctOf
    rw [List.map_map, List.map_map]
    refine List.map_congr_left fun p _ => ?_
    simp only [Function.comp]
    by_cases e : p.1 = f
    · rw [if_pos e, if_pos (by rw [e])]
    · rw [if_neg e, if_neg (fun z => e (kOf_inj z))]
  · unfold dctOf; simp
theorem put_length (kvs : List (List Rat × Rw)) (k : List Rat) (R : Rw) : (put kvs k R).length ≤ kvs.length + 1 := by
  unfold put; split <;> simp
theorem sStep_length (kvs : List (List Rat × Rw)) (row : Rw) : (sStep kvs row).length ≤ kvs.length + 1 := by
  unfold sStep
  dsimp only
  split
  · omega
  · split
    · exact put_length _ _ _
    · split
      · omega
      · exact put_length _ _ _
def Rok (b : Nat) (R : Rw) : Prop := RSz b R ∧ R.f.length ≤ 1000 ∧ R.w.length ≤ 1000
theorem Rok.even {b : Nat} {R : Rw} (h : Rok b R) (hb : 0 < b) : Rok (2 * b + 1 + b) R.even := by
  refine ⟨h.1.even hb, by rw [even_length]; exact h.2.1, ?_⟩
  unfold Rw.even
  split
  · exact h.2.2
  · simp [Rw.scale, h.2.2]
theorem sStep_mem {P : Rw → Prop} {kvs : List (List Rat × Rw)} {row : Rw} (he : P row.even) (h : ∀ p ∈ kvs, P p.2) : ∀ p ∈ sStep kvs row, P p.2 := by
  intro p hp
  unfold sStep at hp
  dsimp only at hp
  split at hp
  · exact h p hp
  · split at hp
    · rcases mem_put hp with e | ⟨e, _⟩
      · rw [e]; exact he
      · exact h p e
    · split at hp
      · exact h p hp
      · rcases mem_put hp with e | ⟨e, _⟩
        · rw [e]; exact he
        · exact h p e
def pairR (i : Nat) (one other : Rw) : Rw := (one.scale (1 / one.at i)).sum (other.scale (1 / -(other.at i)))
theorem at_get {R : Rw} {i : Nat} (h : i < R.f.length) : atI (R.f.map rD) (i : Int) = some (rD (R.at i)) := by
  rw [atI_of (by simpa using h)]
  simp [Rw.at, List.getD_eq_getElem?_getD, List.getElem?_eq_getElem h]
theorem sz_at {b : Nat} {R : Rw} {i : Nat} (h : RSz b R) (hi : i < R.f.length) : Sz b (R.at i) := by
  have : R.at i = R.f[i] := by simp [Rw.at, List.getD_eq_getElem?_getD, List.getElem?_eq_getElem hi]
  rw [this]
  exact h.1 _ (List.getElem_mem hi)
theorem Rok.scale {b c : Nat} {R : Rw} {t : Rat} (h : Rok b R) (ht : Sz c t) : Rok (c + b) (R.scale t) := ⟨h.1.scale ht, by simp [Rw.scale, h.2.1], by simp [Rw.scale, h.2.2]⟩
theorem Rok.sum {b c : Nat} {R S : Rw} (h : Rok b R) (h' : Rok c S) : Rok (b + c + 1) (R.sum S) := by
  refine ⟨h.1.sum h'.1, ?_, ?_⟩
  · show (addL R.f S.f).length ≤ 1000
    rw [addL_zip, List.length_map, List.length_zip]; have := h.2.1; omega
  · show (addL R.w S.w).length ≤ 1000
    rw [addL_zip, List.length_map, List.length_zip]; have := h.2.2; omega
theorem Rok.mono {b c : Nat} {R : Rw} (h : Rok b R) (hb : b ≤ c) : Rok c R := ⟨h.1.mono hb, h.2⟩
theorem Rok.pair {b i : Nat} {R S : Rw} (h : Rok b R) (h' : Rok b S) (hR : 0 < R.at i) (hS : S.at i < 0) (iR : i < R.f.length) (iS : i < S.f.length) : Rok (4 * b + 3) (pairR i R S) := by
  have z1 := (sz_one (b := 1) (by decide)).div (sz_at h.1 iR) (by grind)
  have z2 := (sz_one (b := 1) (by decide)).div (sz_at h'.1 iS).neg (by grind)
  exact ((h.scale z1).sum (h'.scale z2)).mono (by omega)
theorem elimL_map (rows : List Rw) : (elimL i rows).map rowD = (rows.filter fun R => decide (R.at i = 0)).map rowD ++ (rows.filter fun R => decide (0 < R.at i)).flatMap fun one => (rows.filter fun R => decide (R.at i < 0)).map fun S => rowD (pairR i one S) := by
  unfold elimL
  rw [List.map_append, List.map_flatMap]
  congr 1
  congr 1
  funext one
  rw [List.map_map]
  rfl
theorem elimL_ok (rows : List Rw) (hr : ∀ R ∈ rows, Rok b R ∧ i < R.f.length) : ∀ R ∈ elimL i rows, Rok (4 * b + 3) R := by
  intro R hR
  unfold elimL at hR
  rcases List.mem_append.mp hR with hR | hR
  · exact ((hr R (List.mem_filter.mp hR).1).1).mono (by omega)
  · obtain ⟨S, hS, hR⟩ := List.mem_flatMap.mp hR
    obtain ⟨T, hT, rfl⟩ := List.mem_map.mp hR
    obtain ⟨s1, s2⟩ := List.mem_filter.mp hS
    obtain ⟨t1, t2⟩ := List.mem_filter.mp hT
    exact Rok.pair (hr S s1).1 (hr T t1).1 (by simpa using s2) (by simpa using t2) (hr S s1).2 (hr T t1).2
theorem elimL_length (rows : List Rw) (hl : rows.length ≤ 1000) : (elimL i rows).length < 16777216 := by
  have h := congrArg List.length (elimL_map (i := i) rows)
  rw [List.length_map] at h
  rw [h, List.length_append, List.length_map]
  have h1 : (rows.filter fun R => decide (R.at i = 0)).length ≤ rows.length := List.length_filter_le _ _
  have h2 : (rows.filter fun R => decide (0 < R.at i)).length ≤ rows.length := List.length_filter_le _ _
  have h3 : (rows.filter fun R => decide (R.at i < 0)).length ≤ rows.length := List.length_filter_le _ _
  have h4 : ∀ (l : List Rw) (g : Rw → List D) (m : Nat), (∀ x, (g x).length = m) → (l.flatMap g).length = l.length * m := by
    intro l g m hg
    induction l with
    | nil => simp
    | cons a l ih => rw [List.flatMap_cons, List.length_append, ih, hg, List.length_cons, Nat.succ_mul]; omega
  rw [h4 _ _ (rows.filter fun R => decide (R.at i < 0)).length (fun x => by simp)]
  have h5 : (rows.filter fun R => decide (0 < R.at i)).length * (rows.filter fun R => decide (R.at i < 0)).length ≤ 1000 * 1000 := Nat.mul_le_mul (by omega) (by omega)
  omega
theorem minP_cons (p q : Int × Int) (qs : List (Int × Int)) : minP p (q :: qs) = if ltP q p then minP q qs else minP p qs := by
  unfold minP
  simp only [List.foldl_cons]
  split <;> rfl
theorem minP_mem : ∀ (p : Int × Int) (ps : List (Int × Int)), minP p ps ∈ p :: ps := by
  intro p ps
  induction ps generalizing p with
  | nil => unfold minP; simp
  | cons q qs ih =>
    rw [minP_cons]
    split
    · exact List.mem_cons_of_mem _ (ih q)
    · have := ih p
      simp only [List.mem_cons] at this ⊢
      rcases this with h | h
      · exact .inl h
      · exact .inr (.inr h)
def pairsD (ps : List (Int × Int)) : List D := ps.map fun p => .tup [.int p.1, .int p.2]
theorem asPairs_map : ∀ ps : List (Int × Int), asPairs (pairsD ps) = some ps
  | [] => rfl
  | p :: ps => by
    have := asPairs_map ps
    unfold pairsD at this ⊢
    rw [List.map_cons, asPairs, this]
    rfl
def Bd.row (B : Bd) : Rw := ⟨B.f, B.r, B.s, []⟩
theorem scale_at (R : Rw) (c : Rat) (j : Nat) : (R.scale c).at j = c * R.at j := by
  unfold Rw.at Rw.scale
  dsimp only
  rw [List.getD_eq_getElem?_getD, List.getD_eq_getElem?_getD, List.getElem?_map]
  cases R.f[j]? with
  | none => simp
  | some a => rfl
theorem addL_get : ∀ (f g : List Rat) (j : Nat), f.length = g.length → (addL f g).getD j 0 = f.getD j 0 + g.getD j 0
  | [], [], j, _ => by simp [addL]; grind
  | a :: f, b :: g, 0, _ => by simp [addL]
  | a :: f, b :: g, j + 1, h => by simpa [addL] using addL_get f g j (by simpa using h)
  | [], _ :: _, _, h => by simp at h
  | _ :: _, [], _, h => by simp at h
theorem sum_at (R S : Rw) (j : Nat) (h : R.f.length = S.f.length) : (R.sum S).at j = R.at j + S.at j := addL_get R.f S.f j h
theorem even_at {R : Rw} {j : Nat} (h : R.at j = 0) : R.even.at j = 0 := by
  unfold Rw.even
  split
  · exact h
  · rw [scale_at, h]; grind
theorem strongest_length (rows : List Rw) : (strongest rows).length ≤ rows.length := by
  have key : ∀ (rows : List Rw) (kvs : List (List Rat × Rw)), (rows.foldl sStep kvs).length ≤ kvs.length + rows.length := by
    intro rows
    induction rows with
    | nil => intro kvs; simp
    | cons R rows ih =>
      intro kvs
      have := ih (sStep kvs R)
      have := sStep_length kvs R
      simp only [List.foldl_cons, List.length_cons]
      omega
  unfold strongest
  rw [List.length_map]
  simpa using key rows []
theorem elim_facts {rows : List Rw} (hr : ∀ R ∈ rows, R.f.length = n ∧ Rok b R) (hi : i < n) (hb : 0 < b) :
    (∀ R ∈ FM.elim i rows, R.f.length = n ∧ Rok (12 * b + 10) R) ∧ (∀ R ∈ FM.elim i rows, R.at i = 0) ∧ (∀ j, (∀ R ∈ rows, R.at j = 0) → ∀ R ∈ FM.elim i rows, R.at j = 0) ∧ (∀ R ∈ FM.elim i rows, R.nothing = false) := by
  have hL : ∀ R ∈ elimL i rows, R.f.length = n ∧ Rok (4 * b + 3) R ∧ R.at i = 0 ∧ ∀ j, (∀ S ∈ rows, S.at j = 0) → R.at j = 0 := by
    intro R hR
    have h1 := elimL_ok (b := b) rows (fun R hR => ⟨(hr R hR).2, by rw [(hr R hR).1]; exact hi⟩) R hR
    unfold elimL at hR
    rcases List.mem_append.mp hR with hR | hR
    · obtain ⟨h2, h3⟩ := List.mem_filter.mp hR
      exact ⟨(hr R h2).1, h1, by simpa using h3, fun j hj => hj R h2⟩
    · obtain ⟨S, hS, hR⟩ := List.mem_flatMap.mp hR
      obtain ⟨T, hT, rfl⟩ := List.mem_map.mp hR
      obtain ⟨s1, s2⟩ := List.mem_filter.mp hS
      obtain ⟨t1, t2⟩ := List.mem_filter.mp hT
      rw [decide_eq_true_eq] at s2 t2
      have l1 := (hr S s1).1
      have l2 := (hr T t1).1
      have hl : (S.scale (1 / S.at i)).f.length = (T.scale (1 / -(T.at i))).f.length := by simp [Rw.scale, l1, l2]
      refine ⟨?_, h1, ?_, fun j hj => ?_⟩
      · show (addL _ _).length = n
        rw [addL_length _ _ hl]
        simp [Rw.scale, l1]
      · rw [sum_at _ _ _ hl, scale_at, scale_at]
        have e1 : S.at i ≠ 0 := by grind
        have e2 : -(T.at i) ≠ 0 := by grind
        generalize S.at i = p at *
        generalize T.at i = q at *
        grind
      · rw [sum_at _ _ _ hl, scale_at, scale_at, hj S s1, hj T t1]
        grind
  refine ⟨strongest_mem (P := fun R => R.f.length = n ∧ Rok (12 * b + 10) R) fun R hR => ?_, strongest_mem (P := fun R => R.at i = 0) fun R hR => even_at (hL R hR).2.2.1, fun j hj => strongest_mem (P := fun R => R.at j = 0) fun R hR => even_at ((hL R hR).2.2.2 j hj), strongest_not_nothing⟩
  obtain ⟨h1, h2, _⟩ := hL R hR
  exact ⟨by rw [even_length]; exact h1, (h2.even (by omega)).mono (by omega)⟩
theorem elim_length {rows : List Rw} {N : Nat} (h : rows.length ≤ N) : (FM.elim i rows).length ≤ N + N * N := by
  refine Nat.le_trans (strongest_length _) ?_
  have e := congrArg List.length (elimL_map (i := i) rows)
  rw [List.length_map] at e
  rw [e, List.length_append, List.length_map]
  have h1 : (rows.filter fun R : Rw => decide (R.at i = 0)).length ≤ rows.length := List.length_filter_le _ _
  have h2 : (rows.filter fun R : Rw => decide (0 < R.at i)).length ≤ rows.length := List.length_filter_le _ _
  have h3 : (rows.filter fun R : Rw => decide (R.at i < 0)).length ≤ rows.length := List.length_filter_le _ _
  have h4 : ∀ (l : List Rw) (g : Rw → List D) (m : Nat), (∀ x, (g x).length = m) → (l.flatMap g).length = l.length * m := by
    intro l g m hg
    induction l with
    | nil => simp
    | cons a l ih => rw [List.flatMap_cons, List.length_append, ih, hg, List.length_cons, Nat.succ_mul]; omega
  rw [h4 _ _ (rows.filter fun R : Rw => decide (R.at i < 0)).length (fun x => by simp)]
  have h5 := Nat.mul_le_mul (Nat.le_trans h2 h) (Nat.le_trans h3 h)
  omega
theorem elim_ex {rows : List Rw} (hr : ∀ R ∈ rows, R.f.length = n) (hi : i < n) : (∃ x : List Rat, x.length = n ∧ Sat (FM.elim i rows) x) ↔ ∃ x : List Rat, x.length = n ∧ Sat rows x := by
  constructor
  · rintro ⟨x, hx, h⟩
    obtain ⟨t, ht⟩ := (elim_sat hr hi hx).mp h
    exact ⟨x.set i t, by simpa using hx, ht⟩
  · rintro ⟨x, hx, h⟩
    refine ⟨x, hx, (elim_sat hr hi hx).mpr ⟨x.getD i 0, ?_⟩⟩
    have hix : i < x.length := by omega
    have : x.set i (x.getD i 0) = x := by
      rw [List.getD_eq_getElem?_getD, List.getElem?_eq_getElem hix]
      simp
    rw [this]; exact h
theorem all_zero {R : Rw} (hl : R.f.length = n) (h : ∀ i < n, R.at i = 0) : R.f.all (fun a => decide (a = 0)) = true := by
  rw [List.all_eq_true]
  intro a ha
  obtain ⟨i, hi, rfl⟩ := List.getElem_of_mem ha
  have := h i (by omega)
  simp [Rw.at, List.getD_eq_getElem?_getD, List.getElem?_eq_getElem hi] at this
  simpa using this
def bOk : Nat → Nat → Prop
  | 0, b => b + b ≤ 8999
  | m + 1, b => b + b ≤ 8999 ∧ 6 * (4 * b + 3) + 4 ≤ 8999 ∧ bOk m (12 * b + 10)
def lOk : Nat → Nat → Prop
  | 0, N => N ≤ 16000000
  | m + 1, N => N ≤ 1000 ∧ lOk m (N + N * N)
theorem bOk_now {m b : Nat} (h : bOk m b) : b + b ≤ 8999 := by cases m with
  | zero => exact h
  | succ m => exact h.1
theorem lOk_now {m N : Nat} (h : lOk m N) : N ≤ 16000000 := by cases m with
  | zero => exact h
  | succ m => exact Nat.le_trans h.1 (by decide)
def hasPt (n : Nat) (rows : List Rw) : Prop := ∃ x : List Rat, x.length = n ∧ Sat rows x
def Bd.turned (B : Bd) : Bd := ⟨B.f.map (- ·), -B.r, !B.s⟩
theorem dot_neg : ∀ f x : List Rat, dot (f.map (- ·)) x = -dot f x
  | [], _ => by simp [dot]
  | _ :: _, [] => by simp [dot]
  | a :: f, c :: x => by simp only [List.map_cons, dot, dot_neg f x]; grind
theorem turned_ok (B : Bd) (x : List Rat) : B.turned.row.ok x ↔ ¬ B.row.ok x := by
  unfold Bd.turned Bd.row Rw.ok okv
  dsimp only
  rw [dot_neg]
  cases B.s <;> simp <;> grind
theorem turned_rok {B : Bd} (h : Rok b B.row) : Rok b B.turned.row := by
  refine ⟨⟨fun a ha => ?_, h.1.2.1.neg, fun a ha => by cases ha⟩, by simp [Bd.turned, Bd.row]; exact h.2.1, h.2.2⟩
  obtain ⟨y, hy, rfl⟩ := List.mem_map.mp ha
  exact (h.1.1 y hy).neg
end
end Geo
end
section
set_option Elab.async false
set_option linter.all false
set_option maxRecDepth 100000
set_option maxHeartbeats 0
namespace P1
open PySem L2 Py Geo FM
section
variable {k b c n i : Nat} {μ : Store}
theorem r_scaled {k b c : Nat} {μ : Store} (R : Rw) (t : Rat) (h : RSz b R) (ht : Sz c t) (hl : R.f.length ≤ 1000) (hw : R.w.length ≤ 1000) (hn : c + b ≤ 8999) : Py.run fs Γ (k + 4) f_scaled [rowD R, rD t] μ = some (rowD (R.scale t), μ) := by
  rw [u_scaled, b_scaled]
  have e1 := eqS_rD t 1
  rw [rD_one] at e1
  by_cases c1 : t = 1
  · subst c1
    rw [scale_one]
    unfold rowD
    simp -implicitDefEqProofs [e1, szle]
  · have m1 : ∀ (x : Rat), Sz b x → Py.run fs Γ (k + 3) f_times [rD t, rD x] μ = some (rD (t * x), μ) := fun x hx => r_times t x ht hx hn
    have g := m1 R.r h.2.1
    have q1 := lcS_mapM (t := T.nm 6) (c := fun env' μ' => evc (Py.run fs Γ (k + 3)) Γ Eo.none env' μ') (f := fun env' μ' => ev (Py.run fs Γ (k + 3)) Γ (E.call f_times (E.slot 1) (Es.cons (E.slot 6) Es.nil)) env' μ') (env := [some (.val (rowD R)), some (.val (rD t)), some (.val (.lst (R.f.map rD))), some (.val (rD R.r)), some (.val (.bl R.s)), some (.val (.lst (R.w.map rD))), none]) (μ := μ) (g := rD) (h := fun x => rD (t * x))
    have z1 := q1 R.f (fun a ha => ⟨[some (.val (rowD R)), some (.val (rD t)), some (.val (.lst (R.f.map rD))), some (.val (rD R.r)), some (.val (.bl R.s)), some (.val (.lst (R.w.map rD))), some (.val (rD a))], by simp, by simp, by simp -implicitDefEqProofs [m1 a (h.1 a ha)]⟩)
    have z2 := q1 R.w (fun a ha => ⟨[some (.val (rowD R)), some (.val (rD t)), some (.val (.lst (R.f.map rD))), some (.val (rD R.r)), some (.val (.bl R.s)), some (.val (.lst (R.w.map rD))), some (.val (rD a))], by simp, by simp, by simp -implicitDefEqProofs [m1 a (h.2.2 a ha)]⟩)
    have hl' : R.f.length ≤ SZ := by unfold SZ; omega
    have hw' : R.w.length ≤ SZ := by unfold SZ; omega
    have k1 : ev (Py.run fs Γ (k + 3)) Γ c2_scaled [some (.val (rowD R)), some (.val (rD t)), some (.val (.lst (R.f.map rD))), some (.val (rD R.r)), some (.val (.bl R.s)), some (.val (.lst (R.w.map rD))), none] μ = some (.lst (R.f.map fun x => rD (t * x)), μ) := by
      rw [c2_scaled, ev_lc]
      simp only [evI_seq, ev_slot, getV_s, getV_0, Option.map_some, Option.bind_some, seqOf_lst, List.length_map, if_pos hl', wipeE_cons, wipeE_nil]
      rw [show ([some (.val (rowD R)), some (.val (rD t)), some (.val (.lst (R.f.map rD))), some (.val (rD R.r)), some (.val (.bl R.s)), some (.val (.lst (R.w.map rD))), none] : Py.Env).set 6 none = [some (.val (rowD R)), some (.val (rD t)), some (.val (.lst (R.f.map rD))), some (.val (rD R.r)), some (.val (.bl R.s)), some (.val (.lst (R.w.map rD))), none] from rfl, z1]
      rfl
    have k2 : ev (Py.run fs Γ (k + 3)) Γ c1_scaled [some (.val (rowD R)), some (.val (rD t)), some (.val (.lst (R.f.map rD))), some (.val (rD R.r)), some (.val (.bl R.s)), some (.val (.lst (R.w.map rD))), none] μ = some (.lst (R.w.map fun x => rD (t * x)), μ) := by
      rw [c1_scaled, ev_lc]
      simp only [evI_seq, ev_slot, getV_s, getV_0, Option.map_some, Option.bind_some, seqOf_lst, List.length_map, if_pos hw', wipeE_cons, wipeE_nil]
      rw [show ([some (.val (rowD R)), some (.val (rD t)), some (.val (.lst (R.f.map rD))), some (.val (rD R.r)), some (.val (.bl R.s)), some (.val (.lst (R.w.map rD))), none] : Py.Env).set 6 none = [some (.val (rowD R)), some (.val (rD t)), some (.val (.lst (R.f.map rD))), some (.val (rD R.r)), some (.val (.bl R.s)), some (.val (.lst (R.w.map rD))), none] from rfl, z2]
      rfl
    have hu : rowD R = .tup [.lst (R.f.map rD), rD R.r, .bl R.s, .lst (R.w.map rD)] := rfl
    have hv : rowD (R.scale t) = .tup [.lst (R.f.map fun x => rD (t * x)), rD (t * R.r), .bl R.s, .lst (R.w.map fun x => rD (t * x))] := by
      unfold rowD Rw.scale
      simp [List.map_map, Function.comp_def]
    rw [hv]
    have ha : asgT (T.tp [(T.nm 2), (T.nm 3), (T.nm 4), (T.nm 5)]) (rowD R) [some (.val (rowD R)), some (.val (rD t)), none, none, none, none, none] = some [some (.val (rowD R)), some (.val (rD t)), some (.val (.lst (R.f.map rD))), some (.val (rD R.r)), some (.val (.bl R.s)), some (.val (.lst (R.w.map rD))), none] := by
      rw [hu]; simp
    simp -implicitDefEqProofs [ha, e1, c1, szle, k1, k2, g]
theorem r_sum_of {k b c : Nat} {μ : Store} (R S : Rw) (h : RSz b R) (h' : RSz c S) (hl : R.f.length ≤ 1000) (hw : R.w.length ≤ 1000) (hn : b + c + 1 ≤ 8999) : Py.run fs Γ (k + 4) f_sum_of [rowD R, rowD S] μ = some (rowD (R.sum S), μ) := by
  have m1 : ∀ (x y : Rat), Sz b x → Sz c y → Py.run fs Γ (k + 3) f_added [rD x, rD y] μ = some (rD (x + y), μ) := fun x y hx hy => r_added x y hx hy hn
  have g := m1 R.r S.r h.2.1 h'.2.1
  have t0 : ∀ Q : Rw, itsS μ (rowD Q) = some [.lst (Q.f.map rD), rD Q.r, .bl Q.s, .lst (Q.w.map rD)] := fun _ => rfl
  have hv : rowD (R.sum S) = .tup [.lst ((R.f.zip S.f).map fun p => rD (p.1 + p.2)), rD (R.r + S.r), .bl (R.s || S.s), .lst ((R.w.zip S.w).map fun p => rD (p.1 + p.2))] := by
    unfold rowD Rw.sum
    simp [addL_zip, List.map_map, Function.comp_def]
  have e1 : ∀ (a b : D) (x2 x3 x4 x5 : Option SV), a = rowD R → b = rowD S → ev (Py.run fs Γ (k + 3)) Γ c1_sum_of [some (.val a), some (.val b), x2, x3, x4, x5] μ = some (.lst ((R.f.zip S.f).map fun p => rD (p.1 + p.2)), μ) := by
    rintro a b x2 x3 x4 x5 rfl rfl
    rw [c1_sum_of]
    refine ev_lc_map (g := fun p : Rat × Rat => .tup [rD p.1, rD p.2]) (R.f.zip S.f) (by simp -implicitDefEqProofs [t0, atI, ixN, zip_map]) (by rw [List.length_zip]; omega) fun p hp => ?_
    obtain ⟨h1, h2⟩ := List.of_mem_zip (a := p.1) (b := p.2) hp
    exact ⟨[some (.val (rowD R)), some (.val (rowD S)), x2, some (.val (rD p.1)), some (.val (rD p.2)), x5], by simp, by simp, by simp -implicitDefEqProofs [m1 p.1 p.2 (h.1 _ h1) (h'.1 _ h2)]⟩
  have e2 : ∀ (a b : D) (x2 x3 x4 x5 : Option SV), a = rowD R → b = rowD S → ev (Py.run fs Γ (k + 3)) Γ c2_sum_of [some (.val a), some (.val b), x2, x3, x4, x5] μ = some (.lst ((R.w.zip S.w).map fun p => rD (p.1 + p.2)), μ) := by
    rintro a b x2 x3 x4 x5 rfl rfl
    rw [c2_sum_of]
    refine ev_lc_map (g := fun p : Rat × Rat => .tup [rD p.1, rD p.2]) (R.w.zip S.w) (by simp -implicitDefEqProofs [t0, atI, ixN, zip_map]) (by rw [List.length_zip]; omega) fun p hp => ?_
    obtain ⟨h1, h2⟩ := List.of_mem_zip (a := p.1) (b := p.2) hp
    exact ⟨[some (.val (rowD R)), some (.val (rowD S)), x2, some (.val (rD p.1)), some (.val (rD p.2)), x5], by simp, by simp, by simp -implicitDefEqProofs [m1 p.1 p.2 (h.2.2 _ h1) (h'.2.2 _ h2)]⟩
  rw [u_sum_of, b_sum_of, hv]
  cases hs : R.s <;> simp -implicitDefEqProofs [e1, e2, t0, atI, ixN, szle, g, hs]
theorem r_says_nothing {k b : Nat} {μ : Store} (R : Rw) (h : RSz b R) (hl : R.f.length ≤ 1000) (hb : 0 < b) (hn : b + b ≤ 8999) : Py.run fs Γ (k + 2) f_says_nothing [rowD R] μ = some (.bl R.nothing, μ) := by
  have t0 : ∀ Q : Rw, itsS μ (rowD Q) = some [.lst (Q.f.map rD), rD Q.r, .bl Q.s, .lst (Q.w.map rD)] := fun _ => rfl
  have g := r_compare (k := k) (μ := μ) R.r 0 h.2.1 (sz_zero hb) hn
  have e1 : ∀ x1 x2 : Option SV, ev (Py.run fs Γ (k + 1)) Γ c1_says_nothing [some (.val (rowD R)), x1, x2] μ = some (.lst ((R.f.filter fun a => !decide (a = 0)).map fun _ => .int 1), μ) := by
    intro x1 x2
    rw [c1_says_nothing]
    refine ev_lc_filter (g := rD) R.f (by simp -implicitDefEqProofs [t0, atI, ixN]) (by omega) fun a ha => ?_
    have e := eqS_rD a 0
    rw [rD_zero] at e
    exact ⟨[some (.val (rowD R)), some (.val (rD a)), x2], by simp, by simp -implicitDefEqProofs [e], by simp⟩
  have hz : R.f.all (fun a => decide (a = 0)) = decide ((R.f.filter fun a => !decide (a = 0)).length = 0) := by
    rw [Bool.eq_iff_iff]
    simp [List.all_eq_true, List.filter_eq_nil_iff]
  unfold Rw.nothing
  rw [u_says_nothing, b_says_nothing, hz]
  rw [rD_zero] at g
  generalize (R.f.filter fun a => !decide (a = 0)) = l at *
  by_cases c : l = []
  · subst c
    unfold sgn at g
    by_cases c1 : R.r < 0
    · have c2 : ¬ 0 < R.r := by grind
      have c3 : ¬ R.r = 0 := by grind
      simp -implicitDefEqProofs [e1, t0, atI, ixN, szle, g, c1, c2, c3]
    · by_cases c2 : 0 < R.r
      · simp -implicitDefEqProofs [e1, t0, atI, ixN, szle, g, c1, c2]
      · have c3 : R.r = 0 := by grind
        rw [if_neg c1, if_neg c2, c3] at g
        simp -implicitDefEqProofs [e1, t0, atI, ixN, szle, g, c3]
  · have hpos : 0 < l.length := List.length_pos_iff.mpr c
    have c' : ¬ l.length = 0 := by omega
    simp -implicitDefEqProofs [e1, hpos, c, c']
theorem r_is_against {k b : Nat} {μ : Store} (R : Rw) (h : RSz b R) (hl : R.f.length ≤ 1000) (hb : 0 < b) (hn : b + b ≤ 8999) : Py.run fs Γ (k + 3) f_is_against [rowD R] μ = some (.bl R.against, μ) := by
  have t0 : ∀ Q : Rw, itsS μ (rowD Q) = some [.lst (Q.f.map rD), rD Q.r, .bl Q.s, .lst (Q.w.map rD)] := fun _ => rfl
  have g := r_says_nothing (k := k) (μ := μ) R h hl hb hn
  have e1 : ∀ x1 : Option SV, ev (Py.run fs Γ (k + 2)) Γ c1_is_against [some (.val (rowD R)), x1] μ = some (.lst ((R.f.filter fun a => !decide (a = 0)).map fun _ => .int 1), μ) := by
    intro x1
    rw [c1_is_against]
    refine ev_lc_filter (g := rD) R.f (by simp -implicitDefEqProofs [t0, atI, ixN]) (by omega) fun a ha => ?_
    have e := eqS_rD a 0
    rw [rD_zero] at e
    exact ⟨[some (.val (rowD R)), some (.val (rD a))], by simp, by simp -implicitDefEqProofs [e], by simp⟩
  have hz : R.f.all (fun a => decide (a = 0)) = decide ((R.f.filter fun a => !decide (a = 0)).length = 0) := by
    rw [Bool.eq_iff_iff]
    simp [List.all_eq_true, List.filter_eq_nil_iff]
  unfold Rw.against
  rw [u_is_against, b_is_against, hz]
  generalize (R.f.filter fun a => !decide (a = 0)) = l at *
  by_cases c : l = []
  · subst c
    simp -implicitDefEqProofs [e1, g]
  · have hpos : 0 < l.length := List.length_pos_iff.mpr c
    have c' : ¬ l.length = 0 := by omega
    simp -implicitDefEqProofs [e1, c, c']
theorem r_binds_more {k b : Nat} {μ : Store} (R S : Rw) (h : RSz b R) (h' : RSz b S) (hn : b + b ≤ 8999) : Py.run fs Γ (k + 2) f_binds_more [rowD R, rowD S] μ = some (.bl (binds R S), μ) := by
  have t0 : ∀ Q : Rw, itsS μ (rowD Q) = some [.lst (Q.f.map rD), rD Q.r, .bl Q.s, .lst (Q.w.map rD)] := fun _ => rfl
  have g := r_compare (k := k) (μ := μ) R.r S.r h.2.1 h'.2.1 hn
  rw [u_binds_more, b_binds_more]
  unfold sgn at g
  unfold binds
  by_cases c1 : R.r < S.r
  · simp -implicitDefEqProofs [t0, atI, ixN, szle, g, c1]
  · by_cases c2 : S.r < R.r
    · have c3 : ¬ R.r = S.r := by grind
      simp -implicitDefEqProofs [t0, atI, ixN, szle, g, c1, c2, c3]
    · have c3 : R.r = S.r := by grind
      rw [if_neg c1, if_neg c2, c3] at g
      cases hs : R.s <;> simp -implicitDefEqProofs [t0, atI, ixN, szle, g, c1, c3, hs]
theorem r_evened_out {k b : Nat} {μ : Store} (R : Rw) (h : RSz b R) (hl : R.f.length ≤ 1000) (hw : R.w.length ≤ 1000) (hb : 0 < b) (hn : 4 * b + 4 ≤ 8999) : Py.run fs Γ (k + 5) f_evened_out [rowD R] μ = some (rowD R.even, μ) := by
  have t0 : ∀ Q : Rw, itsS μ (rowD Q) = some [.lst (Q.f.map rD), rD Q.r, .bl Q.s, .lst (Q.w.map rD)] := fun _ => rfl
  have key : ∀ (f : List Rat) (x1 : Option SV), (∀ a ∈ f, Sz b a) → (match firstNZ f with
      | none => ∃ x', forS (T.nm 1) (fun env' μ' => exs (Py.run fs Γ (k + 4)) Γ l1_evened_out env' μ') (f.map rD) [some (.val (rowD R)), x1] μ = some (.nx [some (.val (rowD R)), x'] μ)
      | some t => forS (T.nm 1) (fun env' μ' => exs (Py.run fs Γ (k + 4)) Γ l1_evened_out env' μ') (f.map rD) [some (.val (rowD R)), x1] μ = some (.rt (rowD (R.scale (1 / absR t))) μ)) := by
    intro f
    induction f with
    | nil => intro x1 _; exact ⟨x1, rfl⟩
    | cons a f ih =>
      intro x1 hf
      have e := eqS_rD a 0
      rw [rD_zero] at e
      by_cases ha : a = 0
      · have ha' : (0 : Rat) = a := ha.symm
        subst ha'
        have hstep := forS_go (t := T.nm 1) (b := fun env' μ' => exs (Py.run fs Γ (k + 4)) Γ l1_evened_out env' μ') (d := rD 0) (ds := f.map rD) (env := [some (.val (rowD R)), x1]) (env1 := [some (.val (rowD R)), some (.val (rD 0))]) (env' := [some (.val (rowD R)), some (.val (rD 0))]) (μ := μ) (μ' := μ) (by simp) (by simp -implicitDefEqProofs [l1_evened_out, e])
        have hfz : firstNZ (0 :: f) = firstNZ f := by unfold firstNZ; simp [List.find?_cons]
        rw [hfz, List.map_cons, hstep]
        exact ih _ (fun x hx => hf x (by simp [hx]))
      · have hfz : firstNZ (a :: f) = some a := by unfold firstNZ; simp [List.find?_cons, ha]
        rw [hfz]
        dsimp only
        have hp := absR_pos ha
        have sa := hf a (by simp)
        have g1 := r_over (k := k + 1) (μ := μ) 1 (absR a) (by grind) (sz_one (b := 1) (by decide)) (sz_absR sa) (by omega)
        have g2 := r_scaled (k := k) (μ := μ) R (1 / absR a) h ((sz_one (b := 1) (by decide)).div (sz_absR sa) (by grind)) hl hw (by omega)
        rw [rD_one] at g1
        have g3 := r_opposite (k := k + 3) (μ := μ) a
        rw [List.map_cons]
        refine forS_rt (env1 := [some (.val (rowD R)), some (.val (rD a))]) (by simp) ?_
        have hpos : 0 < a ↔ 0 < a.num := by
          rw [Rat.lt_iff]; simp
        by_cases c : 0 < a
        · have e2 : absR a = a := if_pos c
          rw [e2] at g1 g2
          have c' := hpos.mp c
          have ix : atI [D.int a.num, D.int (a.den : Int)] 0 = some (D.int a.num) := by simp [atI, ixN]
          have t1 : itsS μ (rD a) = some [.int a.num, .int a.den] := rfl
          simp -implicitDefEqProofs [l1_evened_out, e, ha, t1, ix, c', g1, g2, e2]
        · have e2 : absR a = -a := if_neg c
          rw [e2] at g1 g2
          have c' : ¬ 0 < a.num := fun z => c (hpos.mpr z)
          have ix : atI [D.int a.num, D.int (a.den : Int)] 0 = some (D.int a.num) := by simp [atI, ixN]
          have t1 : itsS μ (rD a) = some [.int a.num, .int a.den] := rfl
          simp -implicitDefEqProofs [l1_evened_out, e, ha, t1, ix, c', g1, g2, g3, e2]
  rw [u_evened_out, b_evened_out]
  have hk := key R.f none h.1
  unfold Rw.even
  split
  · rename_i hz
    rw [hz] at hk
    obtain ⟨x', hk⟩ := hk
    simp -implicitDefEqProofs [ex_for, t0, atI, ixN, hk]
  · rename_i t hz
    rw [hz] at hk
    dsimp only at hk
    simp -implicitDefEqProofs [ex_for, t0, atI, ixN, hk]

end
end P1
end
section
set_option Elab.async false
set_option linter.all false
set_option maxRecDepth 100000
set_option maxHeartbeats 0
namespace P1
open PySem L2 Py Geo FM
section
variable {k b c n i : Nat} {μ : Store}
theorem str_loop {k b : Nat} {μ : Store} (x0 : Option SV) (hb : 0 < b) (hn : 6 * b + 4 ≤ 8999) : ∀ (rows : List Rw) (kvs : List (List Rat × Rw)) (x2 x3 : Option SV), (∀ R ∈ rows, Rok b R) → (∀ p ∈ kvs, Rok (2 * b + 1 + b) p.2) → kvs.length + rows.length < 16777216 →
    ∃ x2' x3', forS (T.nm 2) (fun env' μ' => exs (Py.run fs Γ (k + 5)) Γ l1_strongest env' μ') (rows.map rowD) [x0, some (.dct true (dctOf kvs)), x2, x3] μ = some (.nx [x0, some (.dct true (dctOf (rows.foldl sStep kvs))), x2', x3'] μ)
  | [], kvs, x2, x3, _, _, _ => ⟨x2, x3, rfl⟩
  | R :: rows, kvs, x2, x3, h1, h2, h3 => by
    have hR := h1 R (by simp)
    have g1 := r_evened_out (k := k) (μ := μ) R hR.1 hR.2.1 hR.2.2 hb (by omega)
    have hE := hR.even hb
    have hstep : sStep kvs R = sStep kvs R := rfl
    have hmem := sStep_mem (P := Rok (2 * b + 1 + b)) (kvs := kvs) (row := R) hE h2
    have hlen := sStep_length kvs R
    obtain ⟨y2, y3, ih⟩ := str_loop (k := k) (μ := μ) x0 hb hn rows (sStep kvs R) (some (.val (rowD R.even))) (some (.val (.tup (R.even.f.map rD)))) (fun Q hQ => h1 Q (by simp [hQ])) hmem (by simp only [List.length_cons] at h3; omega)
    refine ⟨y2, y3, ?_⟩
    rw [List.map_cons, List.foldl_cons, ← ih]
    refine forS_go (env1 := [x0, some (.dct true (dctOf kvs)), some (.val (rowD R)), x3]) (by simp) ?_
    have t0 : ∀ Q : Rw, itsS μ (rowD Q) = some [.lst (Q.f.map rD), rD Q.r, .bl Q.s, .lst (Q.w.map rD)] := fun _ => rfl
    have g2 := r_says_nothing (k := k + 3) (μ := μ) R.even hE.1 hE.2.1 (by omega) (by omega)
    have hz : (dctOf kvs).length < SZ := by unfold dctOf SZ; rw [List.length_map]; simp only [List.length_cons] at h3; omega
    have kS := keyS_map R.even.f
    have kA := dAt_of R.even.f kvs
    have kP := dPut_of R.even.f R.even kvs
    unfold sStep
    dsimp only
    generalize hE' : R.even = E at *
    by_cases hnth : E.nothing = true
    · simp -implicitDefEqProofs [l1_strongest, g1, t0, atI, ixN, g2, hnth]
    · have hnth' : E.nothing = false := by simpa using hnth
      cases hl : look kvs E.f with
      | none =>
        rw [hl] at kA
        simp -implicitDefEqProofs [l1_strongest, g1, t0, atI, ixN, g2, hnth', kS, kA, kP, hz]
      | some S =>
        rw [hl] at kA
        have hS : Rok (2 * b + 1 + b) S := h2 _ (look_some hl)
        have g3 := r_binds_more (k := k + 3) (μ := μ) S E hS.1 hE.1 (by omega)
        cases hbm : binds S E with
        | true => simp -implicitDefEqProofs [l1_strongest, g1, t0, atI, ixN, g2, hnth', kS, kA, kP, hz, g3, hbm]
        | false => simp -implicitDefEqProofs [l1_strongest, g1, t0, atI, ixN, g2, hnth', kS, kA, kP, hz, g3, hbm]
theorem r_strongest {k b : Nat} {μ : Store} (rows : List Rw) (h : ∀ R ∈ rows, Rok b R) (hb : 0 < b) (hn : 6 * b + 4 ≤ 8999) (hl : rows.length < 16777216) : Py.run fs Γ (k + 6) f_strongest [.lst (rows.map rowD)] μ = some (.lst ((strongest rows).map rowD), μ) := by
  obtain ⟨y2, y3, hx⟩ := str_loop (k := k) (μ := μ) (some (.val (.lst (rows.map rowD)))) hb hn rows [] none none h (fun _ h => by cases h) (by simpa using hl)
  rw [u_strongest, b_strongest]
  have e0 : dctOf [] = [] := rfl
  rw [e0] at hx
  simp -implicitDefEqProofs [ex_for, hx, strongest, dctOf, List.map_map, Function.comp_def]

end
end P1
end
section
set_option Elab.async false
set_option linter.all false
set_option maxRecDepth 100000
set_option maxHeartbeats 0
namespace P1
open PySem L2 Py Geo FM
section
variable {k b c n i : Nat} {μ : Store}
theorem wq_body (one other : Rw) (h : Rok b one) (h' : Rok b other) (h0 : 0 < one.at i) (h1 : other.at i < 0) (i0 : i < one.f.length) (i1 : i < other.f.length) (hn : 4 * b + 3 ≤ 8999) (acc : List D) (ha : acc.length < 16777216) (x0 x2 x3 x4 x8 x9 : Option SV) :
    ∃ y8 y9, exs (Py.run fs Γ (k + 5)) Γ l1_without_quantity [x0, some (.val (.int i)), x2, x3, x4, some (.own acc), some (.val (rowD one)), some (.val (rowD other)), x8, x9] μ =
      some (.nx [x0, some (.val (.int i)), x2, x3, x4, some (.own (acc ++ [rowD (pairR i one other)])), some (.val (rowD one)), some (.val (rowD other)), y8, y9] μ) := by
  have t0 : ∀ Q : Rw, itsS μ (rowD Q) = some [.lst (Q.f.map rD), rD Q.r, .bl Q.s, .lst (Q.w.map rD)] := fun _ => rfl
  have s0 := sz_at h.1 i0
  have s1 := sz_at h'.1 i1
  have z1 := (sz_one (b := 1) (by decide)).div s0 (by grind)
  have z2 := (sz_one (b := 1) (by decide)).div s1.neg (by grind)
  have e1 := r_over (k := k + 2) (μ := μ) 1 (one.at i) (by grind) (sz_one (b := 1) (by decide)) s0 (by omega)
  have e2 := r_over (k := k + 2) (μ := μ) 1 (-(other.at i)) (by grind) (sz_one (b := 1) (by decide)) s1.neg (by omega)
  rw [rD_one] at e1 e2
  have e3 := r_opposite (k := k + 4) (μ := μ) (other.at i)
  have e4 := r_scaled (k := k + 1) (μ := μ) one (1 / one.at i) h.1 z1 h.2.1 h.2.2 (by omega)
  have e5 := r_scaled (k := k + 1) (μ := μ) other (1 / -(other.at i)) h'.1 z2 h'.2.1 h'.2.2 (by omega)
  have r1 := h.scale z1
  have r2 := h'.scale z2
  have e6 := r_sum_of (k := k + 1) (μ := μ) (one.scale (1 / one.at i)) (other.scale (1 / -(other.at i))) r1.1 r2.1 r1.2.1 r1.2.2 (by omega)
  have a1 := at_get i0
  have a2 := at_get i1
  refine ⟨some (.val (rowD (one.scale (1 / one.at i)))), some (.val (rowD (other.scale (1 / -(other.at i))))), ?_⟩
  have hz : acc.length < SZ := by unfold SZ; exact ha
  unfold pairR
  have q0 : ∀ Q : Rw, atI [D.lst (Q.f.map rD), rD Q.r, .bl Q.s, .lst (Q.w.map rD)] 0 = some (.lst (Q.f.map rD)) := fun Q => by simp [atI, ixN]
  simp -implicitDefEqProofs [l1_without_quantity, t0, q0, a1, a2, e1, e2, e3, e4, e5, e6, hz]
theorem wq_inner (one : Rw) (h : Rok b one) (h0 : 0 < one.at i) (i0 : i < one.f.length) (hn : 4 * b + 3 ≤ 8999) (x0 x2 x3 x4 : Option SV) : ∀ (bs : List Rw) (acc : List D) (x7 x8 x9 : Option SV), (∀ S ∈ bs, Rok b S ∧ S.at i < 0 ∧ i < S.f.length) → acc.length + bs.length < 16777216 →
    ∃ y7 y8 y9, forS (T.nm 7) (fun env' μ' => exs (Py.run fs Γ (k + 5)) Γ l1_without_quantity env' μ') (bs.map rowD) [x0, some (.val (.int i)), x2, x3, x4, some (.own acc), some (.val (rowD one)), x7, x8, x9] μ =
      some (.nx [x0, some (.val (.int i)), x2, x3, x4, some (.own (acc ++ bs.map fun S => rowD (pairR i one S))), some (.val (rowD one)), y7, y8, y9] μ)
  | [], acc, x7, x8, x9, _, _ => ⟨x7, x8, x9, by simp [forS_nil]⟩
  | S :: bs, acc, x7, x8, x9, hb, hl => by
    obtain ⟨g1, g2, g3⟩ := hb S (by simp)
    obtain ⟨y8, y9, e⟩ := wq_body (k := k) (μ := μ) one S h g1 h0 g2 i0 g3 hn acc (by simp only [List.length_cons] at hl; omega) x0 x2 x3 x4 x8 x9
    obtain ⟨z7, z8, z9, ih⟩ := wq_inner one h h0 i0 hn x0 x2 x3 x4 bs (acc ++ [rowD (pairR i one S)]) (some (.val (rowD S))) y8 y9 (fun Q hQ => hb Q (by simp [hQ])) (by simp only [List.length_cons, List.length_append, List.length_nil] at hl ⊢; omega)
    refine ⟨z7, z8, z9, ?_⟩
    rw [List.map_cons, forS_go (env1 := [x0, some (.val (.int i)), x2, x3, x4, some (.own acc), some (.val (rowD one)), some (.val (rowD S)), x8, x9]) (by simp) e, ih]
    simp
theorem wq_outer (below : List Rw) (hn : 4 * b + 3 ≤ 8999) (x0 x2 x3 : Option SV) (hB : ∀ S ∈ below, Rok b S ∧ S.at i < 0 ∧ i < S.f.length) (hbl : below.length ≤ 1000) : ∀ (as : List Rw) (acc : List D) (x6 x7 x8 x9 : Option SV), (∀ S ∈ as, Rok b S ∧ 0 < S.at i ∧ i < S.f.length) → acc.length + as.length * 1000 < 16777216 →
    ∃ y6 y7 y8 y9, forS (T.nm 6) (fun env' μ' => exs (Py.run fs Γ (k + 5)) Γ l2_without_quantity env' μ') (as.map rowD) [x0, some (.val (.int i)), x2, x3, some (.val (.lst (below.map rowD))), some (.own acc), x6, x7, x8, x9] μ =
      some (.nx [x0, some (.val (.int i)), x2, x3, some (.val (.lst (below.map rowD))), some (.own (acc ++ as.flatMap fun one => below.map fun S => rowD (pairR i one S))), y6, y7, y8, y9] μ)
  | [], acc, x6, x7, x8, x9, _, _ => ⟨x6, x7, x8, x9, by simp [forS_nil]⟩
  | R :: as, acc, x6, x7, x8, x9, hb, hl => by
    obtain ⟨g1, g2, g3⟩ := hb R (by simp)
    simp only [List.length_cons] at hl
    obtain ⟨y7, y8, y9, e⟩ := wq_inner (k := k) (μ := μ) R g1 g2 g3 hn x0 x2 x3 (some (.val (.lst (below.map rowD)))) below acc x7 x8 x9 hB (by omega)
    obtain ⟨z6, z7, z8, z9, ih⟩ := wq_outer below hn x0 x2 x3 hB hbl as (acc ++ below.map fun S => rowD (pairR i R S)) (some (.val (rowD R))) y7 y8 y9 (fun Q hQ => hb Q (by simp [hQ])) (by simp only [List.length_append, List.length_map]; omega)
    refine ⟨z6, z7, z8, z9, ?_⟩
    rw [List.map_cons, forS_go (env1 := [x0, some (.val (.int i)), x2, x3, some (.val (.lst (below.map rowD))), some (.own acc), some (.val (rowD R)), x7, x8, x9]) (env' := [x0, some (.val (.int i)), x2, x3, some (.val (.lst (below.map rowD))), some (.own (acc ++ below.map fun S => rowD (pairR i R S))), some (.val (rowD R)), y7, y8, y9]) (μ' := μ) (by simp) (by simp -implicitDefEqProofs [l2_without_quantity, ex_for, e]), ih]
    simp [List.append_assoc]
theorem wq_cond (rows : List Rw) (x1' x2 x3 x4 x5 x6 x7 x8 x9 : Option SV) (hr : ∀ R ∈ rows, Rok b R ∧ i < R.f.length) (hl : rows.length ≤ 1000) :
    ev (Py.run fs Γ (k + 5)) Γ c1_without_quantity [some (.val (.lst (rows.map rowD))), some (.val (.int i)), x2, x3, x4, x5, x6, x7, x8, x9] μ = some (.lst ((rows.filter fun R => decide (0 < R.at i)).map rowD), μ) ∧
    ev (Py.run fs Γ (k + 5)) Γ c2_without_quantity [some (.val (.lst (rows.map rowD))), some (.val (.int i)), x2, x3, x4, x5, x6, x7, x8, x9] μ = some (.lst ((rows.filter fun R => decide (R.at i < 0)).map rowD), μ) ∧
    ev (Py.run fs Γ (k + 5)) Γ c3_without_quantity [some (.val (.lst (rows.map rowD))), some (.val (.int i)), x2, x3, x4, x5, x6, x7, x8, x9] μ = some (.lst ((rows.filter fun R => decide (R.at i = 0)).map rowD), μ) := by
  have t0 : ∀ Q : Rw, itsS μ (rowD Q) = some [.lst (Q.f.map rD), rD Q.r, .bl Q.s, .lst (Q.w.map rD)] := fun _ => rfl
  have q0 : ∀ Q : Rw, atI [D.lst (Q.f.map rD), rD Q.r, .bl Q.s, .lst (Q.w.map rD)] 0 = some (.lst (Q.f.map rD)) := fun Q => by simp [atI, ixN]
  have t1 : ∀ a : Rat, itsS μ (rD a) = some [.int a.num, .int a.den] := fun _ => rfl
  have q1 : ∀ a : Rat, atI [D.int a.num, D.int (a.den : Int)] 0 = some (.int a.num) := fun a => by simp [atI, ixN]
  refine ⟨?_, ?_, ?_⟩
  · rw [c1_without_quantity]
    refine ev_lc_filter (g := rowD) rows (by simp) (by omega) fun R hR => ⟨[some (.val (.lst (rows.map rowD))), some (.val (.int i)), x2, some (.val (rowD R)), x4, x5, x6, x7, x8, x9], by simp, ?_, by simp⟩
    have a1 := at_get (hr R hR).2
    simp -implicitDefEqProofs [t0, q0, a1, t1, q1, num_pos_iff]
  · rw [c2_without_quantity]
    refine ev_lc_filter (g := rowD) rows (by simp) (by omega) fun R hR => ⟨[some (.val (.lst (rows.map rowD))), some (.val (.int i)), x2, some (.val (rowD R)), x4, x5, x6, x7, x8, x9], by simp, ?_, by simp⟩
    have a1 := at_get (hr R hR).2
    simp -implicitDefEqProofs [t0, q0, a1, t1, q1, num_neg_iff]
  · rw [c3_without_quantity]
    refine ev_lc_filter (g := rowD) rows (by simp) (by omega) fun R hR => ⟨[some (.val (.lst (rows.map rowD))), some (.val (.int i)), x2, some (.val (rowD R)), x4, x5, x6, x7, x8, x9], by simp, ?_, by simp⟩
    have a1 := at_get (hr R hR).2
    simp -implicitDefEqProofs [t0, q0, a1, t1, q1]
theorem r_without (rows : List Rw) (hr : ∀ R ∈ rows, Rok b R ∧ i < R.f.length) (hl : rows.length ≤ 1000) (hn : 6 * (4 * b + 3) + 4 ≤ 8999) : Py.run fs Γ (k + 7) f_without_quantity [.lst (rows.map rowD), .int i] μ = some (.lst ((elim i rows).map rowD), μ) := by
  obtain ⟨c1, _, _⟩ := wq_cond (k := k + 1) (μ := μ) rows none none none none none none none none none hr hl
  obtain ⟨_, c2, _⟩ := wq_cond (k := k + 1) (μ := μ) rows none (some (.val (.lst ((rows.filter fun R : Rw => decide (0 < R.at i)).map rowD)))) none none none none none none none hr hl
  obtain ⟨_, _, c3⟩ := wq_cond (k := k + 1) (μ := μ) rows none (some (.val (.lst ((rows.filter fun R : Rw => decide (0 < R.at i)).map rowD)))) none (some (.val (.lst ((rows.filter fun R : Rw => decide (R.at i < 0)).map rowD)))) none none none none none hr hl
  have l1 : (rows.filter fun R : Rw => decide (R.at i = 0)).length ≤ rows.length := List.length_filter_le _ _
  have l2 : (rows.filter fun R : Rw => decide (0 < R.at i)).length ≤ rows.length := List.length_filter_le _ _
  have l3 : (rows.filter fun R : Rw => decide (R.at i < 0)).length ≤ rows.length := List.length_filter_le _ _
  obtain ⟨y6, y7, y8, y9, e⟩ := wq_outer (k := k + 1) (μ := μ) (rows.filter fun R : Rw => decide (R.at i < 0)) (by omega) (some (.val (.lst (rows.map rowD)))) (some (.val (.lst ((rows.filter fun R : Rw => decide (0 < R.at i)).map rowD)))) none
    (fun S hS => ⟨(hr S (List.mem_filter.mp hS).1).1, by simpa using (List.mem_filter.mp hS).2, (hr S (List.mem_filter.mp hS).1).2⟩) (by omega) (rows.filter fun R : Rw => decide (0 < R.at i)) ((rows.filter fun R : Rw => decide (R.at i = 0)).map rowD) none none none none
    (fun S hS => ⟨(hr S (List.mem_filter.mp hS).1).1, by simpa using (List.mem_filter.mp hS).2, (hr S (List.mem_filter.mp hS).1).2⟩) (by rw [List.length_map]; omega)
  rw [← elimL_map] at e
  have g := r_strongest (k := k) (μ := μ) (elimL i rows) (elimL_ok rows hr) (by omega) hn (elimL_length rows hl)
  rw [u_without_quantity, b_without_quantity]
  simp -implicitDefEqProofs [ex_for, c1, c2, c3, e, g, FM.elim]
end
end P1
end
section
set_option Elab.async false
set_option linter.all false
set_option maxRecDepth 100000
set_option maxHeartbeats 0
namespace P1
open PySem L2 Py Geo FM
section
variable {k b c n i : Nat} {μ : Store}
theorem ch_loop (rows : List Rw) (n : Nat) (hr : ∀ R ∈ rows, R.f.length = n) (hl : rows.length ≤ 100000) (x1 : Option SV) : ∀ (left : List Nat) (ps : List (Int × Int)) (x3 x4 x5 x6 : Option SV), (∀ i ∈ left, i < n) → ps.length + left.length < 16777216 →
    ∃ qs y3 y4 y5 y6, forS (T.nm 3) (fun env' μ' => exs (Py.run fs Γ k) Γ l1_cheapest env' μ') (left.map fun i : Nat => .int i) [some (.val (.lst (rows.map rowD))), x1, some (.own (pairsD ps)), x3, x4, x5, x6] μ =
      some (.nx [some (.val (.lst (rows.map rowD))), x1, some (.own (pairsD (ps ++ qs))), y3, y4, y5, y6] μ) ∧ qs.map (·.2) = left.map fun i : Nat => (i : Int)
  | [], ps, x3, x4, x5, x6, _, _ => ⟨[], x3, x4, x5, x6, by simp [forS_nil], rfl⟩
  | i :: left, ps, x3, x4, x5, x6, h1, h2 => by
    have t0 : ∀ Q : Rw, itsS μ (rowD Q) = some [.lst (Q.f.map rD), rD Q.r, .bl Q.s, .lst (Q.w.map rD)] := fun _ => rfl
    have q0 : ∀ Q : Rw, atI [D.lst (Q.f.map rD), rD Q.r, .bl Q.s, .lst (Q.w.map rD)] 0 = some (.lst (Q.f.map rD)) := fun Q => by simp [atI, ixN]
    have t1 : ∀ a : Rat, itsS μ (rD a) = some [.int a.num, .int a.den] := fun _ => rfl
    have q1 : ∀ a : Rat, atI [D.int a.num, D.int (a.den : Int)] 0 = some (.int a.num) := fun a => by simp [atI, ixN]
    have hi : i < n := h1 i (by simp)
    have c1 : ∀ x3 x4 x5 x6 : Option SV, x3 = some (.val (.int i)) → ev (Py.run fs Γ k) Γ c1_cheapest [some (.val (.lst (rows.map rowD))), x1, some (.own (pairsD ps)), x3, x4, x5, x6] μ = some (.lst ((rows.filter fun R : Rw => decide (0 < R.at i)).map fun _ => .int 1), μ) := by
      rintro x3 x4 x5 x6 rfl
      rw [c1_cheapest]
      refine ev_lc_filter (g := rowD) rows (by simp) (by omega) fun R hR => ⟨[some (.val (.lst (rows.map rowD))), x1, some (.own (pairsD ps)), some (.val (.int i)), x4, some (.val (rowD R)), x6], by simp, ?_, by simp⟩
      have a1 := at_get (R := R) (i := i) (by rw [hr R hR]; exact hi)
      simp -implicitDefEqProofs [t0, q0, a1, t1, q1, num_pos_iff]
    have c2 : ∀ x3 x4 x5 x6 : Option SV, x3 = some (.val (.int i)) → ev (Py.run fs Γ k) Γ c2_cheapest [some (.val (.lst (rows.map rowD))), x1, some (.own (pairsD ps)), x3, x4, x5, x6] μ = some (.lst ((rows.filter fun R : Rw => decide (R.at i < 0)).map fun _ => .int 1), μ) := by
      rintro x3 x4 x5 x6 rfl
      rw [c2_cheapest]
      refine ev_lc_filter (g := rowD) rows (by simp) (by omega) fun R hR => ⟨[some (.val (.lst (rows.map rowD))), x1, some (.own (pairsD ps)), some (.val (.int i)), x4, some (.val (rowD R)), x6], by simp, ?_, by simp⟩
      have a1 := at_get (R := R) (i := i) (by rw [hr R hR]; exact hi)
      simp -implicitDefEqProofs [t0, q0, a1, t1, q1, num_neg_iff]
    have m1 : (rows.filter fun R : Rw => decide (0 < R.at i)).length ≤ rows.length := List.length_filter_le _ _
    have m2 : (rows.filter fun R : Rw => decide (R.at i < 0)).length ≤ rows.length := List.length_filter_le _ _
    generalize (rows.filter fun R : Rw => decide (0 < R.at i)) = A at *
    generalize (rows.filter fun R : Rw => decide (R.at i < 0)) = B at *
    have hm : mulOk (A.length : Int) B.length = true := mul64 (by omega) (by omega)
    obtain ⟨qs, y3, y4, y5, y6, ih, hq⟩ := ch_loop rows n hr hl x1 left (ps ++ [((A.length : Int) * B.length - A.length - B.length, (i : Int))]) (some (.val (.int i))) (some (.val (.int A.length))) x5 (some (.val (.int B.length))) (fun j hj => h1 j (by simp [hj])) (by simp only [List.length_cons, List.length_append, List.length_nil] at h2 ⊢; omega)
    refine ⟨((A.length : Int) * B.length - A.length - B.length, (i : Int)) :: qs, y3, y4, y5, y6, ?_, by simp [hq]⟩
    have hz : (pairsD ps).length < SZ := by unfold pairsD SZ; rw [List.length_map]; simp only [List.length_cons] at h2; omega
    have hp : pairsD (ps ++ [((A.length : Int) * B.length - A.length - B.length, (i : Int))]) = pairsD ps ++ [.tup [.int ((A.length : Int) * B.length - A.length - B.length), .int i]] := by unfold pairsD; simp
    rw [hp] at ih
    rw [List.map_cons, forS_go (env1 := [some (.val (.lst (rows.map rowD))), x1, some (.own (pairsD ps)), some (.val (.int i)), x4, x5, x6]) (env' := [some (.val (.lst (rows.map rowD))), x1, some (.own (pairsD ps ++ [.tup [.int ((A.length : Int) * B.length - A.length - B.length), .int i]])), some (.val (.int i)), some (.val (.int A.length)), x5, some (.val (.int B.length))]) (μ' := μ) (by simp) (by simp -implicitDefEqProofs [l1_cheapest, c1, c2, hm, hz, szle]), ih]
    simp
theorem r_cheapest (rows : List Rw) (n : Nat) (hr : ∀ R ∈ rows, R.f.length = n) (hl : rows.length ≤ 100000) (left : List Nat) (h1 : ∀ i ∈ left, i < n) (h2 : left.length < 16777216) (h3 : left ≠ []) :
    ∃ i ∈ left, Py.run fs Γ (k + 1) f_cheapest [.lst (rows.map rowD), .lst (left.map fun i : Nat => .int i)] μ = some (.int i, μ) := by
  obtain ⟨qs, y3, y4, y5, y6, e, hq⟩ := ch_loop (k := k) (μ := μ) rows n hr hl (some (.val (.lst (left.map fun i : Nat => .int i)))) left [] none none none none h1 (by simpa using h2)
  cases qs with
  | nil => cases left with
    | nil => exact absurd rfl h3
    | cons a l => simp at hq
  | cons p r =>
    have hm := minP_mem p r
    have h4 : (minP p r).2 ∈ left.map fun i : Nat => (i : Int) := by rw [← hq]; exact List.mem_map.mpr ⟨_, hm, rfl⟩
    obtain ⟨i, hi, hi'⟩ := List.mem_map.mp h4
    refine ⟨i, hi, ?_⟩
    have hb : biS μ .minp [.lst (pairsD (p :: r))] = some (.tup [.int (minP p r).1, .int (minP p r).2]) := by
      unfold biS
      simp [asPairs_map]
    rw [u_cheapest, b_cheapest]
    have e0 : pairsD [] = [] := rfl
    rw [e0, List.nil_append] at e
    simp -implicitDefEqProofs [ex_for, e, hb, szle, atI, ixN, hi']
theorem ro_loop (bs : List Bd) (x0 : Option SV) (hl : bs.length ≤ 16000000) : ∀ (m : Nat) (x4 x5 x6 : Option SV), m ≤ bs.length →
    ∃ y4 y5 y6, forS (T.nm 4) (fun env' μ' => exs (Py.run fs Γ k) Γ l1_rows_of env' μ') (rangeD 0 m) [x0, some (.val (.bl false)), some (.val (.tup (bs.map bdD))), some (.own []), x4, x5, x6] μ =
      some (.nx [x0, some (.val (.bl false)), some (.val (.tup (bs.map bdD))), some (.own ((bs.take m).map fun B => rowD B.row)), y4, y5, y6] μ) := by
  intro m x4 x5 x6 hm
  obtain ⟨env', μ', h1, y4, y5, y6, rfl, rfl⟩ := forS_inv (t := T.nm 4) (b := fun env' μ' => exs (Py.run fs Γ k) Γ l1_rows_of env' μ') (ds := rangeD 0 m) (env := [x0, some (.val (.bl false)), some (.val (.tup (bs.map bdD))), some (.own []), x4, x5, x6]) (μ := μ)
    (fun i env m' => ∃ y4 y5 y6, env = [x0, some (.val (.bl false)), some (.val (.tup (bs.map bdD))), some (.own ((bs.take i).map fun B => rowD B.row)), y4, y5, y6] ∧ m' = μ) ⟨x4, x5, x6, by simp, rfl⟩ (by
      rintro i env m' d hd ⟨y4, y5, y6, rfl, rfl⟩
      obtain ⟨rfl, hi⟩ := rangeD_get hd
      have hib : i < bs.length := by omega
      have hat : atI (bs.map bdD) (i : Int) = some (bdD bs[i]) := by
        rw [atI_of (by simpa using hib)]; simp
      have hz : ((bs.take i).map fun B => rowD B.row).length < SZ := by unfold SZ; rw [List.length_map, List.length_take]; omega
      have ht : (bs.take (i + 1)).map (fun B => rowD B.row) = (bs.take i).map (fun B => rowD B.row) ++ [rowD bs[i].row] := by
        rw [List.take_succ_eq_append_getElem hib, List.map_append]; rfl
      have hz' : min i bs.length < SZ := by unfold SZ; omega
      have t0 : ∀ Q : Bd, itsS m' (bdD Q) = some [.tup (Q.f.map rD), rD Q.r, .bl Q.s] := fun _ => rfl
      have q0 : ∀ Q : Bd, atI [D.tup (Q.f.map rD), rD Q.r, .bl Q.s] 0 = some (.tup (Q.f.map rD)) := fun Q => by simp [atI, ixN]
      have q1 : ∀ Q : Bd, atI [D.tup (Q.f.map rD), rD Q.r, .bl Q.s] 1 = some (rD Q.r) := fun Q => by simp [atI, ixN]
      have q2 : ∀ Q : Bd, atI [D.tup (Q.f.map rD), rD Q.r, .bl Q.s] 2 = some (.bl Q.s) := fun Q => by simp [atI, ixN]
      refine ⟨[x0, some (.val (.bl false)), some (.val (.tup (bs.map bdD))), some (.own ((bs.take i).map fun B => rowD B.row)), some (.val (.int (0 + (i : Nat)))), y5, y6], [x0, some (.val (.bl false)), some (.val (.tup (bs.map bdD))), some (.own ((bs.take i).map (fun B => rowD B.row) ++ [rowD bs[i].row])), some (.val (.int (0 + (i : Nat)))), some (.val (.lst [])), y6], m', by simp, .inl ?_, some (.val (.int (0 + (i : Nat)))), some (.val (.lst [])), y6, by rw [ht], rfl⟩
      simp -implicitDefEqProofs [l1_rows_of, hat, t0, q0, q1, q2, szle, hz', rowD, Bd.row])
  rw [rangeD_len] at h1
  exact ⟨y4, y5, y6, h1⟩
theorem r_rows_of (n : Nat) (bs : List Bd) (hb : ∀ B ∈ bs, Rok b B.row) (hl : bs.length ≤ 16000000) (hb0 : 0 < b) (hn : 6 * b + 4 ≤ 8999) : Py.run fs Γ (k + 7) f_rows_of [.tup [.int n, .tup (bs.map bdD)], .bl false] μ = some (.lst ((strongest (bs.map Bd.row)).map rowD), μ) := by
  obtain ⟨y4, y5, y6, e⟩ := ro_loop (k := k + 6) (μ := μ) bs (some (.val (.tup [.int n, .tup (bs.map bdD)]))) hl bs.length none none none (Nat.le_refl _)
  have g := r_strongest (k := k) (μ := μ) (bs.map Bd.row) (fun R hR => by obtain ⟨B, hB, rfl⟩ := List.mem_map.mp hR; exact hb B hB) hb0 hn (by rw [List.length_map]; omega)
  rw [List.map_map] at g
  have hr := rngS_0 (n := bs.length) (by omega)
  rw [List.take_length] at e
  rw [u_rows_of, b_rows_of]
  have hc : (bs.map fun B => rowD B.row) = bs.map (rowD ∘ Bd.row) := rfl
  simp -implicitDefEqProofs [ex_for, atI, ixN, szle, hr, e, hc, g]
/-- the weight 1 for itself -/
def rowW (m : Nat) (p : Bd × Nat) : Rw := ⟨p.1.f, p.1.r, p.1.s, unitL m p.2 1⟩
def rowsW (bs : List Bd) : List Rw := bs.zipIdx.map (rowW bs.length)
theorem ro_loopW (bs : List Bd) (x0 : Option SV) (hl : bs.length ≤ 1000) : ∀ (m : Nat) (x4 x5 x6 : Option SV), m ≤ bs.length →
    ∃ y4 y5 y6, forS (T.nm 4) (fun env' μ' => exs (Py.run fs Γ k) Γ l1_rows_of env' μ') (rangeD 0 m) [x0, some (.val (.bl true)), some (.val (.tup (bs.map bdD))), some (.own []), x4, x5, x6] μ =
      some (.nx [x0, some (.val (.bl true)), some (.val (.tup (bs.map bdD))), some (.own ((bs.zipIdx.take m).map fun p => rowD (rowW bs.length p))), y4, y5, y6] μ) := by
  intro m x4 x5 x6 hm
  obtain ⟨env', μ', h1, y4, y5, y6, rfl, rfl⟩ := forS_inv (t := T.nm 4) (b := fun env' μ' => exs (Py.run fs Γ k) Γ l1_rows_of env' μ') (ds := rangeD 0 m) (env := [x0, some (.val (.bl true)), some (.val (.tup (bs.map bdD))), some (.own []), x4, x5, x6]) (μ := μ)
    (fun i env m' => ∃ y4 y5 y6, env = [x0, some (.val (.bl true)), some (.val (.tup (bs.map bdD))), some (.own ((bs.zipIdx.take i).map fun p => rowD (rowW bs.length p))), y4, y5, y6] ∧ m' = μ) ⟨x4, x5, x6, by simp, rfl⟩ (by
      rintro i env m' d hd ⟨y4, y5, y6, rfl, rfl⟩
      obtain ⟨rfl, hi⟩ := rangeD_get hd
      have hib : i < bs.length := by omega
      have hat : atI (bs.map bdD) (i : Int) = some (bdD bs[i]) := by
        rw [atI_of (by simpa using hib)]; simp
      have hib' : i < bs.zipIdx.length := by simpa using hib
      have hz : ((bs.zipIdx.take i).map fun p => rowD (rowW bs.length p)).length < SZ := by unfold SZ; rw [List.length_map, List.length_take, List.length_zipIdx]; omega
      have ht : (bs.zipIdx.take (i + 1)).map (fun p => rowD (rowW bs.length p)) = (bs.zipIdx.take i).map (fun p => rowD (rowW bs.length p)) ++ [rowD (rowW bs.length (bs[i], i))] := by
        rw [List.take_succ_eq_append_getElem hib', List.map_append]
        simp
      have hz' : min i bs.length < SZ := by unfold SZ; omega
      have hr := rngS_map (n := bs.length) (by omega)
      have t0 : ∀ Q : Bd, itsS m' (bdD Q) = some [.tup (Q.f.map rD), rD Q.r, .bl Q.s] := fun _ => rfl
      have q0 : ∀ Q : Bd, atI [D.tup (Q.f.map rD), rD Q.r, .bl Q.s] 0 = some (.tup (Q.f.map rD)) := fun Q => by simp [atI, ixN]
      have q1 : ∀ Q : Bd, atI [D.tup (Q.f.map rD), rD Q.r, .bl Q.s] 1 = some (rD Q.r) := fun Q => by simp [atI, ixN]
      have q2 : ∀ Q : Bd, atI [D.tup (Q.f.map rD), rD Q.r, .bl Q.s] 2 = some (.bl Q.s) := fun Q => by simp [atI, ixN]
      have hc : ∀ x3 : Option SV, ev (Py.run fs Γ k) Γ c1_rows_of [x0, some (.val (.bl true)), some (.val (.tup (bs.map bdD))), x3, some (.val (.int (i : Nat))), y5, y6] m' = some (.lst ((List.range bs.length).map fun j : Nat => rD (if j = i then 1 else 0)), m') := by
        intro x3
        rw [c1_rows_of]
        refine ev_lc_map (g := fun j : Nat => D.int (j : Int)) (List.range bs.length) (by simp -implicitDefEqProofs [hr]) (by simp; omega) fun j _ => ⟨[x0, some (.val (.bl true)), some (.val (.tup (bs.map bdD))), x3, some (.val (.int (i : Nat))), y5, some (.val (.int (j : Int)))], by simp, by simp, ?_⟩
        have hji : ((j : Int) = (i : Int)) ↔ j = i := by omega
        by_cases e : j = i
        · simp -implicitDefEqProofs [hji, e, rD_one]
        · simp -implicitDefEqProofs [hji, e, rD_zero]
      refine ⟨[x0, some (.val (.bl true)), some (.val (.tup (bs.map bdD))), some (.own ((bs.zipIdx.take i).map fun p => rowD (rowW bs.length p))), some (.val (.int (0 + (i : Nat)))), y5, y6], [x0, some (.val (.bl true)), some (.val (.tup (bs.map bdD))), some (.own ((bs.zipIdx.take i).map (fun p => rowD (rowW bs.length p)) ++ [rowD (rowW bs.length (bs[i], i))])), some (.val (.int (0 + (i : Nat)))), some (.val (.lst ((List.range bs.length).map fun j : Nat => rD (if j = i then 1 else 0)))), y6], m', by simp, .inl ?_, some (.val (.int (0 + (i : Nat)))), some (.val (.lst ((List.range bs.length).map fun j : Nat => rD (if j = i then 1 else 0)))), y6, by rw [ht], rfl⟩
      simp -implicitDefEqProofs [l1_rows_of, hat, t0, q0, q1, q2, szle, hz', hc, rowD, rowW, unitL, List.map_map, Function.comp_def])
  rw [rangeD_len] at h1
  exact ⟨y4, y5, y6, h1⟩
theorem r_rows_ofW (n : Nat) (bs : List Bd) (hb : ∀ R ∈ rowsW bs, Rok b R) (hl : bs.length ≤ 1000) (hb0 : 0 < b) (hn : 6 * b + 4 ≤ 8999) : Py.run fs Γ (k + 7) f_rows_of [.tup [.int n, .tup (bs.map bdD)], .bl true] μ = some (.lst ((strongest (rowsW bs)).map rowD), μ) := by
  obtain ⟨y4, y5, y6, e⟩ := ro_loopW (k := k + 6) (μ := μ) bs (some (.val (.tup [.int n, .tup (bs.map bdD)]))) hl bs.length none none none (Nat.le_refl _)
  have g := r_strongest (k := k) (μ := μ) (rowsW bs) hb hb0 hn (by unfold rowsW; rw [List.length_map, List.length_zipIdx]; omega)
  have hr := rngS_0 (n := bs.length) (by omega)
  rw [List.take_of_length_le (by simp)] at e
  have hc : (bs.zipIdx.map fun p => rowD (rowW bs.length p)) = (rowsW bs).map rowD := by unfold rowsW; rw [List.map_map]; rfl
  rw [hc] at e
  rw [u_rows_of, b_rows_of]
  simp -implicitDefEqProofs [ex_for, atI, ixN, szle, hr, e, g]
end
end P1
end
section
set_option Elab.async false
set_option linter.all false
set_option maxRecDepth 100000
set_option maxHeartbeats 0
namespace Geo
open PySem L2 Py FM
/-! ### stages of elimination, and back -/
inductive Stg : List Nat → List Rw → List (Nat × List Rw) → List Rw → Prop
  | stop {left : List Nat} {rows : List Rw} : (left = [] ∨ ∃ R ∈ rows, R.against = true) → Stg left rows [] rows
  | step {left : List Nat} {rows : List Rw} {found : List (Nat × List Rw)} {rows' : List Rw} {i : Nat} : i ∈ left → (∀ R ∈ rows, R.against = false) → Stg (left.filter fun j => decide (j ≠ i)) (FM.elim i rows) found rows' → Stg left rows ((i, rows) :: found) rows'
/-- what holds of rows while quantities are left -/
structure StOk (n b : Nat) (left : List Nat) (rows : List Rw) : Prop where
  inn : ∀ i ∈ left, i < n
  row : ∀ R ∈ rows, R.f.length = n ∧ Rok b R
  zer : ∀ i < n, i ∉ left → ∀ R ∈ rows, R.at i = 0
  som : ∀ R ∈ rows, R.nothing = false
theorem StOk.next {n b i : Nat} {left : List Nat} {rows : List Rw} (h : StOk n b left rows) (hi : i ∈ left) (hb : 0 < b) : StOk n (12 * b + 10) (left.filter fun j => decide (j ≠ i)) (FM.elim i rows) := by
  obtain ⟨f1, f2, f3, f4⟩ := elim_facts (b := b) h.row (h.inn i hi) hb
  refine ⟨fun j hj => h.inn j (List.mem_filter.mp hj).1, f1, fun j hj hjl R hR => ?_, f4⟩
  by_cases e : j = i
  · rw [e]; exact f2 R hR
  · exact f3 j (h.zer j hj (fun z => hjl (List.mem_filter.mpr ⟨z, by simpa using e⟩))) R hR
theorem stok_nil {n b : Nat} {rows : List Rw} (h : StOk n b [] rows) : ∀ R ∈ rows, R.against = true := fun R hR => by
  unfold Rw.against
  rw [all_zero (h.row R hR).1 (fun i hi => h.zer i hi (by simp) R hR), h.som R hR]
  rfl
theorem stg_end {n : Nat} {left : List Nat} {rows : List Rw} {found : List (Nat × List Rw)} {rows' : List Rw} (s : Stg left rows found rows') : ∀ {b : Nat}, StOk n b left rows → 0 < b → ((∃ R ∈ rows', R.against = true) ↔ ¬ hasPt n rows) := by
  induction s with
  | @stop left rows hs =>
    intro b h hb
    constructor
    · rintro ⟨R, hR, ha⟩ ⟨x, _, hx⟩
      exact against_not ha x (hx R hR)
    · intro hno
      rcases hs with hs | hs
      · subst hs
        cases rows with
        | nil => exact absurd ⟨List.replicate n 0, by simp, fun _ h => by cases h⟩ hno
        | cons R r => exact ⟨R, by simp, stok_nil h R (by simp)⟩
      · exact hs
  | @step left rows found rows' i hi ha s ih =>
    intro b h hb
    exact (ih (h.next hi hb) (by omega)).trans (not_congr (elim_ex (fun R hR => (h.row R hR).1) (h.inn i hi)))
/-! the worth between -/
def stepL (acc : Option (Rat × Bool)) (e : Rat × Bool) : Option (Rat × Bool) := match acc with
  | none => some e
  | some l => if l.1 < e.1 ∨ (e.1 = l.1 ∧ e.2 = true) then some e else some l
def stepU (acc : Option (Rat × Bool)) (e : Rat × Bool) : Option (Rat × Bool) := match acc with
  | none => some e
  | some l => if e.1 < l.1 ∨ (e.1 = l.1 ∧ e.2 = true) then some e else some l
theorem foldL_some : ∀ (L : List (Rat × Bool)) (a : Rat × Bool), ∃ l, L.foldl stepL (some a) = some l ∧ (l = a ∨ l ∈ L) ∧ ∀ t, okv l.2 (t - l.1) → okv a.2 (t - a.1) ∧ ∀ l' ∈ L, okv l'.2 (t - l'.1)
  | [], a => ⟨a, rfl, .inl rfl, fun t h => ⟨h, fun _ h => by cases h⟩⟩
  | e :: L, a => by
    rw [List.foldl_cons]
    by_cases c : a.1 < e.1 ∨ (e.1 = a.1 ∧ e.2 = true)
    · obtain ⟨l, h1, h2, h3⟩ := foldL_some L e
      refine ⟨l, by rw [stepL, if_pos c]; exact h1, .inr ?_, fun t ht => ?_⟩
      · rcases h2 with h2 | h2
        · rw [h2]; simp
        · simp [h2]
      · obtain ⟨k1, k2⟩ := h3 t ht
        refine ⟨?_, fun l' hl' => ?_⟩
        · unfold okv at k1 ⊢
          rcases c with c | ⟨c, c2⟩
          · split at k1 <;> split <;> grind
          · rw [c2, if_pos rfl] at k1
            split <;> grind
        · rcases List.mem_cons.mp hl' with e' | e'
          · rw [e']; exact k1
          · exact k2 l' e'
    · obtain ⟨l, h1, h2, h3⟩ := foldL_some L a
      refine ⟨l, by rw [stepL, if_neg c]; exact h1, ?_, fun t ht => ?_⟩
      · rcases h2 with h2 | h2
        · exact .inl h2
        · exact .inr (by simp [h2])
      · obtain ⟨k1, k2⟩ := h3 t ht
        refine ⟨k1, fun l' hl' => ?_⟩
        rcases List.mem_cons.mp hl' with e' | e'
        · rw [e']
          have c1 : ¬ a.1 < e.1 := fun z => c (.inl z)
          have c2 : ¬ (e.1 = a.1 ∧ e.2 = true) := fun z => c (.inr z)
          unfold okv at k1 ⊢
          by_cases e2 : e.1 = a.1
          · have e3 : e.2 = false := by
              cases h : e.2 with
              | true => exact absurd ⟨e2, h⟩ c2
              | false => rfl
            rw [e3, if_neg Bool.false_ne_true]
            split at k1 <;> grind
          · have : e.1 < a.1 := by grind
            split at k1 <;> split <;> grind
        · exact k2 l' e'
theorem foldU_some : ∀ (L : List (Rat × Bool)) (a : Rat × Bool), ∃ l, L.foldl stepU (some a) = some l ∧ (l = a ∨ l ∈ L) ∧ ∀ t, okv l.2 (l.1 - t) → okv a.2 (a.1 - t) ∧ ∀ l' ∈ L, okv l'.2 (l'.1 - t)
  | [], a => ⟨a, rfl, .inl rfl, fun t h => ⟨h, fun _ h => by cases h⟩⟩
  | e :: L, a => by
    rw [List.foldl_cons]
    by_cases c : e.1 < a.1 ∨ (e.1 = a.1 ∧ e.2 = true)
    · obtain ⟨l, h1, h2, h3⟩ := foldU_some L e
      refine ⟨l, by rw [stepU, if_pos c]; exact h1, .inr ?_, fun t ht => ?_⟩
      · rcases h2 with h2 | h2
        · rw [h2]; simp
        · simp [h2]
      · obtain ⟨k1, k2⟩ := h3 t ht
        refine ⟨?_, fun l' hl' => ?_⟩
        · unfold okv at k1 ⊢
          rcases c with c | ⟨c, c2⟩
          · split at k1 <;> split <;> grind
          · rw [c2, if_pos rfl] at k1
            split <;> grind
        · rcases List.mem_cons.mp hl' with e' | e'
          · rw [e']; exact k1
          · exact k2 l' e'
    · obtain ⟨l, h1, h2, h3⟩ := foldU_some L a
      refine ⟨l, by rw [stepU, if_neg c]; exact h1, ?_, fun t ht => ?_⟩
      · rcases h2 with h2 | h2
        · exact .inl h2
        · exact .inr (by simp [h2])
      · obtain ⟨k1, k2⟩ := h3 t ht
        refine ⟨k1, fun l' hl' => ?_⟩
        rcases List.mem_cons.mp hl' with e' | e'
        · rw [e']
          have c1 : ¬ e.1 < a.1 := fun z => c (.inl z)
          have c2 : ¬ (e.1 = a.1 ∧ e.2 = true) := fun z => c (.inr z)
          unfold okv at k1 ⊢
          by_cases e2 : e.1 = a.1
          · have e3 : e.2 = false := by
              cases h : e.2 with
              | true => exact absurd ⟨e2, h⟩ c2
              | false => rfl
            rw [e3, if_neg Bool.false_ne_true]
            split at k1 <;> grind
          · have : a.1 < e.1 := by grind
            split at k1 <;> split <;> grind
        · exact k2 l' e'
def edge (i : Nat) (x : List Rat) (R : Rw) : Rat × Bool := (-(R.r + dot R.f x) / R.at i, R.s)
/-- the fold of the program's loop, both ends at once -/
def stepW (i : Nat) (x : List Rat) (acc : Option (Rat × Bool) × Option (Rat × Bool)) (R : Rw) : Option (Rat × Bool) × Option (Rat × Bool) :=
  (if 0 < R.at i then stepL acc.1 (edge i x R) else acc.1, if R.at i < 0 then stepU acc.2 (edge i x R) else acc.2)
def ends (i : Nat) (x : List Rat) (rows : List Rw) : Option (Rat × Bool) × Option (Rat × Bool) := rows.foldl (stepW i x) (none, none)
def midW : Option (Rat × Bool) × Option (Rat × Bool) → Rat
  | (none, none) => 0
  | (some l, none) => if l.2 then l.1 + 1 else l.1
  | (none, some u) => if u.2 then u.1 - 1 else u.1
  | (some l, some u) => (l.1 + u.1) / 2
def worth (i : Nat) (x : List Rat) (rows : List Rw) : Rat := midW (ends i x rows)
theorem ends_split (i : Nat) (x : List Rat) : ∀ (rows : List Rw) (a b : Option (Rat × Bool)), rows.foldl (stepW i x) (a, b) = (((rows.filter fun R => decide (0 < R.at i)).map (edge i x)).foldl stepL a, ((rows.filter fun R => decide (R.at i < 0)).map (edge i x)).foldl stepU b)
  | [], a, b => rfl
  | R :: rows, a, b => by
    rw [List.foldl_cons]
    unfold stepW
    rw [show List.foldl (fun acc R => ((if 0 < R.at i then stepL acc.1 (edge i x R) else acc.1, if R.at i < 0 then stepU acc.2 (edge i x R) else acc.2) : Option (Rat × Bool) × Option (Rat × Bool))) _ rows = List.foldl (stepW i x) _ rows from rfl, ends_split i x rows]
    by_cases c1 : 0 < R.at i
    · have c2 : ¬ R.at i < 0 := by grind
      simp [List.filter_cons, c1, c2]
    · by_cases c2 : R.at i < 0
      · simp [List.filter_cons, c1, c2]
      · simp [List.filter_cons, c1, c2]
theorem worth_ok {rows : List Rw} {n i : Nat} {x : List Rat} (hn : ∀ R ∈ rows, R.f.length = n) (hi : i < n) (hx : x.length = n) (h0 : x.getD i 0 = 0) (h : ∃ t, Sat rows (x.set i t)) : Sat rows (x.set i (worth i x rows)) := by
  obtain ⟨t0, ht0⟩ := h
  have hset : ∀ R ∈ rows, ∀ t, R.ok (x.set i t) ↔ okv R.s (R.at i * t + R.rest i x) := fun R hR t => ok_set (by rw [hn R hR]; exact hi) (by rw [hx]; exact hi)
  have hrest : ∀ R : Rw, R.rest i x = R.r + dot R.f x := fun R => by unfold Rw.rest; rw [h0]; grind
  have hlow : ∀ R ∈ rows, 0 < R.at i → ∀ t, R.ok (x.set i t) ↔ okv (edge i x R).2 (t - (edge i x R).1) := fun R hR hp t => by
    rw [hset R hR, okv_low hp, hrest]
    unfold edge
    dsimp only
    rw [show -(R.r + dot R.f x) / R.at i = -((R.r + dot R.f x) / R.at i) by grind]
  have hup : ∀ R ∈ rows, R.at i < 0 → ∀ t, R.ok (x.set i t) ↔ okv (edge i x R).2 ((edge i x R).1 - t) := fun R hR hp t => by
    rw [hset R hR, okv_up hp, hrest]
    unfold edge
    dsimp only
    rw [show -(R.r + dot R.f x) / R.at i = (R.r + dot R.f x) / -R.at i by grind]
  have key : ∀ t, (∀ l ∈ (rows.filter fun R => decide (0 < R.at i)).map (edge i x), okv l.2 (t - l.1)) → (∀ u ∈ (rows.filter fun R => decide (R.at i < 0)).map (edge i x), okv u.2 (u.1 - t)) → Sat rows (x.set i t) := by
    intro t k1 k2 R hR
    by_cases c1 : 0 < R.at i
    · exact (hlow R hR c1 t).mpr (k1 _ (List.mem_map.mpr ⟨R, List.mem_filter.mpr ⟨hR, by simpa using c1⟩, rfl⟩))
    · by_cases c2 : R.at i < 0
      · exact (hup R hR c2 t).mpr (k2 _ (List.mem_map.mpr ⟨R, List.mem_filter.mpr ⟨hR, by simpa using c2⟩, rfl⟩))
      · have c3 : R.at i = 0 := by grind
        have := (hset R hR t0).mp (ht0 R hR)
        rw [hset R hR]
        rw [c3] at this ⊢
        rw [show (0 : Rat) * t + R.rest i x = 0 * t0 + R.rest i x by grind]
        exact this
  have kl : ∀ l ∈ (rows.filter fun R => decide (0 < R.at i)).map (edge i x), okv l.2 (t0 - l.1) := fun l hl => by
    obtain ⟨R, hR, rfl⟩ := List.mem_map.mp hl
    obtain ⟨h1, h2⟩ := List.mem_filter.mp hR
    exact (hlow R h1 (by simpa using h2) t0).mp (ht0 R h1)
  have ku : ∀ u ∈ (rows.filter fun R => decide (R.at i < 0)).map (edge i x), okv u.2 (u.1 - t0) := fun l hl => by
    obtain ⟨R, hR, rfl⟩ := List.mem_map.mp hl
    obtain ⟨h1, h2⟩ := List.mem_filter.mp hR
    exact (hup R h1 (by simpa using h2) t0).mp (ht0 R h1)
  unfold worth ends
  rw [ends_split]
  generalize (rows.filter fun R => decide (0 < R.at i)).map (edge i x) = L at *
  generalize (rows.filter fun R => decide (R.at i < 0)).map (edge i x) = U at *
  cases L with
  | nil =>
    cases U with
    | nil => exact key _ (fun _ h => by cases h) fun _ h => by cases h
    | cons u U =>
      obtain ⟨v, h1, h2, h3⟩ := foldU_some U u
      rw [List.foldl_nil, List.foldl_cons, show stepU none u = some u from rfl, h1]
      have := h3 (midW (none, some v)) (by unfold midW okv; split <;> grind)
      refine key _ (fun _ h => by cases h) fun w hw => ?_
      rcases List.mem_cons.mp hw with e | e
      · rw [e]; exact this.1
      · exact this.2 w e
  | cons l L =>
    obtain ⟨m, h1, h2, h3⟩ := foldL_some L l
    rw [List.foldl_cons, show stepL none l = some l from rfl, h1]
    have lall : ∀ t, okv m.2 (t - m.1) → ∀ w ∈ l :: L, okv w.2 (t - w.1) := fun t ht w hw => by
      have := h3 t ht
      rcases List.mem_cons.mp hw with e | e
      · rw [e]; exact this.1
      · exact this.2 w e
    have hm0 : okv m.2 (t0 - m.1) := kl m (by rcases h2 with h2 | h2 <;> simp [h2])
    cases U with
    | nil => exact key _ (lall _ (by unfold List.foldl midW okv; split <;> grind)) fun _ h => by cases h
    | cons u U =>
      obtain ⟨v, g1, g2, g3⟩ := foldU_some U u
      rw [List.foldl_cons, show stepU none u = some u from rfl, g1]
      have uall : ∀ t, okv v.2 (v.1 - t) → ∀ w ∈ u :: U, okv w.2 (w.1 - t) := fun t ht w hw => by
        have := g3 t ht
        rcases List.mem_cons.mp hw with e | e
        · rw [e]; exact this.1
        · exact this.2 w e
      have hv0 : okv v.2 (v.1 - t0) := ku v (by rcases g2 with g2 | g2 <;> simp [g2])
      have hmid : midW (some m, some v) = (m.1 + v.1) / 2 := rfl
      rw [hmid]
      have e1 : (m.1 + v.1) / 2 - m.1 = (v.1 - m.1) / 2 := by grind
      have e2 : v.1 - (m.1 + v.1) / 2 = (v.1 - m.1) / 2 := by grind
      refine key _ (lall _ ?_) (uall _ ?_)
      · rw [e1]
        unfold okv at hm0 hv0 ⊢
        split at hm0 <;> split at hv0 <;> grind
      · rw [e2]
        unfold okv at hm0 hv0 ⊢
        split at hm0 <;> split at hv0 <;> grind
/-- the point that comes of the stages -/
def back (n : Nat) : List (Nat × List Rw) → List Rat
  | [] => List.replicate n 0
  | (i, rows) :: found => (back n found).set i (worth i (back n found) rows)
theorem back_length (n : Nat) : ∀ found : List (Nat × List Rw), (back n found).length = n
  | [] => by simp [back]
  | (i, rows) :: found => by rw [back, List.length_set]; exact back_length n found
theorem stg_in {left : List Nat} {rows : List Rw} {found : List (Nat × List Rw)} {rows' : List Rw} (s : Stg left rows found rows') : ∀ p ∈ found, p.1 ∈ left := by
  induction s with
  | stop _ => intro p h; cases h
  | step hi ha s ih =>
    intro p hp
    rcases List.mem_cons.mp hp with e | e
    · rw [e]; exact hi
    · exact (List.mem_filter.mp (ih p e)).1
theorem back_zero (n : Nat) : ∀ (found : List (Nat × List Rw)) (j : Nat), (∀ p ∈ found, p.1 ≠ j) → (back n found).getD j 0 = 0
  | [], j, _ => by
    unfold back
    rw [List.getD_eq_getElem?_getD]
    by_cases h : j < n
    · rw [List.getElem?_eq_getElem (by simpa using h)]; simp
    · rw [List.getElem?_eq_none (by simpa using h)]; rfl
  | (i, rows) :: found, j, h => by
    have := back_zero n found j (fun p hp => h p (by simp [hp]))
    have hij : i ≠ j := h (i, rows) (by simp)
    rw [back, List.getD_eq_getElem?_getD, List.getElem?_set_ne hij, ← List.getD_eq_getElem?_getD]
    exact this
theorem back_sat {n : Nat} {left : List Nat} {rows : List Rw} {found : List (Nat × List Rw)} {rows' : List Rw} (s : Stg left rows found rows') : ∀ {b : Nat}, StOk n b left rows → 0 < b → (∀ R ∈ rows', R.against = false) → Sat rows (back n found) := by
  induction s with
  | @stop left rows hs =>
    intro b h hb hno R hR
    rcases hs with hs | ⟨S, hS, hS'⟩
    · subst hs
      exact absurd ((hno R hR).symm.trans (stok_nil h R hR)) (by decide)
    · exact absurd ((hno S hS).symm.trans hS') (by decide)
  | @step left rows found rows' i hi ha s ih =>
    intro b h hb hno
    have h1 := ih (h.next hi hb) (by omega) hno
    have h2 := (elim_sat (fun R hR => (h.row R hR).1) (h.inn i hi) (back_length n found)).mp h1
    rw [back]
    refine worth_ok (fun R hR => (h.row R hR).1) (h.inn i hi) (back_length n found) (back_zero n found i fun p hp e => ?_) h2
    have := (List.mem_filter.mp (stg_in s p hp)).2
    simp [e] at this
/-! sizes -/
theorem dot_sz {b c : Nat} : ∀ (f x : List Rat), (∀ a ∈ f, Sz b a) → (∀ a ∈ x, Sz c a) → Sz (1 + f.length * (b + c + 1)) (dot f x)
  | [], _, _, _ => by simpa [dot] using sz_zero (b := 1) (by decide)
  | _ :: _, [], _, _ => by rw [dot]; exact (sz_zero (b := 1) (by decide)).mono (by omega); all_goals simp
  | a :: f, y :: x, h1, h2 => by
    have ih := dot_sz f x (fun z hz => h1 z (by simp [hz])) (fun z hz => h2 z (by simp [hz]))
    rw [dot]
    exact (((h1 a (by simp)).mul (h2 y (by simp))).add ih).mono (by simp only [List.length_cons, Nat.succ_mul]; omega)
theorem edge_sz {n b c i : Nat} {x : List Rat} {R : Rw} (h : Rok b R) (hl : R.f.length = n) (hi : i < n) (hx : ∀ a ∈ x, Sz c a) (h0 : R.at i ≠ 0) : Sz (2 * b + 2 + n * (b + c + 1)) (edge i x R).1 := by
  have h1 := dot_sz (b := b) (c := c) R.f x h.1.1 hx
  rw [hl] at h1
  exact (((h.1.2.1.add h1).neg).div (sz_at h.1 (by omega)) h0).mono (by omega)
theorem ends_sz {n b c i : Nat} {x : List Rat} {rows : List Rw} (h : ∀ R ∈ rows, R.f.length = n ∧ Rok b R) (hi : i < n) (hx : ∀ a ∈ x, Sz c a) : ∀ (a1 a2 : Option (Rat × Bool)), (∀ l, a1 = some l → Sz (2 * b + 2 + n * (b + c + 1)) l.1) → (∀ l, a2 = some l → Sz (2 * b + 2 + n * (b + c + 1)) l.1) →
    (∀ l, (rows.foldl (stepW i x) (a1, a2)).1 = some l → Sz (2 * b + 2 + n * (b + c + 1)) l.1) ∧ (∀ l, (rows.foldl (stepW i x) (a1, a2)).2 = some l → Sz (2 * b + 2 + n * (b + c + 1)) l.1) := by
  induction rows with
  | nil => intro a1 a2 h1 h2; exact ⟨h1, h2⟩
  | cons R rows ih =>
    intro a1 a2 h1 h2
    rw [List.foldl_cons]
    have hR := h R (by simp)
    refine ih (fun S hS => h S (by simp [hS])) _ _ (fun l hl => ?_) (fun l hl => ?_)
    · split at hl
      · rename_i c1
        have hs := edge_sz hR.2 hR.1 hi hx (by grind : R.at i ≠ 0)
        cases a1 with
        | none => cases hl; exact hs
        | some a =>
          unfold stepL at hl
          dsimp only at hl
          split at hl
          · cases hl; exact hs
          · cases hl; exact h1 _ rfl
      · exact h1 l hl
    · split at hl
      · rename_i c1
        have hs := edge_sz hR.2 hR.1 hi hx (by grind : R.at i ≠ 0)
        cases a2 with
        | none => cases hl; exact hs
        | some a =>
          unfold stepU at hl
          dsimp only at hl
          split at hl
          · cases hl; exact hs
          · cases hl; exact h2 _ rfl
      · exact h2 l hl
def wB (n b c : Nat) : Nat := 2 * (2 * b + 2 + n * (b + c + 1)) + 4
theorem sz_two : Sz 2 2 := ⟨by decide, by decide⟩
theorem worth_sz {n b c i : Nat} {x : List Rat} {rows : List Rw} (h : ∀ R ∈ rows, R.f.length = n ∧ Rok b R) (hi : i < n) (hx : ∀ a ∈ x, Sz c a) : Sz (wB n b c) (worth i x rows) := by
  obtain ⟨h1, h2⟩ := ends_sz h hi hx none none (fun _ h => by cases h) (fun _ h => by cases h)
  unfold worth wB
  unfold ends
  generalize rows.foldl (stepW i x) (none, none) = e at *
  obtain ⟨l, u⟩ := e
  have s1 := sz_one (b := 1) (by decide)
  cases l with
  | none => cases u with
    | none => exact (sz_zero (b := 1) (by decide)).mono (by omega)
    | some u =>
      have hu := h2 u rfl
      show Sz _ (if u.2 then u.1 - 1 else u.1)
      split
      · rw [Rat.sub_eq_add_neg]; exact (hu.add s1.neg).mono (by omega)
      · exact hu.mono (by omega)
  | some l =>
    have hl := h1 l rfl
    cases u with
    | none =>
      show Sz _ (if l.2 then l.1 + 1 else l.1)
      split
      · exact (hl.add s1).mono (by omega)
      · exact hl.mono (by omega)
    | some u => exact ((hl.add (h2 u rfl)).div sz_two (by decide)).mono (by omega)
def backB (n : Nat) : Nat → Nat → Nat
  | _, 0 => 1
  | b, m + 1 => wB n b (backB n (12 * b + 10) m)
theorem backB_mono (n : Nat) : ∀ (m m' b : Nat), m ≤ m' → backB n b m ≤ backB n b m'
  | 0, m', b, _ => by cases m' with
    | zero => exact Nat.le_refl _
    | succ m' => rw [backB, backB, wB]; omega
  | m + 1, 0, _, h => by omega
  | m + 1, m' + 1, b, h => by
    rw [backB, backB, wB, wB]
    have := backB_mono n m m' (12 * b + 10) (by omega)
    have := Nat.mul_le_mul_left n (show b + backB n (12 * b + 10) m + 1 ≤ b + backB n (12 * b + 10) m' + 1 by omega)
    omega
theorem back_sz {n : Nat} {left : List Nat} {rows : List Rw} {found : List (Nat × List Rw)} {rows' : List Rw} (s : Stg left rows found rows') : ∀ {b : Nat}, StOk n b left rows → 0 < b → 0 < n → ∀ a ∈ back n found, Sz (backB n b found.length) a := by
  induction s with
  | stop _ =>
    intro b h hb hn a ha
    unfold back at ha
    rw [List.eq_of_mem_replicate ha]
    show Sz 1 0
    exact sz_zero (by decide)
  | @step left rows found rows' i hi ha s ih =>
    intro b h hb hn a ha
    have h1 := ih (h.next hi hb) (by omega) hn
    rw [back] at ha
    rw [List.length_cons, backB]
    rcases List.mem_or_eq_of_mem_set ha with e | e
    · refine (h1 a e).mono ?_
      rw [wB]
      have : 1 * backB n (12 * b + 10) found.length ≤ n * (b + backB n (12 * b + 10) found.length + 1) := Nat.mul_le_mul (by omega) (by omega)
      omega
    · rw [e]
      exact worth_sz h.row (h.inn i hi) h1
theorem stg_len {left : List Nat} {rows : List Rw} {found : List (Nat × List Rw)} {rows' : List Rw} (s : Stg left rows found rows') : found.length ≤ left.length := by
  induction s with
  | stop _ => simp
  | @step left rows found rows' i hi ha s ih =>
    have : (left.filter fun j => decide (j ≠ i)).length < left.length := by
      apply List.length_filter_lt_length_iff_exists.mpr
      exact ⟨i, hi, by simp⟩
    rw [List.length_cons]
    omega
/-! weights: what a row is made of -/
structure WOk (bs : List Bd) (n : Nat) (R : Rw) : Prop where
  len : R.w.length = bs.length
  pos : ∀ a ∈ R.w, 0 ≤ a
  fac : ∀ j < n, R.at j = dot R.w (bs.map fun B => B.f.getD j 0)
  res : R.r = dot R.w (bs.map fun B => B.r)
  str : R.s = true ↔ ∃ p ∈ bs.zip R.w, p.1.s = true ∧ 0 < p.2
theorem WOk.scale {bs : List Bd} {n : Nat} {R : Rw} {c : Rat} (h : WOk bs n R) (hc : 0 < c) : WOk bs n (R.scale c) := by
  have h0 : (0 : Rat) ≤ c := Rat.le_of_lt hc
  refine ⟨by simp [Rw.scale, h.len], fun a ha => ?_, fun j hj => ?_, ?_, ?_⟩
  · obtain ⟨y, hy, rfl⟩ := List.mem_map.mp ha
    exact Rat.mul_nonneg h0 (h.pos y hy)
  · rw [scale_at, h.fac j hj]
    show _ = dot (R.w.map (c * ·)) _
    rw [dot_scale]
  · show c * R.r = dot (R.w.map (c * ·)) _
    rw [dot_scale, h.res]
  · show R.s = true ↔ ∃ p ∈ bs.zip (R.w.map (c * ·)), p.1.s = true ∧ 0 < p.2
    rw [h.str]
    constructor
    · rintro ⟨p, hp, h1, h2⟩
      obtain ⟨i, hi, e⟩ := List.getElem_of_mem hp
      rw [List.getElem_zip] at e
      subst e
      rw [List.length_zip] at hi
      refine ⟨(bs[i], c * R.w[i]), ?_, h1, Rat.mul_pos hc h2⟩
      exact List.mem_iff_getElem.mpr ⟨i, by rw [List.length_zip, List.length_map]; exact hi, by rw [List.getElem_zip, List.getElem_map]⟩
    · rintro ⟨p, hp, h1, h2⟩
      obtain ⟨i, hi, e⟩ := List.getElem_of_mem hp
      rw [List.getElem_zip, List.getElem_map] at e
      subst e
      rw [List.length_zip, List.length_map] at hi
      refine ⟨(bs[i], R.w[i]), List.mem_iff_getElem.mpr ⟨i, by rw [List.length_zip]; exact hi, by rw [List.getElem_zip]⟩, h1, ?_⟩
      refine Rat.not_le.mp fun z => ?_
      have := Rat.mul_le_mul_of_nonneg_left z h0
      dsimp only at h2
      grind
theorem WOk.even {bs : List Bd} {n : Nat} {R : Rw} (h : WOk bs n R) : WOk bs n R.even := by
  unfold Rw.even
  split
  · exact h
  · rename_i t ht
    exact h.scale (inv_pos' (absR_pos (firstNZ_some ht).1))
theorem addL_get' (f g : List Rat) (j : Nat) (h1 : j < f.length) (h2 : j < g.length) : (addL f g)[j]? = some (f[j] + g[j]) := by
  rw [addL_zip, List.getElem?_map, List.getElem?_eq_getElem (by rw [List.length_zip]; omega), List.getElem_zip]
  rfl
theorem WOk.sum {bs : List Bd} {n : Nat} {R S : Rw} (h : WOk bs n R) (h' : WOk bs n S) (hl : R.f.length = S.f.length) : WOk bs n (R.sum S) := by
  have hw : R.w.length = S.w.length := h.len.trans h'.len.symm
  refine ⟨?_, fun a ha => ?_, fun j hj => ?_, ?_, ?_⟩
  · show (addL R.w S.w).length = _
    rw [addL_length _ _ hw, h.len]
  · obtain ⟨x, hx, y, hy, rfl⟩ := mem_addL ha
    have := h.pos x hx
    have := h'.pos y hy
    grind
  · rw [sum_at _ _ _ hl, h.fac j hj, h'.fac j hj]
    exact (dot_add _ _ _ hw).symm
  · show R.r + S.r = dot (addL R.w S.w) _
    rw [dot_add _ _ _ hw, h.res, h'.res]
  · show (R.s || S.s) = true ↔ ∃ p ∈ bs.zip (addL R.w S.w), p.1.s = true ∧ 0 < p.2
    rw [Bool.or_eq_true, h.str, h'.str]
    have hln : (addL R.w S.w).length = bs.length := by rw [addL_length _ _ hw, h.len]
    have get : ∀ i (hi : i < bs.length), (addL R.w S.w)[i]'(by omega) = R.w[i]'(by rw [h.len]; exact hi) + S.w[i]'(by rw [h'.len]; exact hi) := fun i hi => by
      have := addL_get' R.w S.w i (by rw [h.len]; exact hi) (by rw [h'.len]; exact hi)
      rw [List.getElem?_eq_getElem (by omega)] at this
      exact Option.some.inj this
    constructor
    · rintro (⟨p, hp, h1, h2⟩ | ⟨p, hp, h1, h2⟩)
      · obtain ⟨i, hi, e⟩ := List.getElem_of_mem hp
        rw [List.getElem_zip] at e
        subst e
        rw [List.length_zip] at hi
        have hi' : i < bs.length := by omega
        refine ⟨(bs[i], (addL R.w S.w)[i]), List.mem_iff_getElem.mpr ⟨i, by rw [List.length_zip]; omega, by rw [List.getElem_zip]⟩, h1, ?_⟩
        rw [get i hi']
        have := h'.pos _ (List.getElem_mem (by rw [h'.len]; exact hi' : i < S.w.length))
        dsimp only at h2 ⊢
        grind
      · obtain ⟨i, hi, e⟩ := List.getElem_of_mem hp
        rw [List.getElem_zip] at e
        subst e
        rw [List.length_zip] at hi
        have hi' : i < bs.length := by omega
        refine ⟨(bs[i], (addL R.w S.w)[i]), List.mem_iff_getElem.mpr ⟨i, by rw [List.length_zip]; omega, by rw [List.getElem_zip]⟩, h1, ?_⟩
        rw [get i hi']
        have := h.pos _ (List.getElem_mem (by rw [h.len]; exact hi' : i < R.w.length))
        dsimp only at h2 ⊢
        grind
    · rintro ⟨p, hp, h1, h2⟩
      obtain ⟨i, hi, e⟩ := List.getElem_of_mem hp
      rw [List.getElem_zip] at e
      subst e
      rw [List.length_zip] at hi
      have hi' : i < bs.length := by omega
      dsimp only at h1 h2
      rw [get i hi'] at h2
      by_cases c : 0 < R.w[i]'(by rw [h.len]; exact hi')
      · exact .inl ⟨(bs[i], R.w[i]'(by rw [h.len]; exact hi')), List.mem_iff_getElem.mpr ⟨i, by rw [List.length_zip, h.len]; omega, by rw [List.getElem_zip]⟩, h1, c⟩
      · refine .inr ⟨(bs[i], S.w[i]'(by rw [h'.len]; exact hi')), List.mem_iff_getElem.mpr ⟨i, by rw [List.length_zip, h'.len]; omega, by rw [List.getElem_zip]⟩, h1, ?_⟩
        dsimp only
        grind
theorem elim_wok {bs : List Bd} {n b i : Nat} {rows : List Rw} (hr : ∀ R ∈ rows, R.f.length = n ∧ Rok b R) (h : ∀ R ∈ rows, WOk bs n R) : ∀ R ∈ FM.elim i rows, WOk bs n R := by
  refine strongest_mem (P := fun R => WOk bs n R) fun R hR => WOk.even ?_
  unfold elimL at hR
  rcases List.mem_append.mp hR with hR | hR
  · exact h R (List.mem_filter.mp hR).1
  · obtain ⟨S, hS, hR⟩ := List.mem_flatMap.mp hR
    obtain ⟨T, hT, rfl⟩ := List.mem_map.mp hR
    obtain ⟨s1, s2⟩ := List.mem_filter.mp hS
    obtain ⟨t1, t2⟩ := List.mem_filter.mp hT
    rw [decide_eq_true_eq] at s2 t2
    refine ((h S s1).scale (inv_pos' s2)).sum ((h T t1).scale (inv_pos' (by grind))) ?_
    simp [Rw.scale, (hr S s1).1, (hr T t1).1]
theorem stg_wok {bs : List Bd} {n : Nat} {left : List Nat} {rows : List Rw} {found : List (Nat × List Rw)} {rows' : List Rw} (s : Stg left rows found rows') : ∀ {b : Nat}, StOk n b left rows → 0 < b → (∀ R ∈ rows, WOk bs n R) → ∀ R ∈ rows', WOk bs n R := by
  induction s with
  | stop _ => intro b h hb hw; exact hw
  | step hi ha s ih => intro b h hb hw; exact ih (h.next hi hb) (by omega) (elim_wok h.row hw)
theorem stg_flen {n : Nat} {left : List Nat} {rows : List Rw} {found : List (Nat × List Rw)} {rows' : List Rw} (s : Stg left rows found rows') : ∀ {b : Nat}, StOk n b left rows → 0 < b → ∀ R ∈ rows', R.f.length = n := by
  induction s with
  | stop _ => intro b h hb R hR; exact (h.row R hR).1
  | step hi ha s ih => intro b h hb; exact ih (h.next hi hb) (by omega)
/-- a row of weights, against: the paper is right -/
theorem wok_against {bs : List Bd} {n : Nat} {R : Rw} (hl : R.f.length = n) (h : WOk bs n R) (ha : R.against = true) : (∀ j < n, dot R.w (bs.map fun B => B.f.getD j 0) = 0) ∧ (dot R.w (bs.map fun B => B.r) < 0 ∨ (dot R.w (bs.map fun B => B.r) = 0 ∧ ∃ p ∈ bs.zip R.w, p.1.s = true ∧ 0 < p.2)) := by
  unfold Rw.against at ha
  rw [Bool.and_eq_true, Bool.not_eq_true'] at ha
  obtain ⟨h1, h2⟩ := ha
  have hz : ∀ j < n, R.at j = 0 := fun j hj => by
    rw [List.all_eq_true] at h1
    have := h1 (R.f[j]'(by omega)) (List.getElem_mem _)
    unfold Rw.at
    rw [List.getD_eq_getElem?_getD, List.getElem?_eq_getElem (by omega)]
    simpa using this
  refine ⟨fun j hj => by rw [← h.fac j hj]; exact hz j hj, ?_⟩
  rw [← h.res]
  unfold Rw.nothing at h2
  rw [h1, Bool.true_and] at h2
  simp only [Bool.or_eq_false_iff, decide_eq_false_iff_not, Bool.and_eq_false_iff, Bool.not_eq_false'] at h2
  by_cases c : R.r = 0
  · right
    refine ⟨c, h.str.mp ?_⟩
    rcases h2.2 with h3 | h3
    · exact absurd c h3
    · exact h3
  · left; grind
/-- all quantities come, if nothing is against -/
theorem stg_all {left : List Nat} {rows : List Rw} {found : List (Nat × List Rw)} {rows' : List Rw} (s : Stg left rows found rows') : (∀ R ∈ rows', R.against = false) → ∀ i ∈ left, ∃ p ∈ found, p.1 = i := by
  induction s with
  | stop hs =>
    intro hno i hi
    rcases hs with hs | ⟨S, hS, hS'⟩
    · subst hs; cases hi
    · exact absurd ((hno S hS).symm.trans hS') (by decide)
  | @step left rows found rows' j hj ha s ih =>
    intro hno i hi
    by_cases e : i = j
    · exact ⟨_, List.mem_cons_self, e.symm⟩
    · obtain ⟨p, hp, hp'⟩ := ih hno i (List.mem_filter.mpr ⟨hi, by simpa using e⟩)
      exact ⟨p, by simp [hp], hp'⟩
end Geo
end
section
set_option Elab.async false
set_option linter.all false
set_option maxRecDepth 100000
set_option maxHeartbeats 0
namespace P1
open PySem L2 Py Geo FM
section
variable {k b c n i : Nat} {μ : Store}
theorem st_against (rows : List Rw) (b : Nat) (hr : ∀ R ∈ rows, Rok b R) (hl : rows.length ≤ 16000000) (hb : 0 < b) (hn : b + b ≤ 8999) (x0 x1 x3 x4 x5 x6 x7 : Option SV) :
    ev (Py.run fs Γ (k + 7)) Γ c1_stages [x0, x1, some (.val (.lst (rows.map rowD))), x3, x4, x5, x6, x7] μ = some (.lst ((rows.filter fun R : Rw => R.against).map fun _ => .int 1), μ) := by
  rw [c1_stages]
  refine ev_lc_filter (g := rowD) rows (by simp) (by omega) fun R hR => ⟨[x0, x1, some (.val (.lst (rows.map rowD))), x3, x4, some (.val (rowD R)), x6, x7], by simp, ?_, by simp⟩
  have g := r_is_against (k := k + 4) (μ := μ) R (hr R hR).1 (hr R hR).2.1 hb hn
  simp -implicitDefEqProofs [g]
def stgD (p : Nat × List Rw) : D := .tup [.int p.1, .lst (p.2.map rowD)]
theorem st_loop (n : Nat) (x0 x1 : Option SV) (hn : n ≤ 1000) : ∀ (m : Nat) (left : List Nat) (rows : List Rw) (b N : Nat) (found : List D) (x5 x6 x7 : Option SV), left.length ≤ m → StOk n b left rows → rows.length ≤ N → 0 < b → bOk m b → lOk m N → found.length + m < 16777216 →
    ∃ (fd : List (Nat × List Rw)) (rows' : List Rw) (b' : Nat) (l' : Option SV) (y5 y6 y7 : Option SV), whS (fun env' μ' => evT (Py.run fs Γ (k + 7)) Γ (E.and (E.cmp .Gt (E.bi .len (E.slot 3) Es.nil) (E.int 0)) (Es.cons (E.cmp .Eq (E.bi .len c1_stages Es.nil) (E.int 0)) Es.nil)) env' μ') (fun env' μ' => exs (Py.run fs Γ (k + 7)) Γ l1_stages env' μ')
        [x0, x1, some (.val (.lst (rows.map rowD))), some (.val (.lst (left.map fun i : Nat => .int i))), some (.own found), x5, x6, x7] μ =
      some (.nx [x0, x1, some (.val (.lst (rows'.map rowD))), l', some (.own (found ++ fd.map stgD)), y5, y6, y7] μ) ∧ Stg left rows fd rows' ∧ (∀ R ∈ rows', Rok b' R) ∧ 0 < b' ∧ b' + b' ≤ 8999 ∧ rows'.length ≤ 16000000 := by
  intro m
  induction m with
  | zero =>
    intro left rows b N found x5 x6 x7 h1 h2 h6 h7 h8 h9 h10
    have hl : left = [] := List.length_eq_zero_iff.mp (by omega)
    subst hl
    exact ⟨[], rows, b, _, x5, x6, x7, by rw [List.map_nil (f := stgD), List.append_nil]; exact whS_end (by simp -implicitDefEqProofs), .stop (.inl rfl), fun R hR => (h2.row R hR).2, h7, bOk_now h8, Nat.le_trans h6 (lOk_now h9)⟩
  | succ m ih =>
    intro left rows b N found x5 x6 x7 h1 h2 h6 h7 h8 h9 h10
    have hA := st_against (k := k) (μ := μ) rows b (fun R hR => (h2.row R hR).2) (Nat.le_trans h6 (lOk_now h9)) h7 (bOk_now h8)
    by_cases hl : left = []
    · subst hl
      exact ⟨[], rows, b, _, x5, x6, x7, by rw [List.map_nil (f := stgD), List.append_nil]; exact whS_end (by simp -implicitDefEqProofs), .stop (.inl rfl), fun R hR => (h2.row R hR).2, h7, bOk_now h8, Nat.le_trans h6 (lOk_now h9)⟩
    · have hlp : 0 < left.length := List.length_pos_iff.mpr hl
      by_cases ha : (rows.filter fun R : Rw => R.against) = []
      · obtain ⟨i, hi, gc⟩ := r_cheapest (k := k + 6) (μ := μ) rows n (fun R hR => (h2.row R hR).1) (by have := h9.1; omega) left h2.inn (by omega) hl
        have hin := h2.inn i hi
        have gw := r_without (k := k) (μ := μ) rows (b := b) (i := i) (fun R hR => ⟨(h2.row R hR).2, by rw [(h2.row R hR).1]; exact hin⟩) (by have := h9.1; omega) h8.2.1
        have hlen : (left.filter fun j => decide (j ≠ i)).length ≤ m := by
          have : (left.filter fun j => decide (j ≠ i)).length < left.length := by
            apply List.length_filter_lt_length_iff_exists.mpr
            exact ⟨i, hi, by simp⟩
          omega
        obtain ⟨fd, rows', b', l', y5, y6, y7, e, e0, e1, e2, e3, e4⟩ := ih (left.filter fun j => decide (j ≠ i)) (FM.elim i rows) (12 * b + 10) (N + N * N) (found ++ [.tup [.int i, .lst (rows.map rowD)]]) x5 (some (.val (.int i))) x7 hlen (h2.next hi h7) (elim_length h6) (by omega) h8.2.2 h9.2 (by simp only [List.length_append, List.length_cons, List.length_nil]; omega)
        refine ⟨(i, rows) :: fd, rows', b', l', y5, y6, y7, ?_, .step hi (fun R hR => ?_) e0, e1, e2, e3, e4⟩
        · rw [List.append_assoc] at e
          rw [List.map_cons, show stgD (i, rows) :: fd.map stgD = [stgD (i, rows)] ++ fd.map stgD from rfl, show stgD (i, rows) = .tup [.int i, .lst (rows.map rowD)] from rfl, ← e]
          have hc2 : ∀ x7 : Option SV, ev (Py.run fs Γ (k + 7)) Γ c2_stages [x0, x1, some (.val (.lst ((FM.elim i rows).map rowD))), some (.val (.lst (left.map fun i : Nat => .int i))), some (.own (found ++ [.tup [.int i, .lst (rows.map rowD)]])), x5, some (.val (.int i)), x7] μ = some (.lst ((left.filter fun j => decide (j ≠ i)).map fun j : Nat => .int j), μ) := by
            intro x7
            rw [c2_stages]
            refine ev_lc_filter (g := fun j : Nat => D.int j) left (by simp) (by omega) fun j hj => ⟨[x0, x1, some (.val (.lst ((FM.elim i rows).map rowD))), some (.val (.lst (left.map fun i : Nat => .int i))), some (.own (found ++ [.tup [.int i, .lst (rows.map rowD)]])), x5, some (.val (.int i)), some (.val (.int j))], by simp, ?_, by simp⟩
            have : ((j : Int) = (i : Int)) ↔ j = i := by omega
            simp -implicitDefEqProofs [this]
          have hz : found.length < SZ := by unfold SZ; omega
          refine whS_go (μ1 := μ) ?_ ?_
          · simp -implicitDefEqProofs [hA, ha, hlp]
          · simp -implicitDefEqProofs [l1_stages, gc, gw, hc2, hz, szle]
        · cases hR' : R.against with
          | false => rfl
          | true => exact absurd (List.mem_filter.mpr ⟨hR, hR'⟩) (by rw [ha]; simp)
      · have hap : ¬ (rows.filter fun R : Rw => R.against).length = 0 := fun z => ha (List.length_eq_zero_iff.mp z)
        obtain ⟨R, hR⟩ := List.exists_mem_of_ne_nil _ ha
        obtain ⟨r1, r2⟩ := List.mem_filter.mp hR
        exact ⟨[], rows, b, _, x5, x6, x7, by rw [List.map_nil (f := stgD), List.append_nil]; exact whS_end (by simp -implicitDefEqProofs [hA, hlp, ha, hap]), .stop (.inr ⟨R, r1, r2⟩), fun R hR => (h2.row R hR).2, h7, bOk_now h8, Nat.le_trans h6 (lOk_now h9)⟩
theorem rng_map (n : Nat) (hn : n ≤ 1000) : rngS 0 (n : Int) = some ((List.range n).map fun i : Nat => D.int i) := rngS_map (by omega)
/-- stages, from the rows -/
theorem r_stages (n : Nat) (ds : List D) (w : Bool) (rows : List Rw) (b N : Nat) (gr : Py.run fs Γ (k + 7) f_rows_of [.tup [.int n, .tup ds], .bl w] μ = some (.lst (rows.map rowD), μ)) (hn : n ≤ 1000) (h : StOk n b (List.range n) rows) (hl : rows.length ≤ N) (hb : 0 < b) (h2 : bOk n b) (h3 : lOk n N) :
    ∃ fd rows' b', Py.run fs Γ (k + 8) f_stages [.tup [.int n, .tup ds], .bl w] μ = some (.tup [.lst (fd.map stgD), .lst (rows'.map rowD)], μ) ∧ Stg (List.range n) rows fd rows' ∧ (∀ R ∈ rows', Rok b' R) ∧ 0 < b' ∧ b' + b' ≤ 8999 ∧ rows'.length ≤ 16000000 := by
  obtain ⟨fd, rows', b', l', y5, y6, y7, e, e0, e1, e2, e3, e4⟩ := st_loop (k := k) (μ := μ) n (some (.val (.tup [.int n, .tup ds]))) (some (.val (.bl w))) hn n (List.range n) rows b N [] none none none (by simp) h hl hb h2 h3 (by simp; omega)
  refine ⟨fd, rows', b', ?_, e0, e1, e2, e3, e4⟩
  have hw : ex (Py.run fs Γ (k + 7)) Γ (S.wh (E.and (E.cmp .Gt (E.bi .len (E.slot 3) Es.nil) (E.int 0)) (Es.cons (E.cmp .Eq (E.bi .len c1_stages Es.nil) (E.int 0)) Es.nil)) l1_stages) _ μ = _ := (ex_wh).trans e
  have hr := rng_map n hn
  rw [u_stages, b_stages]
  simp -implicitDefEqProofs [gr, atI, ixN, hr, hw, szle]
theorem against_lc {rows' : List Rw} {b' : Nat} (e1 : ∀ R ∈ rows', Rok b' R) (e2 : 0 < b') (e3 : b' + b' ≤ 8999) (R : Rw) (hR : R ∈ rows') : Py.run fs Γ (k + 3) f_is_against [rowD R] μ = some (.bl R.against, μ) := r_is_against (k := k) (μ := μ) R (e1 R hR).1 (e1 R hR).2.1 e2 e3
theorem r_is_empty (n : Nat) (bs : List Bd) (b N : Nat) (hB : ∀ B ∈ bs, B.f.length = n ∧ Rok b B.row) (hn : n ≤ 1000) (hb : 0 < b) (h1 : 6 * b + 4 ≤ 8999) (h2 : bOk n (3 * b + 1)) (h3 : lOk n N) (hN : (strongest (bs.map Bd.row)).length ≤ N) (hl : bs.length ≤ 16000000) :
    ∃ r : Bool, Py.run fs Γ (k + 9) f_is_empty [.tup [.int n, .tup (bs.map bdD)]] μ = some (.bl r, μ) ∧ (r = true ↔ ¬ hasPt n (bs.map Bd.row)) := by
  have gr := r_rows_of (k := k) (μ := μ) n bs (b := b) (fun B hB' => (hB B hB').2) hl hb h1
  have hrow : ∀ R ∈ strongest (bs.map Bd.row), R.f.length = n ∧ Rok (3 * b + 1) R := strongest_mem (P := fun R => R.f.length = n ∧ Rok (3 * b + 1) R) fun R hR => by
    obtain ⟨B, hB', rfl⟩ := List.mem_map.mp hR
    exact ⟨by rw [even_length]; exact (hB B hB').1, ((hB B hB').2.even hb).mono (by omega)⟩
  have so : StOk n (3 * b + 1) (List.range n) (strongest (bs.map Bd.row)) := ⟨fun i hi => List.mem_range.mp hi, hrow, fun i hi hni => absurd (List.mem_range.mpr hi) hni, strongest_not_nothing⟩
  obtain ⟨fd, rows', b', gs, e0, e1, e2, e3, e4⟩ := r_stages (k := k) (μ := μ) n (bs.map bdD) false _ (3 * b + 1) N gr hn so hN (by omega) h2 h3
  have hsat : hasPt n (strongest (bs.map Bd.row)) ↔ hasPt n (bs.map Bd.row) := by
    unfold hasPt
    constructor
    · rintro ⟨x, h, hx⟩; exact ⟨x, h, (strongest_sat _ x).mp hx⟩
    · rintro ⟨x, h, hx⟩; exact ⟨x, h, (strongest_sat _ x).mpr hx⟩
  have e5 := stg_end e0 so (by omega)
  have gA : ∀ x0 x1 x3 : Option SV, ev (Py.run fs Γ (k + 8)) Γ c1_is_empty [x0, x1, some (.val (.lst (rows'.map rowD))), x3] μ = some (.lst ((rows'.filter fun R : Rw => R.against).map fun _ => .int 1), μ) := by
    intro x0 x1 x3
    rw [c1_is_empty]
    refine ev_lc_filter (g := rowD) rows' (by simp) (by omega) fun R hR => ⟨[x0, x1, some (.val (.lst (rows'.map rowD))), some (.val (rowD R))], by simp, ?_, by simp⟩
    have g := against_lc (k := k + 5) (μ := μ) e1 e2 e3 R hR
    simp -implicitDefEqProofs [g]
  refine ⟨decide (0 < ((rows'.filter fun R : Rw => R.against).length : Int)), ?_, ?_⟩
  · rw [u_is_empty, b_is_empty]
    simp -implicitDefEqProofs [gs, gA]
  · rw [← hsat, ← e5, decide_eq_true_iff]
    constructor
    · intro h
      obtain ⟨R, hR⟩ := List.exists_mem_of_length_pos (l := rows'.filter fun R : Rw => R.against) (by omega)
      exact ⟨R, (List.mem_filter.mp hR).1, (List.mem_filter.mp hR).2⟩
    · rintro ⟨R, h, h'⟩
      exact Int.natCast_pos.mpr (List.length_pos_of_mem (List.mem_filter.mpr ⟨h, h'⟩))
end
end P1
end
section
set_option Elab.async false
set_option linter.all false
set_option maxRecDepth 100000
set_option maxHeartbeats 0
namespace P1
open PySem L2 Py Geo FM
section
variable {k b c n i : Nat} {μ : Store}
theorem r_turned (B : Bd) (hl : B.f.length ≤ 1000) : Py.run fs Γ (k + 2) f_turned [bdD B] μ = some (bdD B.turned, μ) := by
  have g1 : ∀ t : Rat, Py.run fs Γ (k + 1) f_opposite [rD t] μ = some (rD (-t), μ) := fun t => r_opposite t
  have hc : ∀ x2 x3 x4 : Option SV, ev (Py.run fs Γ (k + 1)) Γ c1_turned [some (.val (bdD B)), some (.val (.tup (B.f.map rD))), x2, x3, x4] μ = some (.lst (B.f.map fun t => rD (-t)), μ) := by
    intro x2 x3 x4
    rw [c1_turned]
    exact ev_lc_map (g := rD) B.f (by simp) (by omega) fun a _ => ⟨[some (.val (bdD B)), some (.val (.tup (B.f.map rD))), x2, x3, some (.val (rD a))], by simp, by simp, by simp -implicitDefEqProofs [g1]⟩
  have hb : bdD B = .tup [.tup (B.f.map rD), rD B.r, .bl B.s] := rfl
  have ha : ∀ x1 x2 x3 x4 : Option SV, asgT (T.tp [(T.nm 1), (T.nm 2), (T.nm 3)]) (bdD B) [some (.val (bdD B)), x1, x2, x3, x4] = some [some (.val (bdD B)), some (.val (.tup (B.f.map rD))), some (.val (rD B.r)), some (.val (.bl B.s)), x4] := by
    intro x1 x2 x3 x4; rw [hb]; simp
  have hv : bdD B.turned = .tup [.tup (B.f.map fun t => rD (-t)), rD (-B.r), .bl (!B.s)] := by unfold bdD Bd.turned; simp [List.map_map, Function.comp_def]
  rw [u_turned, b_turned, hv]
  simp -implicitDefEqProofs [ha, hc, g1, szle]
end
end P1
end
section
set_option Elab.async false
set_option linter.all false
set_option maxRecDepth 100000
set_option maxHeartbeats 0
namespace P1
open PySem L2 Py Geo FM
section
variable {k b c n i : Nat} {μ : Store}
theorem bl_loop (x0 x1 : Option SV) : ∀ (f x : List Rat) (s : Nat) (t : Rat) (x3 x4 : Option SV), (∀ a ∈ f, Sz b a) → (∀ a ∈ x, Sz c a) → Sz s t → s + f.length * (b + c + 1) ≤ 8999 →
    ∃ y3 y4, forS (T.tp [(T.nm 3), (T.nm 4)]) (fun env' μ' => exs (Py.run fs Γ (k + 4)) Γ l1_blended env' μ') (zipD (f.map rD) (x.map rD)) [x0, x1, some (.val (rD t)), x3, x4] μ = some (.nx [x0, x1, some (.val (rD (t + dot f x))), y3, y4] μ) ∧ Sz (s + f.length * (b + c + 1)) (t + dot f x)
  | [], x, s, t, x3, x4, _, _, ht, _ => ⟨x3, x4, by simp [forS_nil, dot, Rat.add_zero], by simpa [dot, Rat.add_zero] using ht⟩
  | a :: f, [], s, t, x3, x4, _, _, ht, _ => ⟨x3, x4, by simp [forS_nil, dot, Rat.add_zero], by rw [dot, Rat.add_zero]; exact ht.mono (by omega); all_goals simp⟩
  | a :: f, y :: x, s, t, x3, x4, h1, h2, ht, hn => by
    have sa := h1 a (by simp)
    have sy := h2 y (by simp)
    simp only [List.length_cons, Nat.succ_mul] at hn
    have e1 := eqS_rD a 0
    have e2 := eqS_rD y 0
    rw [rD_zero] at e1 e2
    have ht' : Sz (s + (b + c + 1)) (t + a * y) := sz_add_le ht (sa.mul sy) (by omega)
    obtain ⟨y3, y4, ih, hs⟩ := bl_loop x0 x1 f x (s + (b + c + 1)) (t + a * y) (some (.val (rD a))) (some (.val (rD y))) (fun z hz => h1 z (by simp [hz])) (fun z hz => h2 z (by simp [hz])) ht' (by omega)
    have hd : t + dot (a :: f) (y :: x) = t + a * y + dot f x := by rw [dot]; grind
    refine ⟨y3, y4, ?_, by rw [hd]; exact hs.mono (by simp only [List.length_cons, Nat.succ_mul]; omega)⟩
    rw [hd, ← ih, List.map_cons, List.map_cons, zipD_cons]
    have g1 := r_times (k := k + 1) (μ := μ) a y sa sy (by omega)
    have g2 := r_added (k := k + 1) (μ := μ) t (a * y) ht (sa.mul sy) (by omega)
    refine forS_go (env1 := [x0, x1, some (.val (rD t)), some (.val (rD a)), some (.val (rD y))]) (by simp) ?_
    by_cases ca : a = 0
    · have ez : t + a * y = t := by rw [ca]; grind
      rw [ez]
      have ca' : (0 : Rat) = a := ca.symm
      subst ca'
      simp -implicitDefEqProofs [l1_blended, e1]
    · by_cases cy : y = 0
      · have ez : t + a * y = t := by rw [cy]; grind
        rw [ez]
        have cy' : (0 : Rat) = y := cy.symm
        subst cy'
        simp -implicitDefEqProofs [l1_blended, e1, e2, ca]
      · simp -implicitDefEqProofs [l1_blended, e1, e2, ca, cy, g1, g2]
theorem r_blended (f x : List Rat) (h1 : ∀ a ∈ f, Sz b a) (h2 : ∀ a ∈ x, Sz c a) (hn : 1 + f.length * (b + c + 1) ≤ 8999) : Py.run fs Γ (k + 5) f_blended [.tup (f.map rD), .tup (x.map rD)] μ = some (rD (dot f x), μ) ∧ Sz (1 + f.length * (b + c + 1)) (dot f x) := by
  obtain ⟨y3, y4, e, hs⟩ := bl_loop (k := k) (μ := μ) (some (.val (.tup (f.map rD)))) (some (.val (.tup (x.map rD)))) f x 1 0 none none h1 h2 (sz_zero (by decide)) hn
  rw [Rat.zero_add] at e hs
  refine ⟨?_, hs⟩
  rw [u_blended, b_blended]
  rw [rD_zero] at e
  simp -implicitDefEqProofs [ex_for, e]
theorem r_height (B : Bd) (x : List Rat) (h1 : Rok b B.row) (h2 : ∀ a ∈ x, Sz c a) (hn : 1 + B.f.length * (b + c + 1) + b + 1 ≤ 8999) : Py.run fs Γ (k + 6) f_height [bdD B, .tup (x.map rD)] μ = some (rD (B.val x), μ) ∧ Sz (1 + B.f.length * (b + c + 1) + b + 1) (B.val x) := by
  obtain ⟨g1, s1⟩ := r_blended (k := k) (μ := μ) B.f x h1.1.1 h2 (by omega)
  have g2 := r_added (k := k + 2) (μ := μ) (dot B.f x) B.r s1 h1.1.2.1 hn
  refine ⟨?_, s1.add h1.1.2.1⟩
  have t0 : itsS μ (bdD B) = some [.tup (B.f.map rD), rD B.r, .bl B.s] := rfl
  rw [u_height, b_height]
  simp -implicitDefEqProofs [t0, atI, ixN, g1, g2, Bd.val]
theorem r_keeps (B : Bd) (x : List Rat) (h1 : Rok b B.row) (h2 : ∀ a ∈ x, Sz c a) (hn : 1 + B.f.length * (b + c + 1) + b + 2 ≤ 8999) : Py.run fs Γ (k + 7) f_keeps [bdD B, .tup (x.map rD)] μ = some (.bl (okb B.s (B.val x)), μ) := by
  obtain ⟨g1, s1⟩ := r_height (k := k) (μ := μ) B x h1 h2 (by omega)
  have g2 := r_compare (k := k + 5) (μ := μ) (B.val x) 0 s1 (sz_zero (b := 1) (by decide)) (by omega)
  have t0 : itsS μ (bdD B) = some [.tup (B.f.map rD), rD B.r, .bl B.s] := rfl
  rw [u_keeps, b_keeps]
  rw [rD_zero] at g2
  unfold sgn at g2
  unfold okb
  generalize B.val x = v at *
  by_cases c1 : v < 0
  · have c2 : ¬ 0 < v := by grind
    have c3 : ¬ 0 ≤ v := by grind
    simp -implicitDefEqProofs [t0, atI, ixN, g1, g2, c1, c2, c3]
  · by_cases c2 : 0 < v
    · have c3 : 0 ≤ v := by grind
      simp -implicitDefEqProofs [t0, atI, ixN, g1, g2, c1, c2, c3]
    · have c3 : 0 ≤ v := by grind
      rw [if_neg c1, if_neg c2] at g2
      cases hs : B.s <;> simp -implicitDefEqProofs [t0, atI, ixN, g1, g2, c2, c3, hs]
end
end P1
end
section
set_option Elab.async false
set_option linter.all false
set_option maxRecDepth 100000
set_option maxHeartbeats 0
namespace P1
open PySem L2 Py Geo FM
section
variable {k b c n i : Nat} {μ : Store}
theorem r_blendedL (f x : List Rat) (h1 : ∀ a ∈ f, Sz b a) (h2 : ∀ a ∈ x, Sz c a) (hn : 1 + f.length * (b + c + 1) ≤ 8999) : Py.run fs Γ (k + 5) f_blended [.lst (f.map rD), .lst (x.map rD)] μ = some (rD (dot f x), μ) ∧ Sz (1 + f.length * (b + c + 1)) (dot f x) := by
  obtain ⟨y3, y4, e, hs⟩ := bl_loop (k := k) (μ := μ) (some (.val (.lst (f.map rD)))) (some (.val (.lst (x.map rD)))) f x 1 0 none none h1 h2 (sz_zero (by decide)) hn
  rw [Rat.zero_add] at e hs
  refine ⟨?_, hs⟩
  rw [u_blended, b_blended]
  rw [rD_zero] at e
  simp -implicitDefEqProofs [ex_for, e]
def oeD : Option (Rat × Bool) → D
  | none => .non
  | some l => .tup [rD l.1, .bl l.2]
@[simp] theorem oeD_none : oeD none = .non := rfl
@[simp] theorem oeD_some {l : Rat × Bool} : oeD (some l) = .tup [rD l.1, .bl l.2] := rfl
/-- what a dict of worths stands for -/
def KX (n : Nat) (ks : List Int) (ds : List D) (x : List Rat) : Prop := ∀ j : Nat, j < n → (kFind ks ds (j : Int)).getD (rD 0) = rD (x.getD j 0)
theorem kx_row {ks : List Int} {ds : List D} {x : List Rat} (hk : KX n ks ds x) (hx : x.length = n) : (List.range n).map (fun j : Nat => (kFind ks ds (j : Int)).getD (rD 0)) = x.map rD := by
  refine List.ext_getElem (by simp [hx]) fun j h1 h2 => ?_
  have hj : j < n := by simpa using h1
  simp only [List.getElem_map, List.getElem_range]
  rw [hk j hj, List.getD_eq_getElem?_getD, List.getElem?_eq_getElem (by omega)]
  rfl
theorem wb_test {s t : Rat} {a m : Nat} (hs : Sz a s) (ht : Sz a t) (hn : a + a ≤ 8999) : Py.run fs Γ (m + 1) f_compare [rD s, rD t] μ = some (.int (sgn s t), μ) := r_compare (k := m) (μ := μ) s t hs ht hn
theorem wb_body (R : Rw) (x : List Rat) (ks : List Int) (ds : List D) (lo hi : Option (Rat × Bool)) (hR : Rok b R) (hl : R.f.length = n) (hi' : i < n) (hn1 : n ≤ 1000) (hx : x.length = n) (hxs : ∀ a ∈ x, Sz c a) (hk : KX n ks ds x)
    (hlo : ∀ l, lo = some l → Sz (2 * b + 2 + n * (b + c + 1)) l.1) (hhi : ∀ l, hi = some l → Sz (2 * b + 2 + n * (b + c + 1)) l.1) (hn : wB n b c ≤ 8999) (x0 x6 x7 x8 : Option SV) :
    ∃ y6 y7 y8, exs (Py.run fs Γ (k + 6)) Γ l1_worth_between [x0, some (.val (.int i)), some (.val (.dk ks ds)), some (.val (oeD lo)), some (.val (oeD hi)), some (.val (rowD R)), x6, x7, x8] μ =
      some (.nx [x0, some (.val (.int i)), some (.val (.dk ks ds)), some (.val (oeD (stepW i x (lo, hi) R).1)), some (.val (oeD (stepW i x (lo, hi) R).2)), some (.val (rowD R)), y6, y7, y8] μ) := by
  unfold wB at hn
  have t0 : ∀ Q : Rw, itsS μ (rowD Q) = some [.lst (Q.f.map rD), rD Q.r, .bl Q.s, .lst (Q.w.map rD)] := fun _ => rfl
  have q0 : ∀ (Q : Rw) (s : Bool), atI [D.lst (Q.f.map rD), rD Q.r, .bl s, .lst (Q.w.map rD)] 0 = some (.lst (Q.f.map rD)) := fun Q s => by simp [atI, ixN]
  have q1 : ∀ (Q : Rw) (s : Bool), atI [D.lst (Q.f.map rD), rD Q.r, .bl s, .lst (Q.w.map rD)] 1 = some (rD Q.r) := fun Q s => by simp [atI, ixN]
  have q2 : ∀ (Q : Rw) (s : Bool), atI [D.lst (Q.f.map rD), rD Q.r, .bl s, .lst (Q.w.map rD)] 2 = some (.bl s) := fun Q s => by simp [atI, ixN]
  have t1 : ∀ a : Rat, itsS μ (rD a) = some [.int a.num, .int a.den] := fun _ => rfl
  have p1 : ∀ a : Rat, atI [D.int a.num, D.int (a.den : Int)] 0 = some (.int a.num) := fun a => by simp [atI, ixN]
  have a1 := at_get (R := R) (i := i) (by rw [hl]; exact hi')
  have sa := sz_at (i := i) hR.1 (by rw [hl]; exact hi')
  have e1 := eqS_rD (R.at i) 0
  rw [rD_zero] at e1
  by_cases c0 : R.at i = 0
  · have hst : stepW i x (lo, hi) R = (lo, hi) := by
      unfold stepW
      rw [c0]
      simp
    rw [hst]
    refine ⟨x6, x7, x8, ?_⟩
    rw [c0] at e1
    rw [c0] at a1
    simp -implicitDefEqProofs [l1_worth_between, t0, q0, a1, e1]
  · have hcomp : ∀ x3 x4 x6 x7 x8 : Option SV, ev (Py.run fs Γ (k + 6)) Γ c1_worth_between [x0, some (.val (.int i)), some (.val (.dk ks ds)), x3, x4, some (.val (rowD R)), x6, x7, x8] μ = some (.lst (x.map rD), μ) := by
      intro x3 x4 x6 x7 x8
      have hr := rngS_map (n := n) (by omega)
      rw [c1_worth_between, ← kx_row hk hx]
      refine ev_lc_map (g := fun j : Nat => D.int (j : Int)) (List.range n) (by simp -implicitDefEqProofs [t0, q0, hl, hr]) (by simp; omega) fun j _ => ⟨[x0, some (.val (.int i)), some (.val (.dk ks ds)), x3, x4, some (.val (rowD R)), x6, some (.val (.int (j : Int))), x8], by simp, by simp, ?_⟩
      simp -implicitDefEqProofs [rD_zero]
    obtain ⟨g1, s1⟩ := r_blendedL (k := k + 1) (μ := μ) R.f x hR.1.1 hxs (by rw [hl]; omega)
    rw [hl] at s1
    have g2 := r_added (k := k + 3) (μ := μ) R.r (dot R.f x) hR.1.2.1 s1 (by omega)
    have s2 := hR.1.2.1.add s1
    have g3 := r_opposite (k := k + 5) (μ := μ) (R.r + dot R.f x)
    have g4 := r_over (k := k + 3) (μ := μ) (-(R.r + dot R.f x)) (R.at i) c0 s2.neg sa (by omega)
    have se := edge_sz (x := x) hR hl hi' hxs c0
    have hedge : edge i x R = (-(R.r + dot R.f x) / R.at i, R.s) := rfl
    unfold stepW
    rw [hedge] at se ⊢
    generalize -(R.r + dot R.f x) / R.at i = v at *
    dsimp only at se ⊢
    by_cases c1 : 0 < R.at i
    · have c2 : ¬ R.at i < 0 := by grind
      have n1 := num_pos_iff.mp c1
      have n2 : ¬ (R.at i).num < 0 := fun z => c2 (num_neg_iff.mpr z)
      rw [if_pos c1, if_neg c2]
      cases lo with
      | none =>
        refine ⟨some (.val (rD (R.r + dot R.f x))), x7, some (.val (.tup [rD v, .bl R.s])), ?_⟩
        simp -implicitDefEqProofs [l1_worth_between, t0, q0, q1, q2, a1, e1, c0, hcomp, g1, g2, g3, g4, szle, t1, p1, n1, n2, Py.isNon, stepL]
      | some l =>
        have g5 := wb_test (m := k + 5) (μ := μ) se (hlo l rfl) (by omega)
        have e2 := eqS_rD v l.1
        have w0 : ∀ s : Bool, atI [rD v, D.bl s] 0 = some (rD v) := fun s => by simp [atI, ixN]
        have w1 : ∀ s : Bool, atI [rD v, D.bl s] 1 = some (.bl s) := fun s => by simp [atI, ixN]
        have w2 : atI [rD l.1, D.bl l.2] 0 = some (rD l.1) := by simp [atI, ixN]
        unfold sgn at g5
        unfold stepL
        dsimp only
        by_cases d1 : l.1 < v
        · have d2 : ¬ v < l.1 := by grind
          rw [if_neg d2, if_pos d1] at g5
          refine ⟨some (.val (rD (R.r + dot R.f x))), x7, some (.val (.tup [rD v, .bl R.s])), ?_⟩
          simp -implicitDefEqProofs [l1_worth_between, t0, q0, q1, q2, a1, e1, c0, hcomp, g1, g2, g3, g4, szle, t1, p1, n1, n2, Py.isNon, g5, w0, w1, w2, e2, d1]
        · by_cases d2 : v < l.1
          · have d3 : ¬ v = l.1 := by grind
            rw [if_pos d2] at g5
            refine ⟨some (.val (rD (R.r + dot R.f x))), x7, some (.val (.tup [rD v, .bl R.s])), ?_⟩
            simp -implicitDefEqProofs [l1_worth_between, t0, q0, q1, q2, a1, e1, c0, hcomp, g1, g2, g3, g4, szle, t1, p1, n1, n2, Py.isNon, g5, w0, w1, w2, e2, d1, d3]
          · have d3 : v = l.1 := by grind
            rw [if_neg d2, if_neg d1] at g5
            obtain ⟨lv, ls⟩ := l
            dsimp only at *
            subst d3
            refine ⟨some (.val (rD (R.r + dot R.f x))), x7, some (.val (.tup [rD v, .bl R.s])), ?_⟩
            cases hs : R.s <;> simp -implicitDefEqProofs [l1_worth_between, t0, q0, q1, q2, a1, e1, c0, hcomp, g1, g2, g3, g4, szle, t1, p1, n1, n2, Py.isNon, g5, w0, w1, w2, e2, d1, hs]
    · have c2 : R.at i < 0 := by grind
      have n1 : ¬ 0 < (R.at i).num := fun z => c1 (num_pos_iff.mpr z)
      have n2 := num_neg_iff.mp c2
      rw [if_neg c1, if_pos c2]
      cases hi with
      | none =>
        refine ⟨some (.val (rD (R.r + dot R.f x))), x7, some (.val (.tup [rD v, .bl R.s])), ?_⟩
        simp -implicitDefEqProofs [l1_worth_between, t0, q0, q1, q2, a1, e1, c0, hcomp, g1, g2, g3, g4, szle, t1, p1, n1, n2, Py.isNon, stepU]
      | some l =>
        have g5 := wb_test (m := k + 5) (μ := μ) se (hhi l rfl) (by omega)
        have e2 := eqS_rD v l.1
        have w0 : ∀ s : Bool, atI [rD v, D.bl s] 0 = some (rD v) := fun s => by simp [atI, ixN]
        have w1 : ∀ s : Bool, atI [rD v, D.bl s] 1 = some (.bl s) := fun s => by simp [atI, ixN]
        have w2 : atI [rD l.1, D.bl l.2] 0 = some (rD l.1) := by simp [atI, ixN]
        unfold sgn at g5
        unfold stepU
        dsimp only
        by_cases d1 : v < l.1
        · rw [if_pos d1] at g5
          refine ⟨some (.val (rD (R.r + dot R.f x))), x7, some (.val (.tup [rD v, .bl R.s])), ?_⟩
          simp -implicitDefEqProofs [l1_worth_between, t0, q0, q1, q2, a1, e1, c0, hcomp, g1, g2, g3, g4, szle, t1, p1, n1, n2, Py.isNon, g5, w0, w1, w2, e2, d1]
        · by_cases d2 : l.1 < v
          · have d3 : ¬ v = l.1 := by grind
            rw [if_neg d1, if_pos d2] at g5
            refine ⟨some (.val (rD (R.r + dot R.f x))), x7, some (.val (.tup [rD v, .bl R.s])), ?_⟩
            simp -implicitDefEqProofs [l1_worth_between, t0, q0, q1, q2, a1, e1, c0, hcomp, g1, g2, g3, g4, szle, t1, p1, n1, n2, Py.isNon, g5, w0, w1, w2, e2, d1, d3]
          · have d3 : v = l.1 := by grind
            rw [if_neg d1, if_neg d2] at g5
            obtain ⟨lv, ls⟩ := l
            dsimp only at *
            subst d3
            refine ⟨some (.val (rD (R.r + dot R.f x))), x7, some (.val (.tup [rD v, .bl R.s])), ?_⟩
            cases hs : R.s <;> simp -implicitDefEqProofs [l1_worth_between, t0, q0, q1, q2, a1, e1, c0, hcomp, g1, g2, g3, g4, szle, t1, p1, n1, n2, Py.isNon, g5, w0, w1, w2, e2, d1, hs]
end
end P1
end
section
set_option Elab.async false
set_option linter.all false
set_option maxRecDepth 100000
set_option maxHeartbeats 0
namespace P1
open PySem L2 Py Geo FM
section
variable {k b c n i : Nat} {μ : Store}
theorem wb_loop (x : List Rat) (ks : List Int) (ds : List D) (hi' : i < n) (hn1 : n ≤ 1000) (hx : x.length = n) (hxs : ∀ a ∈ x, Sz c a) (hk : KX n ks ds x) (hn : wB n b c ≤ 8999) (x0 : Option SV) : ∀ (rows : List Rw) (lo hi : Option (Rat × Bool)) (x5 x6 x7 x8 : Option SV), (∀ R ∈ rows, R.f.length = n ∧ Rok b R) →
    (∀ l, lo = some l → Sz (2 * b + 2 + n * (b + c + 1)) l.1) → (∀ l, hi = some l → Sz (2 * b + 2 + n * (b + c + 1)) l.1) →
    ∃ y5 y6 y7 y8, forS (T.nm 5) (fun env' μ' => exs (Py.run fs Γ (k + 6)) Γ l1_worth_between env' μ') (rows.map rowD) [x0, some (.val (.int i)), some (.val (.dk ks ds)), some (.val (oeD lo)), some (.val (oeD hi)), x5, x6, x7, x8] μ =
      some (.nx [x0, some (.val (.int i)), some (.val (.dk ks ds)), some (.val (oeD (rows.foldl (stepW i x) (lo, hi)).1)), some (.val (oeD (rows.foldl (stepW i x) (lo, hi)).2)), y5, y6, y7, y8] μ)
  | [], lo, hi, x5, x6, x7, x8, _, _, _ => ⟨x5, x6, x7, x8, rfl⟩
  | R :: rows, lo, hi, x5, x6, x7, x8, h, hlo, hhi => by
    obtain ⟨hl, hR⟩ := h R (by simp)
    obtain ⟨y6, y7, y8, e⟩ := wb_body (k := k) (μ := μ) R x ks ds lo hi hR hl hi' hn1 hx hxs hk hlo hhi hn x0 x6 x7 x8
    obtain ⟨z1, z2⟩ := ends_sz (rows := [R]) (fun S hS => by rw [List.mem_singleton] at hS; rw [hS]; exact ⟨hl, hR⟩) hi' hxs lo hi hlo hhi
    rw [List.foldl_cons, List.foldl_nil] at z1 z2
    obtain ⟨u5, u6, u7, u8, ih⟩ := wb_loop x ks ds hi' hn1 hx hxs hk hn x0 rows (stepW i x (lo, hi) R).1 (stepW i x (lo, hi) R).2 (some (.val (rowD R))) y6 y7 y8 (fun S hS => h S (by simp [hS])) z1 z2
    refine ⟨u5, u6, u7, u8, ?_⟩
    rw [List.map_cons, List.foldl_cons, ← ih]
    exact forS_go (env1 := [x0, some (.val (.int i)), some (.val (.dk ks ds)), some (.val (oeD lo)), some (.val (oeD hi)), some (.val (rowD R)), x6, x7, x8]) (by simp) e
theorem isNon_oeD {o : Option (Rat × Bool)} : Py.isNon (oeD o) = o.isNone := by cases o <;> rfl
theorem r_worth (x : List Rat) (ks : List Int) (ds : List D) (rows : List Rw) (h : ∀ R ∈ rows, R.f.length = n ∧ Rok b R) (hi' : i < n) (hn1 : n ≤ 1000) (hx : x.length = n) (hxs : ∀ a ∈ x, Sz c a) (hk : KX n ks ds x) (hn : wB n b c ≤ 8999) :
    Py.run fs Γ (k + 7) f_worth_between [.lst (rows.map rowD), .int i, .dk ks ds] μ = some (rD (worth i x rows), μ) := by
  obtain ⟨y5, y6, y7, y8, e⟩ := wb_loop (k := k) (μ := μ) x ks ds hi' hn1 hx hxs hk hn (some (.val (.lst (rows.map rowD)))) rows none none none none none none h (fun _ h => by cases h) (fun _ h => by cases h)
  obtain ⟨z1, z2⟩ := ends_sz h hi' hxs none none (fun _ h => by cases h) (fun _ h => by cases h)
  unfold worth ends
  unfold wB at hn
  generalize rows.foldl (stepW i x) (none, none) = en at *
  obtain ⟨lo, hi⟩ := en
  simp -implicitDefEqProofs only [oeD_none] at e
  rw [u_worth_between, b_worth_between]
  have s1 := sz_one (b := 1) (by decide)
  cases lo with
  | none =>
    cases hi with
    | none => simp -implicitDefEqProofs [ex_for, e, midW, rD_zero]
    | some u =>
      have hu := z2 u rfl
      have g := r_less (k := k + 2) (μ := μ) u.1 1 hu s1 (by omega)
      rw [rD_one] at g
      have w1 : atI [rD u.1, D.bl u.2] 1 = some (.bl u.2) := by simp [atI, ixN]
      have w0 : atI [rD u.1, D.bl u.2] 0 = some (rD u.1) := by simp [atI, ixN]
      cases hs : u.2 with
      | true =>
        rw [hs] at w1 w0
        simp -implicitDefEqProofs [ex_for, e, midW, w0, w1, hs, g]
      | false =>
        rw [hs] at w1 w0
        simp -implicitDefEqProofs [ex_for, e, midW, w0, w1, hs, g]
  | some l =>
    have hl := z1 l rfl
    have v1 : atI [rD l.1, D.bl l.2] 1 = some (.bl l.2) := by simp [atI, ixN]
    have v0 : atI [rD l.1, D.bl l.2] 0 = some (rD l.1) := by simp [atI, ixN]
    cases hi with
    | none =>
      have g := r_added (k := k + 3) (μ := μ) l.1 1 hl s1 (by omega)
      rw [rD_one] at g
      cases hs : l.2 with
      | true =>
        rw [hs] at v1 v0
        simp -implicitDefEqProofs [ex_for, e, midW, v0, v1, hs, g]
      | false =>
        rw [hs] at v1 v0
        simp -implicitDefEqProofs [ex_for, e, midW, v0, v1, hs, g]
    | some u =>
      have hu := z2 u rfl
      have w0 : atI [rD u.1, D.bl u.2] 0 = some (rD u.1) := by simp [atI, ixN]
      have g := r_added (k := k + 3) (μ := μ) l.1 u.1 hl hu (by omega)
      have g2 := r_over (k := k + 3) (μ := μ) (l.1 + u.1) 2 (by decide) (hl.add hu) sz_two (by omega)
      rw [show rD 2 = .tup [.int 2, .int 1] from rfl] at g2
      simp -implicitDefEqProofs [ex_for, e, midW, v0, w0, g, g2, szle]
/-! the worths that are known -/
def kOfP (ps : List (Nat × Rat)) : List (NestedKey × D) := ps.map fun p => (.num p.1, rD p.2)
theorem dAt_kOf (j : Nat) : ∀ ps : List (Nat × Rat), dAtS (kOfP ps) (.num (j : Int)) = (ps.find? fun p => decide (p.1 = j)).map fun p => rD p.2
  | [] => rfl
  | p :: ps => by
    have ih := dAt_kOf j ps
    by_cases e : p.1 = j
    · simp [kOfP, dAtS, e]
    · have e2 : ¬ ((p.1 : Int) = (j : Int)) := by omega
      simp only [kOfP, dAtS, List.map_cons, List.find?_cons, NestedKey.num.injEq, e2, e, decide_false] at ih ⊢
      exact ih
theorem kFind_kOf (j : Nat) : ∀ ps : List (Nat × Rat), kFind ((kOfP ps).map fun p => keyI p.1) ((kOfP ps).map (·.2)) (j : Int) = (ps.find? fun p => decide (p.1 = j)).map fun p => rD p.2
  | [] => rfl
  | p :: ps => by
    have ih := kFind_kOf j ps
    by_cases e : p.1 = j
    · simp [kOfP, kFind, keyI, e]
    · have e2 : ¬ ((p.1 : Int) = (j : Int)) := by omega
      simp only [kOfP, List.map_cons, kFind, keyI, List.find?_cons, e2, e, decide_false, if_false] at ih ⊢
      exact ih
theorem find_key {ps : List (Nat × Rat)} {x : List Rat} {j : Nat} (h : ∀ p ∈ ps, x.getD p.1 0 = p.2) : (ps.find? fun p => decide (p.1 = j)) = none ∧ (∀ p ∈ ps, p.1 ≠ j) ∨ ∃ p, (ps.find? fun p => decide (p.1 = j)) = some p ∧ p.2 = x.getD j 0 := by
  cases hf : ps.find? fun p => decide (p.1 = j) with
  | none =>
    refine .inl ⟨rfl, fun p hp e => ?_⟩
    rw [List.find?_eq_none] at hf
    exact hf p hp (by simpa using e)
  | some p =>
    have h1 := List.find?_some hf
    have h2 := List.mem_of_find?_eq_some hf
    refine .inr ⟨p, rfl, ?_⟩
    have : p.1 = j := by simpa using h1
    rw [← this]
    exact (h p h2).symm
/-- a walk without a break -/
inductive Goes (t : T) (b : Py.Env → Store → Option Fl) (μ : Store) : List D → Py.Env → Py.Env → Prop
  | nil {e : Py.Env} : Goes t b μ [] e e
  | cons {d : D} {l : List D} {e e1 e2 e3 : Py.Env} : asgT t d e = some e1 → b e1 μ = some (.nx e2 μ) → Goes t b μ l e2 e3 → Goes t b μ (d :: l) e e3
theorem Goes.forS {t : T} {b : Py.Env → Store → Option Fl} {l : List D} {e e' : Py.Env} (h : Goes t b μ l e e') : Py.forS t b l e μ = some (.nx e' μ) := by
  induction h with
  | nil => rfl
  | cons h1 h2 _ ih => rw [forS_go h1 h2]; exact ih
theorem Goes.app {t : T} {b : Py.Env → Store → Option Fl} {l m : List D} {e e' e'' : Py.Env} (h : Goes t b μ l e e') (h' : Goes t b μ m e' e'') : Goes t b μ (l ++ m) e e'' := by
  induction h with
  | nil => exact h'
  | cons h1 h2 _ ih => exact .cons h1 h2 (ih h')
theorem pp_goes (hm : scalS μ = true) (hn0 : 0 < n) (hn1 : n ≤ 1000) (x0 x1 x2 x3 x5 x6 : Option SV) {left : List Nat} {rows : List Rw} {fd : List (Nat × List Rw)} {rows' : List Rw} (s : Stg left rows fd rows') : ∀ {b : Nat}, StOk n b left rows → 0 < b → backB n b fd.length ≤ 8999 → fd.length < 16777216 →
    ∃ ps y5 y6, Goes (T.tp [(T.nm 5), (T.nm 6)]) (fun env' μ' => exs (Py.run fs Γ (k + 7)) Γ l1_point_paper env' μ') μ (fd.reverse.map stgD) [x0, x1, x2, x3, some (.dct false []), x5, x6] [x0, x1, x2, x3, some (.dct false (kOfP ps)), y5, y6] ∧ (∀ p ∈ ps, (back n fd).getD p.1 0 = p.2) ∧ ps.map (·.1) = (fd.map (·.1)).reverse := by
  induction s with
  | stop _ => intro b h hb _ _; exact ⟨[], x5, x6, .nil, (fun _ h => by cases h), rfl⟩
  | @step left rows fd rows' i hi ha s ih =>
    intro b h hb hB hlen
    have hB' : backB n (12 * b + 10) fd.length ≤ 8999 := by
      rw [List.length_cons, backB, wB] at hB
      have : 1 * backB n (12 * b + 10) fd.length ≤ n * (b + backB n (12 * b + 10) fd.length + 1) := Nat.mul_le_mul (by omega) (by omega)
      omega
    obtain ⟨ps, y5, y6, g, h1, h2⟩ := ih (h.next hi hb) (by omega) hB' (by simp only [List.length_cons] at hlen; omega)
    have hsz := back_sz s (h.next hi hb) (by omega) hn0
    have hni : ∀ p ∈ fd, p.1 ≠ i := fun p hp e => by
      have := (List.mem_filter.mp (stg_in s p hp)).2
      simp [e] at this
    have hpi : ∀ p ∈ ps, p.1 ≠ i := fun p hp e => by
      have : p.1 ∈ (fd.map (·.1)).reverse := by rw [← h2]; exact List.mem_map.mpr ⟨p, hp, rfl⟩
      rw [List.mem_reverse] at this
      obtain ⟨q, hq, e'⟩ := List.mem_map.mp this
      exact hni q hq (e'.trans e)
    have hk : KX n ((kOfP ps).map fun p => keyI p.1) ((kOfP ps).map (·.2)) (back n fd) := fun j hj => by
      rw [kFind_kOf]
      rcases find_key (j := j) h1 with ⟨e, e'⟩ | ⟨p, e, e'⟩
      · rw [e, back_zero n fd j fun q hq z => ?_]
        · rfl
        · have : j ∈ (fd.map (·.1)).reverse := List.mem_reverse.mpr (List.mem_map.mpr ⟨q, hq, z⟩)
          rw [← h2] at this
          obtain ⟨r, hr, z'⟩ := List.mem_map.mp this
          exact e' r hr z'
      · rw [e, ← e']; rfl
    have gw := r_worth (k := k) (μ := μ) (back n fd) _ _ rows h.row (h.inn i hi) hn1 (back_length n fd) hsz hk (by rw [List.length_cons, backB] at hB; exact hB)
    have hlp : ps.length = fd.length := by have := congrArg List.length h2; simpa using this
    refine ⟨ps ++ [(i, worth i (back n fd) rows)], some (.val (.int i)), some (.val (.lst (rows.map rowD))), ?_, fun p hp => ?_, ?_⟩
    · rw [List.reverse_cons, List.map_append]
      refine g.app (.cons (e1 := [x0, x1, x2, x3, some (.dct false (kOfP ps)), some (.val (.int i)), some (.val (.lst (rows.map rowD)))]) (by simp [stgD]) ?_ .nil)
      have hput : dPutS (kOfP ps) (.num (i : Int)) (rD (worth i (back n fd) rows)) = kOfP (ps ++ [(i, worth i (back n fd) rows)]) := by
        unfold dPutS
        rw [dAt_kOf]
        rcases find_key (j := i) h1 with ⟨e, _⟩ | ⟨p, e, _⟩
        · rw [e]; simp [kOfP]
        · have h3 := List.find?_some e
          exact absurd (by simpa using h3) (hpi p (List.mem_of_find?_eq_some e))
      have hz : (kOfP ps).length < SZ := by unfold kOfP SZ; rw [List.length_map, hlp]; simp only [List.length_cons] at hlen; omega
      simp -implicitDefEqProofs [l1_point_paper, ev_kBor, dkD, gw, noL_rD, hm, hput, hz]
    · rw [back]
      rcases List.mem_append.mp hp with hp | hp
      · have := h1 p hp
        rw [List.getD_eq_getElem?_getD, List.getElem?_set_ne (fun z => hpi p hp z.symm), ← List.getD_eq_getElem?_getD]
        exact this
      · rw [List.mem_singleton] at hp
        subst hp
        rw [List.getD_eq_getElem?_getD, List.getElem?_set_self (by rw [back_length]; exact h.inn i hi)]
        rfl
    · rw [List.map_append, h2]; simp
/-- a point of a polyhedron, None if there is none -/
theorem r_point_paper (hm : scalS μ = true) (n : Nat) (bs : List Bd) (b N : Nat) (hB : ∀ B ∈ bs, B.f.length = n ∧ Rok b B.row) (hn0 : 0 < n) (hn : n ≤ 1000) (hb : 0 < b) (h1 : 6 * b + 4 ≤ 8999) (h2 : bOk n (3 * b + 1)) (h3 : lOk n N) (hN : (strongest (bs.map Bd.row)).length ≤ N) (hl : bs.length ≤ 16000000) (h4 : backB n (3 * b + 1) n ≤ 8999) :
    ∃ r : D, Py.run fs Γ (k + 9) f_point_paper [.tup [.int n, .tup (bs.map bdD)]] μ = some (r, μ) ∧ ((¬ hasPt n (bs.map Bd.row) ∧ r = .non) ∨ (∃ x : List Rat, r = ptD x ∧ x.length = n ∧ Sat (bs.map Bd.row) x ∧ ∀ a ∈ x, Sz (backB n (3 * b + 1) n) a)) := by
  have gr := r_rows_of (k := k) (μ := μ) n bs (b := b) (fun B hB' => (hB B hB').2) hl hb h1
  have hrow : ∀ R ∈ strongest (bs.map Bd.row), R.f.length = n ∧ Rok (3 * b + 1) R := strongest_mem (P := fun R => R.f.length = n ∧ Rok (3 * b + 1) R) fun R hR => by
    obtain ⟨B, hB', rfl⟩ := List.mem_map.mp hR
    exact ⟨by rw [even_length]; exact (hB B hB').1, ((hB B hB').2.even hb).mono (by omega)⟩
  have so : StOk n (3 * b + 1) (List.range n) (strongest (bs.map Bd.row)) := ⟨fun i hi => List.mem_range.mp hi, hrow, fun i hi hni => absurd (List.mem_range.mpr hi) hni, strongest_not_nothing⟩
  obtain ⟨fd, rows', b', gs, e0, e1, e2, e3, e4⟩ := r_stages (k := k) (μ := μ) n (bs.map bdD) false _ (3 * b + 1) N gr hn so hN (by omega) h2 h3
  have hsat : hasPt n (strongest (bs.map Bd.row)) ↔ hasPt n (bs.map Bd.row) := by
    unfold hasPt
    constructor
    · rintro ⟨x, h, hx⟩; exact ⟨x, h, (strongest_sat _ x).mp hx⟩
    · rintro ⟨x, h, hx⟩; exact ⟨x, h, (strongest_sat _ x).mpr hx⟩
  have e5 := stg_end e0 so (by omega)
  have gA : ∀ x0 x1 x3 x4 x5 x6 : Option SV, ev (Py.run fs Γ (k + 8)) Γ c1_point_paper [x0, x1, some (.val (.lst (rows'.map rowD))), x3, x4, x5, x6] μ = some (.lst ((rows'.filter fun R : Rw => R.against).map fun _ => .int 1), μ) := by
    intro x0 x1 x3 x4 x5 x6
    rw [c1_point_paper]
    refine ev_lc_filter (g := rowD) rows' (by simp) (by omega) fun R hR => ⟨[x0, x1, some (.val (.lst (rows'.map rowD))), some (.val (rowD R)), x4, x5, x6], by simp, ?_, by simp⟩
    have g := against_lc (k := k + 5) (μ := μ) e1 e2 e3 R hR
    simp -implicitDefEqProofs [g]
  by_cases hag : (rows'.filter fun R : Rw => R.against) = []
  · have hno : ∀ R ∈ rows', R.against = false := fun R hR => by
      cases hR' : R.against with
      | false => rfl
      | true => exact absurd (List.mem_filter.mpr ⟨hR, hR'⟩) (by rw [hag]; simp)
    have hlen := stg_len e0
    rw [List.length_range] at hlen
    have hmono := backB_mono n fd.length n (3 * b + 1) hlen
    have hsz := back_sz e0 so (by omega) hn0
    have hst := back_sat e0 so (by omega) hno
    obtain ⟨ps, y5, y6, gg, p1, p2⟩ := pp_goes (k := k + 1) hm hn0 hn (some (.val (.tup [.int n, .tup (bs.map bdD)]))) (some (.val (.lst (fd.map stgD)))) (some (.val (.lst (rows'.map rowD)))) none none none e0 so (by omega) (by omega) (by omega)
    have gf := gg.forS
    rw [List.map_reverse] at gf
    have hall : (List.range n).map (fun j : Nat => rD ((back n fd).getD j 0)) = (back n fd).map rD := by
      refine List.ext_getElem (by simp [back_length]) fun j q1 q2 => ?_
      have hj : j < n := by simpa using q1
      simp only [List.getElem_map, List.getElem_range]
      rw [List.getD_eq_getElem?_getD, List.getElem?_eq_getElem (by rw [back_length]; exact hj)]
      rfl
    have gC : ∀ x5 x6 : Option SV, ev (Py.run fs Γ (k + 8)) Γ c2_point_paper [some (.val (.tup [.int n, .tup (bs.map bdD)])), some (.val (.lst (fd.map stgD))), some (.val (.lst (rows'.map rowD))), none, some (.dct false (kOfP ps)), x5, x6] μ = some (.lst ((back n fd).map rD), μ) := by
      intro x5 x6
      have hr := rngS_map (n := n) (by omega)
      rw [c2_point_paper, ← hall]
      refine ev_lc_map (g := fun j : Nat => D.int (j : Int)) (List.range n) (by simp -implicitDefEqProofs [atI, ixN, hr]) (by simp; omega) fun j hj => ⟨[some (.val (.tup [.int n, .tup (bs.map bdD)])), some (.val (.lst (fd.map stgD))), some (.val (.lst (rows'.map rowD))), none, some (.dct false (kOfP ps)), some (.val (.int (j : Int))), x6], by simp, by simp, ?_⟩
      obtain ⟨q, hq, hq'⟩ := stg_all e0 hno j hj
      have hd : dAtS (kOfP ps) (.num (j : Int)) = some (rD ((back n fd).getD j 0)) := by
        rw [dAt_kOf]
        rcases find_key (j := j) p1 with ⟨_, e'⟩ | ⟨p, e, e'⟩
        · have : j ∈ (fd.map (·.1)).reverse := List.mem_reverse.mpr (List.mem_map.mpr ⟨q, hq, hq'⟩)
          rw [← p2] at this
          obtain ⟨r, hr, z'⟩ := List.mem_map.mp this
          exact absurd z' (e' r hr)
        · rw [e, ← e']; rfl
      simp -implicitDefEqProofs [hd]
    refine ⟨ptD (back n fd), ?_, .inr ⟨_, rfl, back_length n fd, (strongest_sat _ _).mp hst, fun a ha => (hsz a ha).mono hmono⟩⟩
    rw [u_point_paper, b_point_paper]
    simp -implicitDefEqProofs [gs, gA, hag, ex_for, gf, gC, ptD]
  · have hpos : 0 < (rows'.filter fun R : Rw => R.against).length := List.length_pos_iff.mpr hag
    obtain ⟨R, hR⟩ := List.exists_mem_of_ne_nil _ hag
    obtain ⟨r1, r2⟩ := List.mem_filter.mp hR
    refine ⟨.non, ?_, .inl ⟨fun z => (e5.mp ⟨R, r1, r2⟩) (hsat.mpr z), rfl⟩⟩
    rw [u_point_paper, b_point_paper]
    simp -implicitDefEqProofs [gs, gA, hpos]
theorem rowsW_facts (bs : List Bd) (n : Nat) (h : ∀ B ∈ bs, B.f.length = n ∧ Rok b B.row) (hl : bs.length ≤ 1000) (hb : 0 < b) : ∀ R ∈ rowsW bs, R.f.length = n ∧ Rok b R ∧ WOk bs n R := by
  intro R hR
  obtain ⟨p, hp, rfl⟩ := List.mem_map.mp hR
  obtain ⟨B, j⟩ := p
  obtain ⟨hj, eB⟩ := List.mem_zipIdx' hp
  have eB' : B = bs[j]'hj := eB
  clear eB
  subst eB'
  obtain ⟨h1, h2⟩ := h bs[j] (List.getElem_mem hj)
  have hu : (unitL bs.length j 1).length = bs.length := by simp [unitL]
  have hdot : ∀ g : Bd → Rat, dot (unitL bs.length j 1) (bs.map g) = g bs[j] := by
    intro g
    have key : ∀ (l : List Rat) (m s : Nat), m = l.length → ∀ (hs : s ≤ j) (hj : j < s + m), dot ((List.range' s m).map fun q => if q = j then (1 : Rat) else 0) l = l.getD (j - s) 0 := by
      intro l
      induction l with
      | nil => intro m s hm hs hj; simp at hm; omega
      | cons a l ih =>
        intro m s hm hs hj
        obtain ⟨m', rfl⟩ : ∃ m', m = m' + 1 := ⟨l.length, by simpa using hm⟩
        rw [List.range'_succ, List.map_cons, dot]
        by_cases e : s = j
        · subst e
          have hz : dot ((List.range' (s + 1) m').map fun q => if q = s then (1 : Rat) else 0) l = 0 := dot_zero _ _ fun y hy => by
            obtain ⟨q, hq, rfl⟩ := List.mem_map.mp hy
            have := List.mem_range'_1.mp hq
            rw [if_neg (by omega)]
          rw [hz, if_pos rfl, Nat.sub_self, List.getD_cons_zero]
          grind
        · rw [if_neg e, ih m' (s + 1) (by simpa using hm) (by omega) (by omega), show j - s = (j - (s + 1)) + 1 by omega, List.getD_cons_succ]
          grind
    unfold unitL
    rw [List.range_eq_range', key (bs.map g) bs.length 0 (by simp) (by omega) (by omega), Nat.sub_zero, List.getD_eq_getElem?_getD, List.getElem?_map, List.getElem?_eq_getElem hj]
    rfl
  refine ⟨h1, ⟨⟨h2.1.1, h2.1.2.1, fun a ha => ?_⟩, h2.2.1, by simp [rowW, unitL]; exact hl⟩, ⟨hu, fun a ha => ?_, fun q hq => ?_, ?_, ?_⟩⟩
  · obtain ⟨q, _, rfl⟩ := List.mem_map.mp ha
    split
    · exact sz_one hb
    · exact sz_zero hb
  · obtain ⟨q, _, rfl⟩ := List.mem_map.mp ha
    split <;> decide
  · exact (hdot fun B => B.f.getD q 0).symm
  · exact (hdot fun B => B.r).symm
  · show bs[j].s = true ↔ _
    constructor
    · intro hs
      refine ⟨(bs[j], (1 : Rat)), List.mem_iff_getElem.mpr ⟨j, by rw [List.length_zip]; simp [rowW, unitL]; exact hj, ?_⟩, hs, (by show (0 : Rat) < 1; decide)⟩
      rw [List.getElem_zip]
      simp [rowW, unitL]
    · rintro ⟨p, hp, hs, h0⟩
      obtain ⟨q, hq, e⟩ := List.getElem_of_mem hp
      rw [List.getElem_zip] at e
      subst e
      simp only [rowW, unitL, List.getElem_map, List.getElem_range] at h0 hs
      split at h0
      · rename_i e; subst e; exact hs
      · exact absurd h0 (by decide)
/-- the bits of rows after so many eliminations -/
def itB : Nat → Nat → Nat
  | 0, b => b
  | m + 1, b => itB m (12 * b + 10)
theorem itB_mono : ∀ (m m' b : Nat), m ≤ m' → itB m b ≤ itB m' b
  | 0, 0, b, _ => Nat.le_refl _
  | 0, m' + 1, b, _ => by
    have := itB_mono 0 m' (12 * b + 10) (by omega)
    rw [itB] at this ⊢
    rw [itB]
    omega
  | m + 1, 0, b, h => by omega
  | m + 1, m' + 1, b, h => itB_mono m m' (12 * b + 10) (by omega)
theorem stg_rok {n : Nat} {left : List Nat} {rows : List Rw} {found : List (Nat × List Rw)} {rows' : List Rw} (s : Stg left rows found rows') : ∀ {b : Nat}, StOk n b left rows → 0 < b → ∀ R ∈ rows', Rok (itB found.length b) R := by
  induction s with
  | stop _ => intro b h hb R hR; exact (h.row R hR).2
  | step hi ha s ih => intro b h hb; exact ih (h.next hi hb) (by omega)
/-- a paper that a polyhedron is empty, None if there is a point -/
theorem r_empty_paper (n : Nat) (bs : List Bd) (b N : Nat) (hB : ∀ B ∈ bs, B.f.length = n ∧ Rok b B.row) (hn : n ≤ 1000) (hb : 0 < b) (h1 : 6 * b + 4 ≤ 8999) (h2 : bOk n (3 * b + 1)) (h3 : lOk n N) (hN : bs.length ≤ N) (hl : bs.length ≤ 1000) :
    ∃ r : D, Py.run fs Γ (k + 9) f_empty_paper [.tup [.int n, .tup (bs.map bdD)]] μ = some (r, μ) ∧ ((hasPt n (bs.map Bd.row) ∧ r = .non) ∨ (∃ R, r = ptD R.w ∧ R.f.length = n ∧ Rok (itB n (3 * b + 1)) R ∧ WOk bs n R ∧ R.against = true ∧ ¬ hasPt n (bs.map Bd.row))) := by
  have hW := rowsW_facts (b := b) bs n hB hl hb
  have gr := r_rows_ofW (k := k) (μ := μ) n bs (b := b) (fun R hR => (hW R hR).2.1) hl hb h1
  have hrow : ∀ R ∈ strongest (rowsW bs), R.f.length = n ∧ Rok (3 * b + 1) R := strongest_mem (P := fun R => R.f.length = n ∧ Rok (3 * b + 1) R) fun R hR => by
    obtain ⟨q1, q2, _⟩ := hW R hR
    exact ⟨by rw [even_length]; exact q1, (q2.even hb).mono (by omega)⟩
  have hwk : ∀ R ∈ strongest (rowsW bs), WOk bs n R := strongest_mem (P := fun R => WOk bs n R) fun R hR => (hW R hR).2.2.even
  have so : StOk n (3 * b + 1) (List.range n) (strongest (rowsW bs)) := ⟨fun i hi => List.mem_range.mp hi, hrow, fun i hi hni => absurd (List.mem_range.mpr hi) hni, strongest_not_nothing⟩
  have hlen : (strongest (rowsW bs)).length ≤ N := by have := strongest_length (rowsW bs); unfold rowsW at this ⊢; rw [List.length_map, List.length_zipIdx] at this; omega
  obtain ⟨fd, rows', b', gs, e0, e1, e2, e3, e4⟩ := r_stages (k := k) (μ := μ) n (bs.map bdD) true _ (3 * b + 1) N gr hn so hlen (by omega) h2 h3
  have hsat : hasPt n (strongest (rowsW bs)) ↔ hasPt n (bs.map Bd.row) := by
    have hs : ∀ x, Sat (rowsW bs) x ↔ Sat (bs.map Bd.row) x := fun x => by
      constructor
      · intro h R hR
        obtain ⟨B, hB', rfl⟩ := List.mem_map.mp hR
        obtain ⟨j, hj, rfl⟩ := List.getElem_of_mem hB'
        exact h (rowW bs.length (bs[j], j)) (List.mem_map.mpr ⟨(bs[j], j), by
          rw [List.mem_iff_getElem]; exact ⟨j, by simpa using hj, by simp⟩, rfl⟩)
      · intro h R hR
        obtain ⟨p, hp, rfl⟩ := List.mem_map.mp hR
        obtain ⟨B, j⟩ := p
        obtain ⟨hj, eB⟩ := List.mem_zipIdx' hp
        have eB' : B = bs[j]'hj := eB
        clear eB
        subst eB'
        exact h bs[j].row (List.mem_map.mpr ⟨_, List.getElem_mem hj, rfl⟩)
    unfold hasPt
    constructor
    · rintro ⟨x, h, hx⟩; exact ⟨x, h, (hs x).mp ((strongest_sat _ x).mp hx)⟩
    · rintro ⟨x, h, hx⟩; exact ⟨x, h, (strongest_sat _ x).mpr ((hs x).mpr hx)⟩
  have e5 := stg_end e0 so (by omega)
  have ew := stg_wok e0 so (by omega) hwk
  have el : ∀ R ∈ rows', R.f.length = n := stg_flen e0 so (by omega)
  have gA : ∀ x0 x1 x3 x4 : Option SV, ev (Py.run fs Γ (k + 8)) Γ c1_empty_paper [x0, x1, some (.val (.lst (rows'.map rowD))), x3, x4] μ = some (.lst ((rows'.filter fun R : Rw => R.against).map rowD), μ) := by
    intro x0 x1 x3 x4
    rw [c1_empty_paper]
    refine ev_lc_filter (g := rowD) rows' (by simp) (by omega) fun R hR => ⟨[x0, x1, some (.val (.lst (rows'.map rowD))), x3, some (.val (rowD R))], by simp, ?_, by simp⟩
    have g := against_lc (k := k + 5) (μ := μ) e1 e2 e3 R hR
    simp -implicitDefEqProofs [g]
  cases hag : (rows'.filter fun R : Rw => R.against) with
  | nil =>
    refine ⟨.non, ?_, .inl ⟨Classical.byContradiction fun z => ?_, rfl⟩⟩
    · rw [u_empty_paper, b_empty_paper]
      simp -implicitDefEqProofs [gs, gA, hag]
    · obtain ⟨R, r1, r2⟩ := e5.mpr (fun w => z (hsat.mp w))
      exact absurd (List.mem_filter.mpr ⟨r1, r2⟩) (by rw [hag]; simp)
  | cons R rest =>
    have hR : R ∈ rows'.filter fun R : Rw => R.against := by rw [hag]; simp
    obtain ⟨r1, r2⟩ := List.mem_filter.mp hR
    refine ⟨ptD R.w, ?_, .inr ⟨R, rfl, el R r1, (stg_rok e0 so (by omega) R r1).mono (itB_mono _ _ _ (by have := stg_len e0; rwa [List.length_range] at this)), ew R r1, r2, fun z => (e5.mp ⟨R, r1, r2⟩) (hsat.mpr z)⟩⟩
    have t0 : ∀ Q : Rw, itsS μ (rowD Q) = some [.lst (Q.f.map rD), rD Q.r, .bl Q.s, .lst (Q.w.map rD)] := fun _ => rfl
    have q3 : atI [D.lst (R.f.map rD), rD R.r, .bl R.s, .lst (R.w.map rD)] 3 = some (.lst (R.w.map rD)) := by simp [atI, ixN]
    have a0 : atI (rowD R :: rest.map rowD) 0 = some (rowD R) := by simp [atI, ixN]
    have hp : (0 : Int) < (rest.length : Int) + 1 := by omega
    rw [u_empty_paper, b_empty_paper]
    simp -implicitDefEqProofs [gs, gA, hag, a0, t0, q3, hp, ptD]
end
end P1
end
section
set_option Elab.async false
set_option linter.all false
set_option maxRecDepth 100000
set_option maxHeartbeats 0
namespace Geo
open PySem L2 Py FM
/-! ### regions: lists of pieces, each a list of bounds; plain Lean -/
abbrev Pc := List Bd
open Classical in
noncomputable def neB (n : Nat) (p : Pc) : Bool := decide (hasPt n (p.map Bd.row))
theorem neB_iff {n : Nat} {p : Pc} : neB n p = true ↔ hasPt n (p.map Bd.row) := by unfold neB; simp
theorem row_ok {B : Bd} {x : List Rat} : B.row.ok x ↔ keepsB B x = true := by
  unfold keepsB
  rw [okb_iff]
  exact Iff.rfl
theorem sat_hasB {p : Pc} {x : List Rat} : Sat (p.map Bd.row) x ↔ hasB p x = true := by
  unfold hasB
  rw [List.all_eq_true]
  constructor
  · intro h B hB; exact row_ok.mp (h _ (List.mem_map.mpr ⟨B, hB, rfl⟩))
  · intro h R hR
    obtain ⟨B, hB, rfl⟩ := List.mem_map.mp hR
    exact row_ok.mpr (h B hB)
theorem neB_of {n : Nat} {p : Pc} {x : List Rat} (hx : x.length = n) (h : hasB p x = true) : neB n p = true := neB_iff.mpr ⟨x, hx, sat_hasB.mpr h⟩
theorem neB_get {n : Nat} {p : Pc} (h : neB n p = true) : ∃ x : List Rat, x.length = n ∧ hasB p x = true := by
  obtain ⟨x, hx, hs⟩ := neB_iff.mp h
  exact ⟨x, hx, sat_hasB.mp hs⟩
theorem keeps_turned (B : Bd) (x : List Rat) : keepsB B.turned x = !keepsB B x := by
  have h := turned_ok B x
  rw [row_ok, row_ok] at h
  cases h1 : keepsB B.turned x <;> cases h2 : keepsB B x <;> simp_all
theorem hasB_app (p q : Pc) (x : List Rat) : hasB (p ++ q) x = (hasB p x && hasB q x) := by unfold hasB; rw [List.all_append]
theorem hasB_cons (B : Bd) (q : Pc) (x : List Rat) : hasB (B :: q) x = (keepsB B x && hasB q x) := rfl
def inR (r : List Pc) (x : List Rat) : Bool := r.any fun p => hasB p x
theorem inR_app (a b : List Pc) (x : List Rat) : inR (a ++ b) x = (inR a x || inR b x) := by unfold inR; rw [List.any_append]
theorem inR_mem {r : List Pc} {x : List Rat} : inR r x = true ↔ ∃ p ∈ r, hasB p x = true := by unfold inR; rw [List.any_eq_true]
/-- q's bounds, one after the other turned -/
def cuts : Pc → List Pc
  | [] => []
  | B :: q => [B.turned] :: (cuts q).map (B :: ·)
theorem cuts_length : ∀ q : Pc, (cuts q).length = q.length
  | [] => rfl
  | B :: q => by simp [cuts, cuts_length q]
theorem cuts_get : ∀ (q : Pc) (k : Nat) (h : k < q.length), (cuts q)[k]? = some (q.take k ++ [q[k].turned])
  | B :: q, 0, _ => by simp [cuts]
  | B :: q, k + 1, h => by
    have := cuts_get q k (by simpa using h)
    simp [cuts, this]
theorem cuts_any (x : List Rat) : ∀ q : Pc, inR (cuts q) x = !hasB q x
  | [] => rfl
  | B :: q => by
    have ih := cuts_any x q
    unfold inR at ih ⊢
    rw [cuts, List.any_cons, List.any_map]
    have e : (fun p => hasB (B :: p) x) = fun p => (keepsB B x && hasB p x) := by funext p; exact hasB_cons B p x
    show (hasB [B.turned] x || (cuts q).any (fun p => hasB (B :: p) x)) = _
    rw [e, show hasB [B.turned] x = (keepsB B.turned x && true) from rfl, keeps_turned, hasB_cons]
    cases hk : keepsB B x with
    | true => simp; simpa using ih
    | false => simp
theorem cuts_disj : ∀ q : Pc, (cuts q).Pairwise fun a b => ∀ x, ¬ (hasB a x = true ∧ hasB b x = true)
  | [] => .nil
  | B :: q => by
    rw [cuts, List.pairwise_cons]
    refine ⟨fun p hp x ⟨h1, h2⟩ => ?_, ?_⟩
    · obtain ⟨p', _, rfl⟩ := List.mem_map.mp hp
      rw [hasB_cons, Bool.and_eq_true] at h2
      rw [hasB_cons, keeps_turned, h2.1] at h1
      simp at h1
    · rw [List.pairwise_map]
      refine (cuts_disj q).imp fun h x ⟨h1, h2⟩ => h x ?_
      rw [hasB_cons, Bool.and_eq_true] at h1 h2
      exact ⟨h1.2, h2.2⟩
noncomputable def woR (n : Nat) (p q : Pc) : List Pc := ((cuts q).map (p ++ ·)).filter (neB n)
noncomputable def stepR (n : Nat) (parts : List Pc) (q : Pc) : List Pc := parts.flatMap fun p => woR n p q
noncomputable def takenR (n : Nat) (a b : List Pc) : List Pc := b.foldl (stepR n) (a.filter (neB n))
noncomputable def metR (n : Nat) (a b : List Pc) : List Pc := a.flatMap fun p => (b.map (p ++ ·)).filter (neB n)
noncomputable def outR (n : Nat) (r : List Pc) : List Pc := takenR n [[]] r
noncomputable def covR (n : Nat) (a b : List Pc) : Bool := (takenR n a b).isEmpty
section
variable {n : Nat} {x : List Rat}
theorem inR_filter (hx : x.length = n) (r : List Pc) : inR (r.filter (neB n)) x = inR r x := by
  rw [Bool.eq_iff_iff, inR_mem, inR_mem]
  constructor
  · rintro ⟨p, hp, h⟩; exact ⟨p, (List.mem_filter.mp hp).1, h⟩
  · rintro ⟨p, hp, h⟩; exact ⟨p, List.mem_filter.mpr ⟨hp, neB_of hx h⟩, h⟩
theorem inR_map_app (p : Pc) (r : List Pc) : inR (r.map (p ++ ·)) x = (hasB p x && inR r x) := by
  unfold inR
  rw [List.any_map]
  have e : ((fun q => hasB q x) ∘ fun q => p ++ q) = fun q => (hasB p x && hasB q x) := by funext q; exact hasB_app p q x
  rw [e]
  cases hasB p x <;> simp
theorem inR_wo (hx : x.length = n) (p q : Pc) : inR (woR n p q) x = (hasB p x && !hasB q x) := by
  unfold woR
  rw [inR_filter hx, inR_map_app, cuts_any]
theorem inR_flatMap {α : Type} (l : List α) (f : α → List Pc) : inR (l.flatMap f) x = l.any fun a => inR (f a) x := by
  unfold inR; rw [List.any_flatMap]
theorem inR_step (hx : x.length = n) (parts : List Pc) (q : Pc) : inR (stepR n parts q) x = (inR parts x && !hasB q x) := by
  unfold stepR
  rw [inR_flatMap]
  have e : (fun p => inR (woR n p q) x) = fun p => (hasB p x && !hasB q x) := by funext p; exact inR_wo hx p q
  rw [e]
  unfold inR
  cases hasB q x <;> simp
theorem inR_fold (hx : x.length = n) : ∀ (b parts : List Pc), inR (b.foldl (stepR n) parts) x = (inR parts x && !inR b x)
  | [], parts => by simp [inR]
  | q :: b, parts => by
    rw [List.foldl_cons, inR_fold hx b, inR_step hx, show inR (q :: b) x = (hasB q x || inR b x) from rfl]
    cases inR parts x <;> cases hasB q x <;> cases inR b x <;> rfl
theorem inR_taken (hx : x.length = n) (a b : List Pc) : inR (takenR n a b) x = (inR a x && !inR b x) := by
  unfold takenR
  rw [inR_fold hx, inR_filter hx]
theorem inR_met (hx : x.length = n) (a b : List Pc) : inR (metR n a b) x = (inR a x && inR b x) := by
  unfold metR
  rw [inR_flatMap]
  have e : (fun p => inR ((b.map (p ++ ·)).filter (neB n)) x) = fun p => (hasB p x && inR b x) := by
    funext p
    rw [inR_filter hx, inR_map_app]
  rw [e]
  unfold inR
  cases b.any fun p => hasB p x <;> simp
theorem inR_out (hx : x.length = n) (r : List Pc) : inR (outR n r) x = !inR r x := by
  unfold outR
  rw [inR_taken hx]
  rfl
theorem step_ne {parts : List Pc} {q : Pc} : ∀ p ∈ stepR n parts q, neB n p = true := fun p hp => by
  obtain ⟨p', _, h⟩ := List.mem_flatMap.mp hp
  exact (List.mem_filter.mp h).2
theorem fold_ne : ∀ (b parts : List Pc), (∀ p ∈ parts, neB n p = true) → ∀ p ∈ b.foldl (stepR n) parts, neB n p = true
  | [], parts, h => h
  | q :: b, parts, h => fold_ne b (stepR n parts q) step_ne
theorem taken_ne {a b : List Pc} : ∀ p ∈ takenR n a b, neB n p = true := fold_ne b _ fun p hp => (List.mem_filter.mp hp).2
theorem met_ne {a b : List Pc} : ∀ p ∈ metR n a b, neB n p = true := fun p hp => by
  obtain ⟨p', _, h⟩ := List.mem_flatMap.mp hp
  exact (List.mem_filter.mp h).2
/-- a region is covered just where all its points are in the other -/
theorem covR_iff {a b : List Pc} : covR n a b = true ↔ ∀ x : List Rat, x.length = n → inR a x = true → inR b x = true := by
  unfold covR
  rw [List.isEmpty_iff]
  constructor
  · intro h x hx ha
    have := inR_taken hx a b
    rw [h, ha] at this
    cases hb : inR b x with
    | true => rfl
    | false => rw [hb] at this; simp [inR] at this
  · intro h
    cases ht : takenR n a b with
    | nil => rfl
    | cons p r =>
      have hp : neB n p = true := taken_ne p (by rw [ht]; simp)
      obtain ⟨x, hx, hxp⟩ := neB_get hp
      have h1 : inR (takenR n a b) x = true := inR_mem.mpr ⟨p, by rw [ht]; simp, hxp⟩
      rw [inR_taken hx, Bool.and_eq_true, Bool.not_eq_true'] at h1
      rw [h x hx h1.1] at h1
      exact absurd h1.2 (by simp)
theorem void_iff {r : List Pc} : (∀ p ∈ r, neB n p = false) ↔ ∀ x : List Rat, x.length = n → inR r x = false := by
  constructor
  · intro h x hx
    cases hi : inR r x with
    | false => rfl
    | true =>
      obtain ⟨p, hp, hxp⟩ := inR_mem.mp hi
      have h1 := h p hp
      have h2 := neB_of hx hxp
      rw [h1] at h2; cases h2
  · intro h p hp
    cases hn : neB n p with
    | false => rfl
    | true =>
      obtain ⟨x, hx, hxp⟩ := neB_get hn
      have h1 := h x hx
      have h2 := inR_mem.mpr ⟨p, hp, hxp⟩
      rw [h1] at h2; cases h2
end
/-! ### what is needed, from the back -/
section
variable {α : Type}
def slimK (red : List α → α → Bool) (l : List α) : Nat → List α → List α
  | 0, suf => suf
  | k + 1, suf => match l[k]? with
    | none => slimK red l k suf
    | some a => if red (l.take k ++ suf) a then slimK red l k suf else slimK red l k (a :: suf)
def slim (red : List α → α → Bool) (l : List α) : List α := slimK red l l.length []
theorem slimK_succ {red : List α → α → Bool} {l : List α} {k : Nat} {suf : List α} (h : k < l.length) : slimK red l (k + 1) suf = if red (l.take k ++ suf) l[k] then slimK red l k suf else slimK red l k (l[k] :: suf) := by
  rw [slimK, List.getElem?_eq_getElem h]
theorem slimK_mem {red : List α → α → Bool} {l : List α} : ∀ (k : Nat) (suf : List α), k ≤ l.length → ∀ b ∈ slimK red l k suf, b ∈ l ∨ b ∈ suf
  | 0, suf, _, b, hb => .inr hb
  | k + 1, suf, hk, b, hb => by
    rw [slimK_succ (by omega)] at hb
    split at hb
    · exact slimK_mem k suf (by omega) b hb
    · rcases slimK_mem k _ (by omega) b hb with h | h
      · exact .inl h
      · rcases List.mem_cons.mp h with e | e
        · rw [e]; exact .inl (List.getElem_mem _)
        · exact .inr e
theorem slim_mem {red : List α → α → Bool} {l : List α} : ∀ b ∈ slim red l, b ∈ l := fun b hb => by
  rcases slimK_mem l.length [] (Nat.le_refl _) b hb with h | h
  · exact h
  · cases h
theorem slimK_len {red : List α → α → Bool} {l : List α} : ∀ (k : Nat) (suf : List α), k ≤ l.length → (slimK red l k suf).length ≤ k + suf.length
  | 0, suf, _ => by simp [slimK]
  | k + 1, suf, hk => by
    rw [slimK_succ (by omega)]
    split
    · have := slimK_len (red := red) (l := l) k suf (by omega); omega
    · have := slimK_len (red := red) (l := l) k (l[k] :: suf) (by omega); simp only [List.length_cons] at this; omega
theorem slim_len {red : List α → α → Bool} {l : List α} : (slim red l).length ≤ l.length := by
  have := slimK_len (red := red) (l := l) l.length [] (Nat.le_refl _)
  unfold slim
  simpa using this
/-- each one that is left is needed -/
theorem slimK_need {red : List α → α → Bool} (mono : ∀ r r' a, (∀ b ∈ r, b ∈ r') → red r a = true → red r' a = true) {l : List α} : ∀ (k : Nat) (suf : List α), k ≤ l.length → (∀ s1 a s2, suf = s1 ++ a :: s2 → red (l.take k ++ (s1 ++ s2)) a = false) →
    ∀ s1 a s2, slimK red l k suf = s1 ++ a :: s2 → red (s1 ++ s2) a = false
  | 0, suf, _, h => by rw [slimK]; simpa using h
  | k + 1, suf, hk, h => by
    have ht : l.take (k + 1) = l.take k ++ [l[k]] := List.take_succ_eq_append_getElem (by omega)
    rw [slimK_succ (by omega)]
    split
    · refine slimK_need mono k suf (by omega) fun s1 a s2 e => ?_
      have := h s1 a s2 e
      cases hr : red (l.take k ++ (s1 ++ s2)) a with
      | false => rfl
      | true =>
        rw [mono _ (l.take (k + 1) ++ (s1 ++ s2)) a (fun b hb => by
          rw [ht]
          simp only [List.mem_append] at hb ⊢
          rcases hb with hb | hb
          · exact .inl (.inl hb)
          · exact .inr hb) hr] at this
        cases this
    · rename_i hr
      refine slimK_need mono k (l[k] :: suf) (by omega) fun s1 a s2 e => ?_
      cases s1 with
      | nil =>
        simp only [List.nil_append, List.cons.injEq] at e
        obtain ⟨rfl, rfl⟩ := e
        simpa using hr
      | cons c s1 =>
        simp only [List.cons_append, List.cons.injEq] at e
        obtain ⟨rfl, e⟩ := e
        have := h s1 a s2 e
        rw [ht, List.append_assoc] at this
        exact this
theorem slim_need {red : List α → α → Bool} (mono : ∀ r r' a, (∀ b ∈ r, b ∈ r') → red r a = true → red r' a = true) {l : List α} : ∀ s1 a s2, slim red l = s1 ++ a :: s2 → red (s1 ++ s2) a = false :=
  slimK_need mono l.length [] (Nat.le_refl _) fun s1 a s2 e => by simp at e
theorem slim_fix {red : List α → α → Bool} {l : List α} (h : ∀ s1 a s2, l = s1 ++ a :: s2 → red (s1 ++ s2) a = false) : slim red l = l := by
  have key : ∀ k, k ≤ l.length → slimK red l k (l.drop k) = l := by
    intro k
    induction k with
    | zero => intro _; simp [slimK]
    | succ k ih =>
      intro hk
      have hd : l.drop k = l[k] :: l.drop (k + 1) := List.drop_eq_getElem_cons (by omega)
      have he : l = l.take k ++ l[k] :: l.drop (k + 1) := by rw [← hd, List.take_append_drop]
      rw [slimK_succ (by omega), h _ _ _ he, if_neg Bool.false_ne_true, ← hd]
      exact ih (by omega)
  have := key l.length (Nat.le_refl _)
  rwa [List.drop_length] at this
/-- nothing is lost -/
theorem slim_same {red : List α → α → Bool} (Q : List α → Prop) (hq : ∀ p a s, red (p ++ s) a = true → (Q (p ++ a :: s) ↔ Q (p ++ s))) (l : List α) : Q (slim red l) ↔ Q l := by
  have key : ∀ k suf, k ≤ l.length → (Q (slimK red l k suf) ↔ Q (l.take k ++ suf)) := by
    intro k
    induction k with
    | zero => intro suf _; simp [slimK]
    | succ k ih =>
      intro suf hk
      have ht : l.take (k + 1) = l.take k ++ [l[k]] := List.take_succ_eq_append_getElem (by omega)
      rw [slimK_succ (by omega), ht, List.append_assoc]
      split
      · rename_i hr
        rw [ih suf (by omega)]
        exact (hq _ _ _ hr).symm
      · exact ih _ (by omega)
  have := key l.length [] (Nat.le_refl _)
  rwa [List.take_length, List.append_nil] at this
end
noncomputable def redB (n : Nat) (rest : Pc) (B : Bd) : Bool := !neB n (rest ++ [B.turned])
noncomputable def leanR (n : Nat) (p : Pc) : Pc := slim (redB n) p
noncomputable def redR (n : Nat) (rest : List Pc) (p : Pc) : Bool := covR n [p] rest
noncomputable def leastR (n : Nat) (r : List Pc) : List Pc := slim (redR n) ((r.filter (neB n)).map (leanR n))
theorem hasB_mem {p : Pc} {x : List Rat} : hasB p x = true ↔ ∀ B ∈ p, keepsB B x = true := by unfold hasB; rw [List.all_eq_true]
theorem redB_mono {n : Nat} : ∀ (r r' : Pc) (B : Bd), (∀ b ∈ r, b ∈ r') → redB n r B = true → redB n r' B = true := by
  intro r r' B h hr
  unfold redB at hr ⊢
  rw [Bool.not_eq_true'] at hr ⊢
  cases hn : neB n (r' ++ [B.turned]) with
  | false => rfl
  | true =>
    obtain ⟨x, hx, hxp⟩ := neB_get hn
    rw [neB_of hx (p := r ++ [B.turned]) (by
      rw [hasB_app, Bool.and_eq_true] at hxp ⊢
      exact ⟨hasB_mem.mpr fun b hb => hasB_mem.mp hxp.1 b (h b hb), hxp.2⟩)] at hr
    cases hr
theorem redB_keeps {n : Nat} {rest : Pc} {B : Bd} (h : redB n rest B = true) {x : List Rat} (hx : x.length = n) (hr : hasB rest x = true) : keepsB B x = true := by
  cases hk : keepsB B x with
  | true => rfl
  | false =>
    unfold redB at h
    rw [neB_of hx (p := rest ++ [B.turned]) (by rw [hasB_app, hr, hasB_cons, keeps_turned, hk]; rfl)] at h
    cases h
theorem lean_same {n : Nat} {x : List Rat} (hx : x.length = n) (p : Pc) : hasB (leanR n p) x = hasB p x := by
  have := slim_same (red := redB n) (fun l => hasB l x = true) (fun p a s hr => by
    rw [hasB_app, hasB_cons, hasB_app]
    constructor
    · intro h
      simp only [Bool.and_eq_true] at h ⊢
      exact ⟨h.1, h.2.2⟩
    · intro h
      have hk := redB_keeps hr hx (by rw [hasB_app]; exact h)
      rw [hk, Bool.true_and]; exact h) p
  exact Bool.eq_iff_iff.mpr this
theorem lean_ne {n : Nat} {p : Pc} : neB n (leanR n p) = neB n p := by
  rw [Bool.eq_iff_iff]
  constructor
  · intro h
    obtain ⟨x, hx, hp⟩ := neB_get h
    exact neB_of hx (by rw [← lean_same hx]; exact hp)
  · intro h
    obtain ⟨x, hx, hp⟩ := neB_get h
    exact neB_of hx (by rw [lean_same hx]; exact hp)
theorem lean_lean {n : Nat} {p : Pc} : leanR n (leanR n p) = leanR n p := slim_fix (slim_need redB_mono)
theorem redR_mono {n : Nat} : ∀ (r r' : List Pc) (p : Pc), (∀ b ∈ r, b ∈ r') → redR n r p = true → redR n r' p = true := by
  intro r r' p h hr
  unfold redR at hr ⊢
  rw [covR_iff] at hr ⊢
  intro x hx hp
  obtain ⟨q, hq, hxq⟩ := inR_mem.mp (hr x hx hp)
  exact inR_mem.mpr ⟨q, h q hq, hxq⟩
theorem least_same {n : Nat} {x : List Rat} (hx : x.length = n) (r : List Pc) : inR (leastR n r) x = inR r x := by
  have h1 := slim_same (red := redR n) (fun l => inR l x = true) (fun p a s hr => by
    rw [inR_app, show inR (a :: s) x = (hasB a x || inR s x) from rfl, inR_app]
    constructor
    · intro h
      simp only [Bool.or_eq_true] at h ⊢
      rcases h with h | h | h
      · exact .inl h
      · have := covR_iff.mp hr x hx (by simp [inR, h])
        rw [inR_app, Bool.or_eq_true] at this
        exact this
      · exact .inr h
    · intro h
      simp only [Bool.or_eq_true] at h ⊢
      rcases h with h | h
      · exact .inl h
      · exact .inr (.inr h)) ((r.filter (neB n)).map (leanR n))
  have h2 : inR ((r.filter (neB n)).map (leanR n)) x = inR r x := by
    rw [← inR_filter hx r]
    unfold inR
    rw [List.any_map]
    congr 1
    funext p
    exact lean_same hx p
  rw [← h2]
  exact Bool.eq_iff_iff.mpr h1
theorem least_pieces {n : Nat} {r : List Pc} : ∀ p ∈ leastR n r, neB n p = true ∧ leanR n p = p := fun p hp => by
  obtain ⟨q, hq, rfl⟩ := List.mem_map.mp (slim_mem p hp)
  exact ⟨by rw [lean_ne]; exact (List.mem_filter.mp hq).2, lean_lean⟩
theorem least_need {n : Nat} {r : List Pc} : ∀ s1 p s2, leastR n r = s1 ++ p :: s2 → covR n [p] (s1 ++ s2) = false := slim_need redR_mono
/-! ### families of bounds, and how many pieces there may be -/
def Fam (γ : List Bd) (B : Bd) : Prop := B ∈ γ ∨ ∃ C ∈ γ, B = C.turned
theorem turned_turned (B : Bd) : B.turned.turned = B := by
  unfold Bd.turned
  obtain ⟨f, r, s⟩ := B
  simp only [List.map_map, Bool.not_not, Bd.mk.injEq, and_true]
  refine ⟨?_, by grind⟩
  have : ((fun t : Rat => -t) ∘ fun t => -t) = id := by funext t; simp only [Function.comp]; grind
  rw [this, List.map_id]
theorem Fam.turned {γ : List Bd} {B : Bd} (h : Fam γ B) : Fam γ B.turned := by
  rcases h with h | ⟨C, h, rfl⟩
  · exact .inr ⟨B, h, rfl⟩
  · rw [turned_turned]; exact .inl h
def FamP (γ : List Bd) (p : Pc) : Prop := ∀ B ∈ p, Fam γ B
def FamR (γ : List Bd) (r : List Pc) : Prop := ∀ p ∈ r, FamP γ p
theorem FamP.app {γ : List Bd} {p q : Pc} (h : FamP γ p) (h' : FamP γ q) : FamP γ (p ++ q) := fun B hB => by
  rcases List.mem_append.mp hB with hB | hB
  · exact h B hB
  · exact h' B hB
theorem cuts_fam {γ : List Bd} : ∀ {q : Pc}, FamP γ q → FamR γ (cuts q)
  | [], _ => fun _ h => by cases h
  | B :: q, h => fun p hp => by
    rw [cuts] at hp
    rcases List.mem_cons.mp hp with e | hp
    · rw [e]
      intro C hC
      rw [List.mem_singleton] at hC
      rw [hC]
      exact (h B (by simp)).turned
    · obtain ⟨p', hp', rfl⟩ := List.mem_map.mp hp
      intro C hC
      rcases List.mem_cons.mp hC with e | hC
      · rw [e]; exact h B (by simp)
      · exact cuts_fam (fun D hD => h D (by simp [hD])) p' hp' C hC
theorem cuts_len : ∀ {q : Pc}, ∀ c ∈ cuts q, c.length ≤ q.length
  | [], _, h => by cases h
  | B :: q, c, hc => by
    rw [cuts] at hc
    rcases List.mem_cons.mp hc with e | hc
    · rw [e]; simp
    · obtain ⟨p', hp', rfl⟩ := List.mem_map.mp hc
      have := cuts_len p' hp'
      simp only [List.length_cons]; omega
section
variable {n : Nat} {γ : List Bd}
theorem step_fam {parts : List Pc} {q : Pc} (h : FamR γ parts) (hq : FamP γ q) : FamR γ (stepR n parts q) := fun p hp => by
  obtain ⟨p', hp', h'⟩ := List.mem_flatMap.mp hp
  obtain ⟨c, hc, rfl⟩ := List.mem_map.mp (List.mem_filter.mp h').1
  exact (h p' hp').app (cuts_fam hq c hc)
theorem fold_fam : ∀ (b parts : List Pc), FamR γ parts → FamR γ b → FamR γ (b.foldl (stepR n) parts)
  | [], parts, h, _ => h
  | q :: b, parts, h, hb => fold_fam b _ (step_fam h (hb q (by simp))) fun p hp => hb p (by simp [hp])
theorem taken_fam {a b : List Pc} (ha : FamR γ a) (hb : FamR γ b) : FamR γ (takenR n a b) := fold_fam b _ (fun p hp => ha p (List.mem_filter.mp hp).1) hb
theorem met_fam {a b : List Pc} (ha : FamR γ a) (hb : FamR γ b) : FamR γ (metR n a b) := fun p hp => by
  obtain ⟨p', hp', h'⟩ := List.mem_flatMap.mp hp
  obtain ⟨c, hc, rfl⟩ := List.mem_map.mp (List.mem_filter.mp h').1
  exact (ha p' hp').app (hb c hc)
theorem out_fam {r : List Pc} (h : FamR γ r) : FamR γ (outR n r) := taken_fam (fun p hp => by rw [List.mem_singleton] at hp; rw [hp]; intro B hB; cases hB) h
theorem FamR.app {a b : List Pc} (ha : FamR γ a) (hb : FamR γ b) : FamR γ (a ++ b) := fun p hp => by
  rcases List.mem_append.mp hp with hp | hp
  · exact ha p hp
  · exact hb p hp
/-! lengths -/
def sumL (b : List Pc) : Nat := (b.map List.length).sum
theorem fold_plen : ∀ (b parts : List Pc) (L : Nat), (∀ p ∈ parts, p.length ≤ L) → ∀ p ∈ b.foldl (stepR n) parts, p.length ≤ L + sumL b
  | [], parts, L, h => by simpa [sumL] using h
  | q :: b, parts, L, h => fun p hp => by
    have := fold_plen b (stepR n parts q) (L + q.length) (fun p hp => by
      obtain ⟨p', hp', h'⟩ := List.mem_flatMap.mp hp
      obtain ⟨c, hc, rfl⟩ := List.mem_map.mp (List.mem_filter.mp h').1
      have := h p' hp'
      have := cuts_len c hc
      rw [List.length_append]; omega) p hp
    unfold sumL at this ⊢
    rw [List.map_cons, List.sum_cons]
    omega
theorem taken_plen {a b : List Pc} {L : Nat} (h : ∀ p ∈ a, p.length ≤ L) : ∀ p ∈ takenR n a b, p.length ≤ L + sumL b := fold_plen b _ L fun p hp => h p (List.mem_filter.mp hp).1
theorem met_plen {a b : List Pc} {L M : Nat} (h : ∀ p ∈ a, p.length ≤ L) (h' : ∀ p ∈ b, p.length ≤ M) : ∀ p ∈ metR n a b, p.length ≤ L + M := fun p hp => by
  obtain ⟨p', hp', h''⟩ := List.mem_flatMap.mp hp
  obtain ⟨c, hc, rfl⟩ := List.mem_map.mp (List.mem_filter.mp h'').1
  have := h p' hp'
  have := h' c hc
  rw [List.length_append]; omega
theorem sumL_le {r : List Pc} {L : Nat} (h : ∀ p ∈ r, p.length ≤ L) : sumL r ≤ r.length * L := by
  unfold sumL
  induction r with
  | nil => simp
  | cons p r ih =>
    have h1 := h p (by simp)
    have h2 := ih (fun q hq => h q (by simp [hq]))
    simp only [List.map_cons, List.sum_cons, List.length_cons, Nat.succ_mul]
    omega
theorem sumL_app (a b : List Pc) : sumL (a ++ b) = sumL a + sumL b := by unfold sumL; simp
theorem flatMap_le {α β : Type} (l : List α) (f : α → List β) (m : Nat) (h : ∀ a ∈ l, (f a).length ≤ m) : (l.flatMap f).length ≤ l.length * m := by
  induction l with
  | nil => simp
  | cons a l ih =>
    have h1 := h a (by simp)
    have h2 := ih (fun q hq => h q (by simp [hq]))
    rw [List.flatMap_cons, List.length_append, List.length_cons, Nat.succ_mul]
    omega
theorem met_count {a b : List Pc} : (metR n a b).length ≤ a.length * b.length := flatMap_le _ _ _ fun p _ => by
  refine Nat.le_trans (List.length_filter_le _ _) ?_
  simp
/-! disjoint pieces: no more than ways to keep the family -/
def Dis (parts : List Pc) : Prop := parts.Pairwise fun a b => ∀ x, ¬ (hasB a x = true ∧ hasB b x = true)
theorem dis_flatMap {f : Pc → List Pc} (h1 : ∀ p, Dis (f p)) (h2 : ∀ p, ∀ q ∈ f p, ∀ x, hasB q x = true → hasB p x = true) : ∀ {parts : List Pc}, Dis parts → Dis (parts.flatMap f)
  | [], _ => .nil
  | p :: parts, h => by
    unfold Dis at h ⊢
    rw [List.pairwise_cons] at h
    rw [List.flatMap_cons, List.pairwise_append]
    refine ⟨h1 p, dis_flatMap h1 h2 h.2, fun a ha b hb x ⟨xa, xb⟩ => ?_⟩
    obtain ⟨q, hq, hb'⟩ := List.mem_flatMap.mp hb
    exact h.1 q hq x ⟨h2 p a ha x xa, h2 q b hb' x xb⟩
theorem wo_dis (p q : Pc) : Dis (woR n p q) := by
  unfold Dis woR
  refine List.Pairwise.filter _ ?_
  rw [List.pairwise_map]
  refine (cuts_disj q).imp fun h x ⟨h1, h2⟩ => h x ?_
  rw [hasB_app, Bool.and_eq_true] at h1 h2
  exact ⟨h1.2, h2.2⟩
theorem wo_sub (p q : Pc) : ∀ c ∈ woR n p q, ∀ x, hasB c x = true → hasB p x = true := fun c hc x h => by
  obtain ⟨d, _, rfl⟩ := List.mem_map.mp (List.mem_filter.mp hc).1
  rw [hasB_app, Bool.and_eq_true] at h
  exact h.1
theorem step_dis {parts : List Pc} {q : Pc} (h : Dis parts) : Dis (stepR n parts q) := dis_flatMap (fun p => wo_dis p q) (fun p => wo_sub p q) h
theorem fold_dis : ∀ (b parts : List Pc), Dis parts → Dis (b.foldl (stepR n) parts)
  | [], _, h => h
  | q :: b, parts, h => fold_dis b _ (step_dis h)
theorem step_app (a b : List Pc) (q : Pc) : stepR n (a ++ b) q = stepR n a q ++ stepR n b q := by unfold stepR; rw [List.flatMap_append]
theorem fold_app : ∀ (b l m : List Pc), b.foldl (stepR n) (l ++ m) = b.foldl (stepR n) l ++ b.foldl (stepR n) m
  | [], _, _ => rfl
  | q :: b, l, m => by rw [List.foldl_cons, step_app, fold_app b, List.foldl_cons, List.foldl_cons]
theorem fold_nil : ∀ b : List Pc, b.foldl (stepR n) [] = []
  | [] => rfl
  | q :: b => by rw [List.foldl_cons]; exact fold_nil b
theorem nodup_le {α : Type} [DecidableEq α] : ∀ {l m : List α}, l.Nodup → (∀ a ∈ l, a ∈ m) → l.length ≤ m.length
  | [], m, _, _ => by simp
  | a :: l, m, hn, hs => by
    rw [List.nodup_cons] at hn
    have ha := hs a (by simp)
    have := nodup_le (m := m.erase a) hn.2 fun b hb => (List.mem_erase_of_ne (fun e => hn.1 (by rw [← e]; exact hb))).mpr (hs b (by simp [hb]))
    rw [List.length_erase_of_mem ha] at this
    have : 0 < m.length := List.length_pos_of_mem ha
    simp only [List.length_cons]
    omega
def allV : Nat → List (List Bool)
  | 0 => [[]]
  | m + 1 => (allV m).map (true :: ·) ++ (allV m).map (false :: ·)
theorem allV_len : ∀ m, (allV m).length = 2 ^ m
  | 0 => rfl
  | m + 1 => by rw [allV, List.length_append, List.length_map, List.length_map, allV_len m, Nat.pow_succ]; omega
theorem allV_mem : ∀ v : List Bool, v ∈ allV v.length
  | [] => by simp [allV]
  | true :: v => by simp only [List.length_cons, allV, List.mem_append, List.mem_map]; exact .inl ⟨v, allV_mem v, rfl⟩
  | false :: v => by simp only [List.length_cons, allV, List.mem_append, List.mem_map]; exact .inr ⟨v, allV_mem v, rfl⟩
def vec (γ : List Bd) (x : List Rat) : List Bool := γ.map fun C => keepsB C x
theorem vec_has {p : Pc} (h : FamP γ p) {x y : List Rat} (e : vec γ x = vec γ y) : hasB p x = hasB p y := by
  have hC : ∀ C ∈ γ, keepsB C x = keepsB C y := fun C hC => by
    obtain ⟨i, hi, rfl⟩ := List.getElem_of_mem hC
    have h1 : (vec γ x)[i]? = (vec γ y)[i]? := by rw [e]
    unfold vec at h1
    rw [List.getElem?_map, List.getElem?_map, List.getElem?_eq_getElem hi] at h1
    simpa using h1
  have hB : ∀ B ∈ p, keepsB B x = keepsB B y := fun B hB => by
    rcases h B hB with h | ⟨C, h, rfl⟩
    · exact hC B h
    · rw [keeps_turned, keeps_turned, hC C h]
  unfold hasB
  rw [Bool.eq_iff_iff, List.all_eq_true, List.all_eq_true]
  constructor
  · intro h B hB'; rw [← hB B hB']; exact h B hB'
  · intro h B hB'; rw [hB B hB']; exact h B hB'
theorem dis_count {parts : List Pc} (hd : Dis parts) (hf : FamR γ parts) (hne : ∀ p ∈ parts, neB n p = true) : parts.length ≤ 2 ^ γ.length := by
  have key : ∃ vs : List (List Bool), vs.length = parts.length ∧ vs.Nodup ∧ (∀ v ∈ vs, v ∈ allV γ.length) ∧ ∀ v ∈ vs, ∃ x p, p ∈ parts ∧ hasB p x = true ∧ v = vec γ x := by
    induction parts with
    | nil => exact ⟨[], rfl, List.nodup_nil, (fun _ h => by cases h), fun _ h => by cases h⟩
    | cons p parts ih =>
      unfold Dis at hd
      rw [List.pairwise_cons] at hd
      obtain ⟨vs, h1, h2, h3, h4⟩ := ih hd.2 (fun q hq => hf q (by simp [hq])) (fun q hq => hne q (by simp [hq]))
      obtain ⟨x, hx, hxp⟩ := neB_get (hne p (by simp))
      refine ⟨vec γ x :: vs, by simp [h1], List.nodup_cons.mpr ⟨fun hv => ?_, h2⟩, fun v hv => ?_, fun v hv => ?_⟩
      · obtain ⟨y, q, hq, hyq, e⟩ := h4 _ hv
        have := vec_has (hf q (by simp [hq])) e
        exact hd.1 q hq x ⟨hxp, by rw [this]; exact hyq⟩
      · rcases List.mem_cons.mp hv with e | hv
        · rw [e]
          have := allV_mem (vec γ x)
          rwa [show (vec γ x).length = γ.length by simp [vec]] at this
        · exact h3 v hv
      · rcases List.mem_cons.mp hv with e | hv
        · exact ⟨x, p, by simp, hxp, e⟩
        · obtain ⟨y, q, hq, r⟩ := h4 v hv
          exact ⟨y, q, by simp [hq], r⟩
  obtain ⟨vs, h1, h2, h3, _⟩ := key
  rw [← h1, ← allV_len]
  exact nodup_le h2 h3
theorem fold_count : ∀ (parts b : List Pc), FamR γ parts → FamR γ b → (∀ p ∈ parts, neB n p = true) → (b.foldl (stepR n) parts).length ≤ parts.length * 2 ^ γ.length
  | [], b, _, _, _ => by rw [fold_nil]; simp
  | p :: parts, b, hf, hb, hne => by
    have h1 := fold_count parts b (fun q hq => hf q (by simp [hq])) hb (fun q hq => hne q (by simp [hq]))
    have h2 : (b.foldl (stepR n) [p]).length ≤ 2 ^ γ.length := dis_count (n := n) (fold_dis b [p] (List.pairwise_singleton _ _)) (fold_fam b [p] (fun q hq => by rw [List.mem_singleton] at hq; rw [hq]; exact hf p (by simp)) hb) (fold_ne b [p] fun q hq => by rw [List.mem_singleton] at hq; rw [hq]; exact hne p (by simp))
    rw [show p :: parts = [p] ++ parts from rfl, fold_app, List.length_append, List.length_append, List.length_singleton, Nat.add_mul, Nat.one_mul]
    omega
theorem taken_count {a b : List Pc} (ha : FamR γ a) (hb : FamR γ b) : (takenR n a b).length ≤ a.length * 2 ^ γ.length := by
  refine Nat.le_trans (fold_count _ b (fun p hp => ha p (List.mem_filter.mp hp).1) hb fun p hp => (List.mem_filter.mp hp).2) (Nat.mul_le_mul_right _ (List.length_filter_le _ _))
/-! few directions -/
def evenL (f : List Rat) : List Rat := match firstNZ f with
  | none => f
  | some t => f.map (1 / absR t * ·)
theorem even_f (R : Rw) : R.even.f = evenL R.f := by
  unfold Rw.even evenL
  cases firstNZ R.f <;> rfl
theorem strongest_few {p : Pc} (h : FamP γ p) : (strongest (p.map Bd.row)).length ≤ 2 * γ.length := by
  obtain ⟨hk, _⟩ := fold_ok (p.map Bd.row) [] ⟨(fun _ h => by cases h), List.nodup_nil⟩
  have hm : ∀ q ∈ (p.map Bd.row).foldl sStep [], q.1 ∈ γ.map (fun C => evenL C.f) ++ γ.map (fun C => evenL C.turned.f) := by
    have key : ∀ (rows : List Rw) (kvs : List (List Rat × Rw)), (∀ R ∈ rows, evenL R.f ∈ γ.map (fun C => evenL C.f) ++ γ.map (fun C => evenL C.turned.f)) → (∀ q ∈ kvs, q.1 ∈ γ.map (fun C => evenL C.f) ++ γ.map (fun C => evenL C.turned.f)) → ∀ q ∈ rows.foldl sStep kvs, q.1 ∈ γ.map (fun C => evenL C.f) ++ γ.map (fun C => evenL C.turned.f) := by
      intro rows
      induction rows with
      | nil => intro kvs _ h; exact h
      | cons R rows ih =>
        intro kvs h1 h2
        refine ih _ (fun S hS => h1 S (by simp [hS])) fun q hq => ?_
        have hR := h1 R (by simp)
        unfold sStep at hq
        dsimp only at hq
        split at hq
        · exact h2 q hq
        · split at hq
          · rcases mem_put hq with e | ⟨e, _⟩
            · rw [e]; dsimp only; rw [even_f]; exact hR
            · exact h2 q e
          · split at hq
            · exact h2 q hq
            · rcases mem_put hq with e | ⟨e, _⟩
              · rw [e]; dsimp only; rw [even_f]; exact hR
              · exact h2 q e
    refine key _ _ (fun R hR => ?_) fun _ h => by cases h
    obtain ⟨B, hB, rfl⟩ := List.mem_map.mp hR
    rw [List.mem_append, List.mem_map, List.mem_map]
    rcases h B hB with h | ⟨C, h, rfl⟩
    · exact .inl ⟨B, h, rfl⟩
    · exact .inr ⟨C, h, rfl⟩
  have := nodup_le hk.2 (m := γ.map (fun C => evenL C.f) ++ γ.map (fun C => evenL C.turned.f)) fun k hk' => by
    obtain ⟨q, hq, rfl⟩ := List.mem_map.mp hk'
    exact hm q hq
  unfold strongest
  rw [List.length_map]
  rw [List.length_map, List.length_append, List.length_map, List.length_map] at this
  omega
end
end Geo
end
section
set_option Elab.async false
set_option linter.all false
set_option maxRecDepth 100000
set_option maxHeartbeats 0
namespace P1
open PySem L2 Py Geo FM
/-- the family of bounds that a law draws -/
structure GOk (n : Nat) (γ : List Bd) : Prop where
  n0 : 0 < n
  n2 : n ≤ 2
  len : γ.length ≤ 15
  bd : ∀ C ∈ γ, C.f.length = n ∧ BSz 3 C
def polyD (n : Nat) (p : Pc) : D := .tup [.int n, bsD p]
def regD (n : Nat) (r : List Pc) : D := .tup [.int n, .tup (r.map bsD)]
abbrev PS : Nat := 4400
section
variable {k n : Nat} {μ : Store} {γ : List Bd}
theorem GOk.fam (G : GOk n γ) {B : Bd} (h : Fam γ B) : B.f.length = n ∧ BSz 3 B := by
  rcases h with h | ⟨C, h, rfl⟩
  · exact G.bd B h
  · obtain ⟨h1, h2, h3⟩ := G.bd C h
    refine ⟨by simp [Bd.turned]; exact h1, fun a ha => ?_, h3.neg⟩
    obtain ⟨y, hy, rfl⟩ := List.mem_map.mp ha
    exact (h2 y hy).neg
theorem GOk.rok (G : GOk n γ) {B : Bd} (h : Fam γ B) : B.f.length = n ∧ Rok 3 B.row := by
  obtain ⟨h1, h2, h3⟩ := G.fam h
  have := G.n2
  exact ⟨h1, ⟨h2, h3, fun a ha => by cases ha⟩, by show B.f.length ≤ 1000; omega, by simp [Bd.row]⟩
theorem GOk.cases (G : GOk n γ) : n = 1 ∨ n = 2 := by have := G.n0; have := G.n2; omega
theorem GOk.b2 (G : GOk n γ) : bOk n (3 * 3 + 1) := by
  rcases G.cases with rfl | rfl
  · exact ⟨by decide, by decide, (by show _ + _ ≤ 8999; decide)⟩
  · exact ⟨by decide, by decide, ⟨by decide, by decide, (by show _ + _ ≤ 8999; decide)⟩⟩
theorem GOk.l2 (G : GOk n γ) : lOk n 30 := by
  rcases G.cases with rfl | rfl
  · exact ⟨by decide, (by show _ ≤ 16000000; decide)⟩
  · exact ⟨by decide, ⟨by decide, (by show _ ≤ 16000000; decide)⟩⟩
theorem GOk.bk (G : GOk n γ) : backB n (3 * 3 + 1) n ≤ PS := by
  rcases G.cases with rfl | rfl <;> decide
theorem e_empty (G : GOk n γ) {p : Pc} (h : FamP γ p) (hl : p.length ≤ 16000000) : Py.run fs Γ (k + 9) f_is_empty [polyD n p] μ = some (.bl (!neB n p), μ) := by
  have hf := strongest_few h
  have := G.len
  have hn := G.n2
  obtain ⟨r, h1, h2⟩ := r_is_empty (k := k) (μ := μ) n p 3 30 (fun B hB => G.rok (h B hB)) (by omega) (by decide) (by decide) G.b2 G.l2 (by omega) hl
  have e : r = !neB n p := by
    rw [← neB_iff] at h2
    cases hr : r <;> cases hn' : neB n p <;> simp_all
  rw [← e]
  exact h1
theorem e_point (G : GOk n γ) (hm : scalS μ = true) {p : Pc} (h : FamP γ p) (hl : p.length ≤ 16000000) :
    ∃ r : D, Py.run fs Γ (k + 9) f_point_paper [polyD n p] μ = some (r, μ) ∧ ((neB n p = false ∧ r = .non) ∨ (∃ x : List Rat, r = ptD x ∧ x.length = n ∧ hasB p x = true ∧ ∀ a ∈ x, Sz PS a)) := by
  have hf := strongest_few h
  have := G.len
  have hn := G.n2
  have hbk := G.bk
  obtain ⟨r, h1, h2⟩ := r_point_paper (k := k) hm n p 3 30 (fun B hB => G.rok (h B hB)) G.n0 (by omega) (by decide) (by decide) G.b2 G.l2 (by omega) hl (Nat.le_trans hbk (by decide))
  refine ⟨r, h1, ?_⟩
  rcases h2 with ⟨h2, h3⟩ | ⟨x, h2, h3, h4, h5⟩
  · refine .inl ⟨?_, h3⟩
    rw [← neB_iff] at h2
    simpa using h2
  · exact .inr ⟨x, h2, h3, sat_hasB.mp h4, fun a ha => (h5 a ha).mono hbk⟩
/-- point_paper is None just where the polyhedron is empty -/
theorem e_pointN (G : GOk n γ) (hm : scalS μ = true) {p : Pc} (h : FamP γ p) (hl : p.length ≤ 16000000) : ∃ r : D, Py.run fs Γ (k + 9) f_point_paper [polyD n p] μ = some (r, μ) ∧ Py.isNon r = !neB n p := by
  obtain ⟨r, h1, h2⟩ := e_point (k := k) G hm h hl
  refine ⟨r, h1, ?_⟩
  rcases h2 with ⟨h2, rfl⟩ | ⟨x, rfl, h3, h4, _⟩
  · rw [h2]; rfl
  · rw [neB_of h3 h4]; rfl
theorem r_has_point (G : GOk n γ) {p : Pc} {x : List Rat} (h : FamP γ p) (hl : p.length ≤ 16000000) (hx : x.length = n) (hs : ∀ a ∈ x, Sz PS a) : Py.run fs Γ (k + 8) f_has_point [polyD n p, ptD x] μ = some (.bl (hasB p x), μ) := by
  have hn := G.n2
  have hc : ∀ x2 : Option SV, ev (Py.run fs Γ (k + 7)) Γ c1_has_point [some (.val (polyD n p)), some (.val (ptD x)), x2] μ = some (.lst ((p.filter fun B => !keepsB B x).map fun _ => .int 1), μ) := by
    intro x2
    rw [c1_has_point]
    refine ev_lc_filter (g := bdD) p (by simp -implicitDefEqProofs [polyD, bsD, atI, ixN]) (by omega) fun B hB => ⟨[some (.val (polyD n p)), some (.val (ptD x)), some (.val (bdD B))], by simp, ?_, fun _ => by simp⟩
    obtain ⟨f1, f2⟩ := G.rok (h B hB)
    have hmul : B.f.length * (3 + PS + 1) ≤ 8808 := Nat.le_trans (Nat.mul_le_mul_right _ (by omega : B.f.length ≤ 2)) (by decide)
    have g := r_keeps (k := k) (μ := μ) (c := PS) B x f2 hs (by omega)
    have g' : Py.run fs Γ (k + 7) f_keeps [bdD B, ptD x] μ = some (.bl (keepsB B x), μ) := g
    simp -implicitDefEqProofs [g']
  rw [u_has_point, b_has_point]
  have hz := none_left p fun B => keepsB B x
  unfold hasB
  rw [hz]
  simp -implicitDefEqProofs [hc]
theorem r_polyhedra_of {r : List Pc} (hl : r.length ≤ 16000000) : Py.run fs Γ (k + 1) f_polyhedra_of [regD n r] μ = some (.lst (r.map (polyD n)), μ) := by
  have hc : ∀ x1 : Option SV, ev (Py.run fs Γ k) Γ c1_polyhedra_of [some (.val (regD n r)), x1] μ = some (.lst (r.map (polyD n)), μ) := by
    intro x1
    rw [c1_polyhedra_of]
    refine ev_lc_map (g := bsD) r (by simp -implicitDefEqProofs [regD, atI, ixN]) (by omega) fun p _ => ⟨[some (.val (regD n r)), some (.val (bsD p))], by simp, by simp, ?_⟩
    simp -implicitDefEqProofs [regD, atI, ixN, szle, polyD]
  rw [u_polyhedra_of, b_polyhedra_of]
  simp -implicitDefEqProofs [hc]
theorem r_has (G : GOk n γ) {r : List Pc} {x : List Rat} (h : FamR γ r) (hl : r.length ≤ 16000000) (hp : ∀ p ∈ r, p.length ≤ 16000000) (hx : x.length = n) (hs : ∀ a ∈ x, Sz PS a) : Py.run fs Γ (k + 9) f_has [regD n r, ptD x] μ = some (.bl (inR r x), μ) := by
  have g1 := r_polyhedra_of (k := k + 7) (n := n) (μ := μ) hl
  have hc : ∀ x2 : Option SV, ev (Py.run fs Γ (k + 8)) Γ c1_has [some (.val (regD n r)), some (.val (ptD x)), x2] μ = some (.lst ((r.filter fun p => hasB p x).map fun _ => .int 1), μ) := by
    intro x2
    rw [c1_has]
    refine ev_lc_filter (g := polyD n) r (by simp -implicitDefEqProofs [g1]) (by omega) fun p hpr => ⟨[some (.val (regD n r)), some (.val (ptD x)), some (.val (polyD n p))], by simp, ?_, fun _ => by simp⟩
    have g := r_has_point (k := k) (μ := μ) G (h p hpr) (hp p hpr) hx hs
    simp -implicitDefEqProofs [g]
  have hz : inR r x = decide (0 < (((r.filter fun p => hasB p x).length : Nat) : Int)) := by
    rw [Bool.eq_iff_iff, inR_mem, decide_eq_true_iff]
    constructor
    · rintro ⟨p, hp, hx⟩
      exact Int.natCast_pos.mpr (List.length_pos_of_mem (List.mem_filter.mpr ⟨hp, hx⟩))
    · intro h
      obtain ⟨p, hp⟩ := List.exists_mem_of_length_pos (l := r.filter fun p => hasB p x) (by omega)
      exact ⟨p, (List.mem_filter.mp hp).1, (List.mem_filter.mp hp).2⟩
  rw [u_has, b_has, hz]
  simp -implicitDefEqProofs [hc]
theorem r_is_void (G : GOk n γ) {r : List Pc} (h : FamR γ r) (hl : r.length ≤ 16000000) (hp : ∀ p ∈ r, p.length ≤ 16000000) : Py.run fs Γ (k + 10) f_is_void [regD n r] μ = some (.bl (r.all fun p => !neB n p), μ) := by
  have g1 := r_polyhedra_of (k := k + 8) (n := n) (μ := μ) hl
  have hc : ∀ x1 : Option SV, ev (Py.run fs Γ (k + 9)) Γ c1_is_void [some (.val (regD n r)), x1] μ = some (.lst ((r.filter fun p => !!neB n p).map fun _ => .int 1), μ) := by
    intro x1
    rw [c1_is_void]
    refine ev_lc_filter (g := polyD n) r (by simp -implicitDefEqProofs [g1]) (by omega) fun p hpr => ⟨[some (.val (regD n r)), some (.val (polyD n p))], by simp, ?_, fun _ => by simp⟩
    have g := e_empty (k := k) (μ := μ) G (h p hpr) (hp p hpr)
    simp -implicitDefEqProofs [g]
  have hz := none_left r fun p => !neB n p
  rw [u_is_void, b_is_void, hz]
  simp only [Bool.not_not] at hc ⊢
  simp -implicitDefEqProofs [hc]
theorem r_point_in (G : GOk n γ) (hm : scalS μ = true) {r : List Pc} (h : FamR γ r) (hl : r.length ≤ 16000000) (hp : ∀ p ∈ r, p.length ≤ 16000000) :
    ∃ d : D, Py.run fs Γ (k + 10) f_point_in [regD n r] μ = some (d, μ) ∧ (((∀ p ∈ r, neB n p = false) ∧ d = .non) ∨ (∃ x : List Rat, d = ptD x ∧ x.length = n ∧ inR r x = true ∧ ∀ a ∈ x, Sz PS a)) := by
  have g1 := r_polyhedra_of (k := k + 8) (n := n) (μ := μ) hl
  have key : ∀ (l : List Pc) (x1 x2 : Option SV), (∀ p ∈ l, FamP γ p ∧ p.length ≤ 16000000) →
      ((∀ p ∈ l, neB n p = false) ∧ ∃ y1 y2, forS (T.nm 1) (fun env' μ' => exs (Py.run fs Γ (k + 9)) Γ l1_point_in env' μ') (l.map (polyD n)) [some (.val (regD n r)), x1, x2] μ = some (.nx [some (.val (regD n r)), y1, y2] μ)) ∨
      ∃ x : List Rat, forS (T.nm 1) (fun env' μ' => exs (Py.run fs Γ (k + 9)) Γ l1_point_in env' μ') (l.map (polyD n)) [some (.val (regD n r)), x1, x2] μ = some (.rt (ptD x) μ) ∧ x.length = n ∧ inR l x = true ∧ ∀ a ∈ x, Sz PS a := by
    intro l
    induction l with
    | nil => intro x1 x2 _; exact .inl ⟨(fun _ h => by cases h), x1, x2, rfl⟩
    | cons p l ih =>
      intro x1 x2 hl
      obtain ⟨d, e1, e2⟩ := e_point (k := k) G hm (hl p (by simp)).1 (hl p (by simp)).2
      rcases e2 with ⟨e2, rfl⟩ | ⟨x, rfl, e3, e4, e5⟩
      · have hgo := forS_go (t := T.nm 1) (b := fun env' μ' => exs (Py.run fs Γ (k + 9)) Γ l1_point_in env' μ') (d := polyD n p) (ds := l.map (polyD n)) (env := [some (.val (regD n r)), x1, x2]) (env1 := [some (.val (regD n r)), some (.val (polyD n p)), x2]) (env' := [some (.val (regD n r)), some (.val (polyD n p)), some (.val .non)]) (μ := μ) (μ' := μ) (by simp) (by simp -implicitDefEqProofs [l1_point_in, e1])
        rw [List.map_cons, hgo]
        rcases ih (some (.val (polyD n p))) (some (.val .non)) (fun q hq => hl q (by simp [hq])) with ⟨i1, i2⟩ | ⟨x, i1, i2, i3, i4⟩
        · refine .inl ⟨fun q hq => ?_, i2⟩
          rcases List.mem_cons.mp hq with e | hq
          · rw [e]; exact e2
          · exact i1 q hq
        · refine .inr ⟨x, i1, i2, ?_, i4⟩
          rw [show inR (p :: l) x = (hasB p x || inR l x) from rfl, i3, Bool.or_true]
      · refine .inr ⟨x, ?_, e3, by rw [show inR (p :: l) x = (hasB p x || inR l x) from rfl, e4, Bool.true_or], e5⟩
        rw [List.map_cons]
        refine forS_rt (env1 := [some (.val (regD n r)), some (.val (polyD n p)), x2]) (by simp) ?_
        have hnn : Py.isNon (ptD x) = false := rfl
        simp -implicitDefEqProofs [l1_point_in, e1, hnn]
  rcases key r none none (fun p hpr => ⟨h p hpr, hp p hpr⟩) with ⟨i1, y1, y2, i2⟩ | ⟨x, i1, i2, i3, i4⟩
  · refine ⟨.non, ?_, .inl ⟨i1, rfl⟩⟩
    rw [u_point_in, b_point_in]
    simp -implicitDefEqProofs [ex_for, g1, i2]
  · refine ⟨ptD x, ?_, .inr ⟨x, rfl, i2, i3, i4⟩⟩
    rw [u_point_in, b_point_in]
    simp -implicitDefEqProofs [ex_for, g1, i1]
theorem r_joined {a b : List Pc} (hl : a.length + b.length ≤ 16000000) : Py.run fs Γ (k + 1) f_joined [regD n a, regD n b] μ = some (regD n (a ++ b), μ) := by
  rw [u_joined, b_joined]
  have hz : a.length + b.length ≤ SZ := by unfold SZ; omega
  have hz' : a.length + b.length ≤ 16777216 := by omega
  simp -implicitDefEqProofs [regD, atI, ixN, szle, hz, hz']
end
end P1
end
section
set_option Elab.async false
set_option linter.all false
set_option maxRecDepth 100000
set_option maxHeartbeats 0
namespace P1
open PySem L2 Py Geo FM
section
variable {k n : Nat} {μ : Store} {γ : List Bd}
theorem turned_bd (B : Bd) (h : B.f.length ≤ 1000) : Py.run fs Γ (k + 2) f_turned [bdD B] μ = some (bdD B.turned, μ) := r_turned B h
theorem bsD_app (p q : Pc) : D.tup (p.map bdD ++ q.map bdD) = bsD (p ++ q) := by unfold bsD; rw [List.map_append]
theorem atI_bd {q : Pc} {i : Nat} (h : i < q.length) : atI (q.map bdD) (i : Int) = some (bdD q[i]) := atI_map h
theorem r_met (G : GOk n γ) {a b : List Pc} {L M : Nat} (ha : FamR γ a) (hb : FamR γ b) (hla : ∀ p ∈ a, p.length ≤ L) (hlb : ∀ p ∈ b, p.length ≤ M) (hLM : L + M ≤ 16000000) (hc : a.length * b.length ≤ 16000000) (hna : a.length ≤ 16000000) (hnb : b.length ≤ 16000000) :
    Py.run fs Γ (k + 10) f_met [regD n a, regD n b] μ = some (regD n (metR n a b), μ) := by
  have hin : ∀ (p : Pc), FamP γ p → p.length ≤ L → ∀ (l : List Pc) (acc : List D) (x0 x1 x4 : Option SV), x0 = some (.val (regD n a)) → (∀ q ∈ l, FamP γ q ∧ q.length ≤ M) → acc.length + l.length < 16777216 →
      ∃ y4, forS (T.nm 4) (fun env' μ' => exs (Py.run fs Γ (k + 9)) Γ l1_met env' μ') (l.map bsD) [x0, x1, some (.own acc), some (.val (bsD p)), x4] μ = some (.nx [x0, x1, some (.own (acc ++ ((l.map (p ++ ·)).filter (neB n)).map bsD)), some (.val (bsD p)), y4] μ) := by
    intro p hp hpl l
    induction l with
    | nil => intro acc x0 x1 x4 _ _ _; exact ⟨x4, by simp [forS_nil]⟩
    | cons q l ih =>
      intro acc x0 x1 x4 h0 hl hacc
      subst h0
      obtain ⟨q1, q2⟩ := hl q (by simp)
      have ge := e_empty (k := k) (μ := μ) G (hp.app q1) (by rw [List.length_append]; omega)
      have hz : p.length + q.length ≤ SZ := by unfold SZ; omega
      have hz2 : acc.length < SZ := by unfold SZ; simp only [List.length_cons] at hacc; omega
      have hpq : polyD n (p ++ q) = .tup [.int n, .tup (p.map bdD ++ q.map bdD)] := by unfold polyD; rw [← bsD_app]
      rw [hpq] at ge
      have hb2 := bsD_app p q
      cases hn : neB n (p ++ q) with
      | true =>
        rw [hn] at ge
        obtain ⟨y4, e⟩ := ih (acc ++ [bsD (p ++ q)]) _ x1 (some (.val (bsD q))) rfl (fun r hr => hl r (by simp [hr])) (by simp only [List.length_cons, List.length_append, List.length_nil] at hacc ⊢; omega)
        refine ⟨y4, ?_⟩
        rw [List.map_cons, forS_go (env1 := [some (.val (regD n a)), x1, some (.own acc), some (.val (bsD p)), some (.val (bsD q))]) (env' := [some (.val (regD n a)), x1, some (.own (acc ++ [bsD (p ++ q)])), some (.val (bsD p)), some (.val (bsD q))]) (μ' := μ) (by simp) (by
          simp -implicitDefEqProofs [l1_met, regD, bsD, atI, ixN, hz, ge, szle, hz2]), e]
        simp [List.filter_cons, hn]
      | false =>
        rw [hn] at ge
        obtain ⟨y4, e⟩ := ih acc _ x1 (some (.val (bsD q))) rfl (fun r hr => hl r (by simp [hr])) (by simp only [List.length_cons] at hacc ⊢; omega)
        refine ⟨y4, ?_⟩
        rw [List.map_cons, forS_go (env1 := [some (.val (regD n a)), x1, some (.own acc), some (.val (bsD p)), some (.val (bsD q))]) (env' := [some (.val (regD n a)), x1, some (.own acc), some (.val (bsD p)), some (.val (bsD q))]) (μ' := μ) (by simp) (by
          simp -implicitDefEqProofs [l1_met, regD, bsD, atI, ixN, hz, ge, szle, hz2]), e]
        simp [List.filter_cons, hn]
  have hout : ∀ (l : List Pc) (acc : List D) (x3 x4 : Option SV), (∀ q ∈ l, FamP γ q ∧ q.length ≤ L) → acc.length + l.length * b.length ≤ 16000000 →
      ∃ y3 y4, forS (T.nm 3) (fun env' μ' => exs (Py.run fs Γ (k + 9)) Γ l2_met env' μ') (l.map bsD) [some (.val (regD n a)), some (.val (regD n b)), some (.own acc), x3, x4] μ = some (.nx [some (.val (regD n a)), some (.val (regD n b)), some (.own (acc ++ (metR n l b).map bsD)), y3, y4] μ) := by
    intro l
    induction l with
    | nil => intro acc x3 x4 _ _; exact ⟨x3, x4, by simp [forS_nil, metR]⟩
    | cons p l ih =>
      intro acc x3 x4 hl hacc
      simp only [List.length_cons, Nat.succ_mul] at hacc
      obtain ⟨p1, p2⟩ := hl p (by simp)
      obtain ⟨z4, e1⟩ := hin p p1 p2 b acc _ (some (.val (regD n b))) x4 rfl (fun q hq => ⟨hb q hq, hlb q hq⟩) (by omega)
      have hfl : ((b.map (p ++ ·)).filter (neB n)).length ≤ b.length := by refine Nat.le_trans (List.length_filter_le _ _) ?_; simp
      obtain ⟨y3, y4, e⟩ := ih (acc ++ ((b.map (p ++ ·)).filter (neB n)).map bsD) (some (.val (bsD p))) z4 (fun r hr => hl r (by simp [hr])) (by rw [List.length_append, List.length_map]; omega)
      refine ⟨y3, y4, ?_⟩
      rw [List.map_cons, forS_go (env1 := [some (.val (regD n a)), some (.val (regD n b)), some (.own acc), some (.val (bsD p)), x4]) (env' := [some (.val (regD n a)), some (.val (regD n b)), some (.own (acc ++ ((b.map (p ++ ·)).filter (neB n)).map bsD)), some (.val (bsD p)), z4]) (μ' := μ) (by simp) (by
        have hr : itsS μ (regD n b) = some [.int n, .tup (b.map bsD)] := rfl
        have h1 : atI [D.int n, .tup (b.map bsD)] 1 = some (.tup (b.map bsD)) := by simp [atI, ixN]
        simp -implicitDefEqProofs [l2_met, ex_for, hr, h1, e1]), e]
      simp [metR, List.flatMap_cons, List.append_assoc]
  obtain ⟨y3, y4, e⟩ := hout a [] none none (fun q hq => ⟨ha q hq, hla q hq⟩) (by simpa using hc)
  have hr : ∀ r : List Pc, itsS μ (regD n r) = some [.int n, .tup (r.map bsD)] := fun _ => rfl
  have h1 : atI [D.int n, .tup (a.map bsD)] 1 = some (.tup (a.map bsD)) := by simp [atI, ixN]
  have h0 : atI [D.int n, .tup (a.map bsD)] 0 = some (.int n) := by simp [atI, ixN]
  rw [u_met, b_met]
  rw [List.nil_append] at e
  simp -implicitDefEqProofs [ex_for, hr, h0, h1, e, szle]
  rfl
theorem r_wo (G : GOk n γ) {p q : Pc} (hp : FamP γ p) (hq : FamP γ q) (hl : p.length + q.length ≤ 16000000) : Py.run fs Γ (k + 10) f_without [polyD n p, polyD n q] μ = some (.lst ((woR n p q).map (polyD n)), μ) := by
  have hn2 := G.n2
  obtain ⟨env', μ', e, x5, x6, rfl, rfl⟩ := forS_inv (t := T.nm 5) (b := fun env' μ' => exs (Py.run fs Γ (k + 9)) Γ l1_without env' μ') (ds := rangeD 0 q.length) (env := [some (.val (polyD n p)), some (.val (polyD n q)), some (.val (.int n)), some (.val (bsD p)), some (.own []), none, none]) (μ := μ)
    (fun i env m => ∃ x5 x6, env = [some (.val (polyD n p)), some (.val (polyD n q)), some (.val (.int n)), some (.val (bsD p)), some (.own ((((cuts q).take i).map (p ++ ·)).filter (neB n) |>.map (polyD n))), x5, x6] ∧ m = μ) ⟨none, none, by simp, rfl⟩ (by
      rintro i env m d hd ⟨x5, x6, rfl, rfl⟩
      obtain ⟨rfl, hi⟩ := rangeD_get hd
      have hcg := cuts_get q i hi
      have hcl : i < (cuts q).length := by rw [cuts_length]; exact hi
      have hct : (cuts q).take (i + 1) = (cuts q).take i ++ [q.take i ++ [q[i].turned]] := by
        rw [List.take_succ, hcg]; rfl
      have hqi := hq q[i] (List.getElem_mem hi)
      obtain ⟨f1, f2⟩ := G.fam hqi
      have gt := turned_bd (k := k + 7) (μ := m) q[i] (by omega)
      have hfam : FamP γ (p ++ (q.take i ++ [q[i].turned])) := hp.app (fun B hB => by
        rcases List.mem_append.mp hB with hB | hB
        · exact hq B (List.mem_of_mem_take hB)
        · rw [List.mem_singleton] at hB; rw [hB]; exact hqi.turned)
      have hlen : (p ++ (q.take i ++ [q[i].turned])).length ≤ 16000000 := by
        simp only [List.length_append, List.length_take, List.length_singleton]; omega
      have ge := e_empty (k := k) (μ := m) G hfam hlen
      have hz : p.length + min i q.length ≤ SZ := by unfold SZ; omega
      have hz1 : p.length + min i q.length + 1 ≤ SZ := by unfold SZ; omega
      have hsl : Py.cutS (q.map bdD) none (some (i : Int)) = (q.take i).map bdD := by rw [cutS_take, List.map_take]
      have hat := atI_bd hi
      have hr : ∀ r : Pc, itsS m (polyD n r) = some [.int n, .tup (r.map bdD)] := fun _ => rfl
      have h1 : atI [D.int n, .tup (q.map bdD)] 1 = some (.tup (q.map bdD)) := by simp [atI, ixN]
      have hb3 : ∀ r : Pc, bsD r = .tup (r.map bdD) := fun _ => rfl
      have hpoly : D.tup [D.int n, D.tup (p.map bdD ++ (q.take i).map bdD ++ [bdD q[i].turned])] = polyD n (p ++ (q.take i ++ [q[i].turned])) := by
        unfold polyD bsD; simp
      have hz2 : ((((cuts q).take i).map (p ++ ·)).filter (neB n) |>.map (polyD n)).length < SZ := by
        rw [List.length_map]
        have : (((cuts q).take i).map (p ++ ·)).length ≤ i := by rw [List.length_map, List.length_take]; omega
        have := List.length_filter_le (neB n) (((cuts q).take i).map (p ++ ·))
        unfold SZ; omega
      rw [hct, List.map_append, List.filter_append, List.map_append]
      cases hn : neB n (p ++ (q.take i ++ [q[i].turned])) with
      | true =>
        rw [hn] at ge
        refine ⟨[some (.val (polyD n p)), some (.val (polyD n q)), some (.val (.int n)), some (.val (bsD p)), some (.own ((((cuts q).take i).map (p ++ ·)).filter (neB n) |>.map (polyD n))), some (.val (.int (0 + (i : Nat)))), x6], [some (.val (polyD n p)), some (.val (polyD n q)), some (.val (.int n)), some (.val (bsD p)), some (.own (((((cuts q).take i).map (p ++ ·)).filter (neB n) |>.map (polyD n)) ++ [polyD n (p ++ (q.take i ++ [q[i].turned]))])), some (.val (.int (0 + (i : Nat)))), some (.val (polyD n (p ++ (q.take i ++ [q[i].turned]))))], m, by simp, .inl ?_, some (.val (.int (0 + (i : Nat)))), some (.val (polyD n (p ++ (q.take i ++ [q[i].turned])))), by simp [hn], rfl⟩
        generalize ((((cuts q).take i).map (p ++ ·)).filter (neB n) |>.map (polyD n)) = A at *
        rw [← hpoly] at ge ⊢
        simp -implicitDefEqProofs [l1_without, hr, h1, hb3, hsl, hat, gt, hz, hz1, szle]
        try simp -implicitDefEqProofs [List.append_assoc] at ge ⊢
        simp -implicitDefEqProofs [ge, hz2]
      | false =>
        rw [hn] at ge
        refine ⟨[some (.val (polyD n p)), some (.val (polyD n q)), some (.val (.int n)), some (.val (bsD p)), some (.own ((((cuts q).take i).map (p ++ ·)).filter (neB n) |>.map (polyD n))), some (.val (.int (0 + (i : Nat)))), x6], [some (.val (polyD n p)), some (.val (polyD n q)), some (.val (.int n)), some (.val (bsD p)), some (.own ((((cuts q).take i).map (p ++ ·)).filter (neB n) |>.map (polyD n))), some (.val (.int (0 + (i : Nat)))), some (.val (polyD n (p ++ (q.take i ++ [q[i].turned]))))], m, by simp, .inl ?_, some (.val (.int (0 + (i : Nat)))), some (.val (polyD n (p ++ (q.take i ++ [q[i].turned])))), by simp [hn], rfl⟩
        generalize ((((cuts q).take i).map (p ++ ·)).filter (neB n) |>.map (polyD n)) = A at *
        rw [← hpoly] at ge ⊢
        simp -implicitDefEqProofs [l1_without, hr, h1, hb3, hsl, hat, gt, hz, hz1, szle]
        try simp -implicitDefEqProofs [List.append_assoc] at ge ⊢
        simp -implicitDefEqProofs [ge])
  rw [rangeD_len, show q.length = (cuts q).length from (cuts_length q).symm, List.take_length] at e
  have hr : ∀ r : Pc, itsS μ' (polyD n r) = some [.int n, bsD r] := fun _ => rfl
  have h1 : atI [D.int n, bsD q] 1 = some (bsD q) := by simp [atI, ixN]
  have hb4 : itsS μ' (bsD q) = some (q.map bdD) := rfl
  have hrg := rngS_0 (n := (cuts q).length) (by rw [cuts_length]; omega)
  have hap : ∀ x1 x4 x5 x6 : Option SV, asgT (T.tp [T.nm 2, T.nm 3]) (polyD n p) [some (.val (polyD n p)), x1, none, none, x4, x5, x6] = some [some (.val (polyD n p)), x1, some (.val (.int n)), some (.val (bsD p)), x4, x5, x6] := by
    intro x1 x4 x5 x6
    rw [show polyD n p = .tup [.int n, bsD p] from rfl]
    simp
  rw [u_without, b_without]
  rw [cuts_length] at hrg e
  simp -implicitDefEqProofs [ex_for, hr, h1, hap, hb4, hrg, e, szle, woR]
end
end P1
end
section
set_option Elab.async false
set_option linter.all false
set_option maxRecDepth 100000
set_option maxHeartbeats 0
namespace P1
open PySem L2 Py Geo FM
section
variable {k n : Nat} {μ : Store} {γ : List Bd}
theorem r_taken (G : GOk n γ) {a b : List Pc} {L : Nat} (ha : FamR γ a) (hb : FamR γ b) (hla : ∀ p ∈ a, p.length ≤ L) (hL : L + sumL b ≤ 16000000) (hc : a.length * 2 ^ γ.length ≤ 16000000) (hnb : b.length ≤ 16000000) :
    Py.run fs Γ (k + 11) f_taken_away [regD n a, regD n b] μ = some (regD n (takenR n a b), μ) := by
  have hna : a.length ≤ 16000000 := by
    have : a.length * 1 ≤ a.length * 2 ^ γ.length := Nat.mul_le_mul_left _ (Nat.one_le_two_pow)
    omega
  have g1 := fun (r : List Pc) (h : r.length ≤ 16000000) => r_polyhedra_of (k := k + 9) (n := n) (μ := μ) h
  have hr : ∀ r : List Pc, itsS μ (regD n r) = some [.int n, .tup (r.map bsD)] := fun _ => rfl
  -- one walk of the parts
  have hin : ∀ (q : Pc), FamP γ q → ∀ (l : List Pc) (acc : List D) (x0 x1 x2 x3 x6 x7 x8 : Option SV), (∀ p ∈ l, FamP γ p ∧ p.length + q.length ≤ 16000000) → acc.length + (stepR n l q).length ≤ 16000000 →
      ∃ y6, forS (T.nm 6) (fun env' μ' => exs (Py.run fs Γ (k + 10)) Γ l1_taken_away env' μ') (l.map (polyD n)) [x0, x1, x2, x3, some (.val (polyD n q)), some (.own acc), x6, x7, x8] μ = some (.nx [x0, x1, x2, x3, some (.val (polyD n q)), some (.own (acc ++ (stepR n l q).map (polyD n))), y6, x7, x8] μ) := by
    intro q hq l
    induction l with
    | nil => intro acc x0 x1 x2 x3 x6 x7 x8 _ _; exact ⟨x6, by simp [forS_nil, stepR]⟩
    | cons p l ih =>
      intro acc x0 x1 x2 x3 x6 x7 x8 hl hacc
      have hst : stepR n (p :: l) q = woR n p q ++ stepR n l q := by unfold stepR; rw [List.flatMap_cons]
      rw [hst, List.length_append] at hacc
      obtain ⟨p1, p2⟩ := hl p (by simp)
      have gw := r_wo (k := k) (μ := μ) G p1 hq p2
      obtain ⟨y6, e⟩ := ih (acc ++ (woR n p q).map (polyD n)) x0 x1 x2 x3 (some (.val (polyD n p))) x7 x8 (fun r hr => hl r (by simp [hr])) (by rw [List.length_append, List.length_map]; omega)
      refine ⟨y6, ?_⟩
      have hz : acc.length + (woR n p q).length ≤ SZ := by unfold SZ; omega
      rw [List.map_cons, forS_go (env1 := [x0, x1, x2, x3, some (.val (polyD n q)), some (.own acc), some (.val (polyD n p)), x7, x8]) (env' := [x0, x1, x2, x3, some (.val (polyD n q)), some (.own (acc ++ (woR n p q).map (polyD n))), some (.val (polyD n p)), x7, x8]) (μ' := μ) (by simp) (by simp -implicitDefEqProofs [l1_taken_away, gw, hz]), e, hst]
      simp
  have hout : ∀ (l : List Pc) (parts : List Pc) (M : Nat) (x0 x1 x3 x4 x5 x6 x7 x8 : Option SV), FamR γ parts → FamR γ l → (∀ p ∈ parts, p.length ≤ M) → M + sumL l ≤ 16000000 → (∀ j, ((l.take j).foldl (stepR n) parts).length ≤ 16000000) →
      ∃ y4 y5 y6, forS (T.nm 4) (fun env' μ' => exs (Py.run fs Γ (k + 10)) Γ l2_taken_away env' μ') (l.map (polyD n)) [x0, x1, some (.val (.lst (parts.map (polyD n)))), x3, x4, x5, x6, x7, x8] μ = some (.nx [x0, x1, some (.val (.lst ((l.foldl (stepR n) parts).map (polyD n)))), x3, y4, y5, y6, x7, x8] μ) := by
    intro l
    induction l with
    | nil => intro parts M x0 x1 x3 x4 x5 x6 x7 x8 _ _ _ _ _; exact ⟨x4, x5, x6, by simp [forS_nil]⟩
    | cons q l ih =>
      intro parts M x0 x1 x3 x4 x5 x6 x7 x8 hp hl hM hS hj
      have hq := hl q (by simp)
      have hsq : sumL (q :: l) = q.length + sumL l := by unfold sumL; simp
      rw [hsq] at hS
      have hs1 : (stepR n parts q).length ≤ 16000000 := by have := hj 1; simpa using this
      obtain ⟨z6, e1⟩ := hin q hq parts [] x0 x1 (some (.val (.lst (parts.map (polyD n))))) x3 x6 x7 x8 (fun p hp' => ⟨hp p hp', by have := hM p hp'; omega⟩) (by simpa using hs1)
      rw [List.nil_append] at e1
      have hplen : ∀ p ∈ stepR n parts q, p.length ≤ M + q.length := fun p hp' => by
        have := fold_plen (n := n) [q] parts M hM p hp'
        simpa [sumL] using this
      obtain ⟨y4, y5, y6, e⟩ := ih (stepR n parts q) (M + q.length) x0 x1 x3 (some (.val (polyD n q))) (some (.val (.lst ((stepR n parts q).map (polyD n))))) z6 x7 x8 (step_fam hp hq) (fun p hp' => hl p (by simp [hp'])) hplen (by omega) (fun j => by have := hj (j + 1); simpa using this)
      refine ⟨y4, y5, y6, ?_⟩
      rw [List.map_cons, forS_go (env1 := [x0, x1, some (.val (.lst (parts.map (polyD n)))), x3, some (.val (polyD n q)), x5, x6, x7, x8]) (env' := [x0, x1, some (.val (.lst ((stepR n parts q).map (polyD n)))), x3, some (.val (polyD n q)), some (.val (.lst ((stepR n parts q).map (polyD n)))), z6, x7, x8]) (μ' := μ) (by simp) (by simp -implicitDefEqProofs [l2_taken_away, ex_for, e1]), e, List.foldl_cons]
  have hfa : FamR γ (a.filter (neB n)) := fun p hp => ha p (List.mem_filter.mp hp).1
  have hc1 : ev (Py.run fs Γ (k + 10)) Γ c1_taken_away [some (.val (regD n a)), some (.val (regD n b)), none, none, none, none, none, none, none] μ = some (.lst ((a.filter (neB n)).map (polyD n)), μ) := by
    rw [c1_taken_away]
    refine ev_lc_filter (g := polyD n) a (by simp -implicitDefEqProofs [g1 a hna]) (by omega) fun p hp => ⟨[some (.val (regD n a)), some (.val (regD n b)), none, some (.val (polyD n p)), none, none, none, none, none], by simp, ?_, fun _ => by simp⟩
    have hpl := hla p hp
    have g := e_empty (k := k + 1) (μ := μ) G (ha p hp) (by omega)
    simp -implicitDefEqProofs [g]
  obtain ⟨y4, y5, y6, e⟩ := hout b (a.filter (neB n)) L (some (.val (regD n a))) (some (.val (regD n b))) none none none none none none hfa hb (fun p hp => hla p (List.mem_filter.mp hp).1) hL (fun j => by
    refine Nat.le_trans (fold_count _ (b.take j) hfa (fun p hp => hb p (List.mem_of_mem_take hp)) fun p hp => (List.mem_filter.mp hp).2) ?_
    exact Nat.le_trans (Nat.mul_le_mul_right _ (List.length_filter_le _ _)) hc)
  have hcnt : (takenR n a b).length ≤ 16000000 := Nat.le_trans (taken_count ha hb) hc
  have hc2 : ∀ x4 x5 x6 x7 x8 : Option SV, ev (Py.run fs Γ (k + 10)) Γ c2_taken_away [some (.val (regD n a)), some (.val (regD n b)), some (.val (.lst ((takenR n a b).map (polyD n)))), none, x4, x5, x6, x7, x8] μ = some (.lst ((takenR n a b).map bsD), μ) := by
    intro x4 x5 x6 x7 x8
    rw [c2_taken_away]
    refine ev_lc_map (g := polyD n) (takenR n a b) (by simp) (by omega) fun p _ => ⟨[some (.val (regD n a)), some (.val (regD n b)), some (.val (.lst ((takenR n a b).map (polyD n)))), none, x4, x5, x6, some (.val (.int n)), some (.val (bsD p))], ?_, by simp, by simp⟩
    rw [show polyD n p = .tup [.int n, bsD p] from rfl]
    simp
  have h0 : atI [D.int n, .tup (a.map bsD)] 0 = some (.int n) := by simp [atI, ixN]
  rw [u_taken_away, b_taken_away]
  unfold takenR at hc2 hcnt ⊢
  have g1b := g1 b hnb
  simp -implicitDefEqProofs [ex_for, hc1, g1b, e, hc2, hr, h0, szle]
  rfl
theorem r_everywhere : Py.run fs Γ (k + 1) f_everywhere [.int n] μ = some (regD n [[]], μ) := by
  rw [u_everywhere, b_everywhere]
  simp -implicitDefEqProofs [regD, bsD, szle]
theorem r_nothing : Py.run fs Γ (k + 1) f_nothing [.int n] μ = some (regD n [], μ) := by
  rw [u_nothing, b_nothing]
  simp -implicitDefEqProofs [regD, bsD, szle]
theorem r_region_of (p : Pc) : Py.run fs Γ (k + 1) f_region_of [polyD n p] μ = some (regD n [p], μ) := by
  have hr : itsS μ (polyD n p) = some [.int n, bsD p] := rfl
  have h0 : atI [D.int n, bsD p] 0 = some (.int n) := by simp [atI, ixN]
  have h1 : atI [D.int n, bsD p] 1 = some (bsD p) := by simp [atI, ixN]
  rw [u_region_of, b_region_of]
  simp -implicitDefEqProofs [hr, h0, h1, szle, regD]
theorem all_fam : FamR γ ([[]] : List Pc) := fun p hp => by rw [List.mem_singleton] at hp; rw [hp]; intro B hB; cases hB
theorem r_turned_out (G : GOk n γ) {r : List Pc} (h : FamR γ r) (hl : sumL r ≤ 16000000) (hn : r.length ≤ 16000000) : Py.run fs Γ (k + 12) f_turned_out [regD n r] μ = some (regD n (outR n r), μ) := by
  have g1 := r_everywhere (k := k + 10) (n := n) (μ := μ)
  have g2 := r_taken (k := k) (μ := μ) (L := 0) G all_fam h (fun p hp => by rw [List.mem_singleton] at hp; simp [hp]) (by omega) (by
    have := G.len
    have : 2 ^ γ.length ≤ 2 ^ 15 := Nat.pow_le_pow_right (by decide) this
    simp only [List.length_singleton, Nat.one_mul]; omega) hn
  have hr : itsS μ (regD n r) = some [.int n, .tup (r.map bsD)] := rfl
  have h0 : atI [D.int n, .tup (r.map bsD)] 0 = some (.int n) := by simp [atI, ixN]
  rw [u_turned_out, b_turned_out]
  unfold outR
  simp -implicitDefEqProofs [hr, h0, g1, g2]
theorem r_is_covered (G : GOk n γ) {a b : List Pc} {L : Nat} (ha : FamR γ a) (hb : FamR γ b) (hla : ∀ p ∈ a, p.length ≤ L) (hL : L + sumL b ≤ 16000000) (hc : a.length * 2 ^ γ.length ≤ 16000000) (hnb : b.length ≤ 16000000) :
    Py.run fs Γ (k + 12) f_is_covered [regD n a, regD n b] μ = some (.bl (covR n a b), μ) := by
  have g := r_taken (k := k) (μ := μ) G ha hb hla hL hc hnb
  have hr : ∀ r : List Pc, itsS μ (regD n r) = some [.int n, .tup (r.map bsD)] := fun _ => rfl
  have h1 : ∀ r : List Pc, atI [D.int n, .tup (r.map bsD)] 1 = some (.tup (r.map bsD)) := fun r => by simp [atI, ixN]
  rw [u_is_covered, b_is_covered]
  unfold covR
  generalize takenR n a b = t at *
  have hz : t.isEmpty = decide ((t.length : Int) = 0) := by
    cases t with
    | nil => rfl
    | cons p r => simp; omega
  rw [hz]
  simp -implicitDefEqProofs only [ev_call, exs_cons, ex_ret, ev_cmp, ev_bi, ev_ix, ev_slot, getV_0, getV_s, evs_cons, evs_nil, Option.map_some, Option.bind_some, g]
  simp -implicitDefEqProofs [g, hr, h1]
theorem r_same_reg (G : GOk n γ) {a b : List Pc} {L M : Nat} (ha : FamR γ a) (hb : FamR γ b) (hla : ∀ p ∈ a, p.length ≤ L) (hlb : ∀ p ∈ b, p.length ≤ M) (hL : L + sumL b ≤ 16000000) (hM : M + sumL a ≤ 16000000) (hc : a.length * 2 ^ γ.length ≤ 16000000) (hc' : b.length * 2 ^ γ.length ≤ 16000000) :
    Py.run fs Γ (k + 13) f_are_same_regions [regD n a, regD n b] μ = some (.bl (covR n a b && covR n b a), μ) := by
  have hna : a.length ≤ 16000000 := by
    have : a.length * 1 ≤ a.length * 2 ^ γ.length := Nat.mul_le_mul_left _ (Nat.one_le_two_pow)
    omega
  have hnb : b.length ≤ 16000000 := by
    have : b.length * 1 ≤ b.length * 2 ^ γ.length := Nat.mul_le_mul_left _ (Nat.one_le_two_pow)
    omega
  have g1 := r_is_covered (k := k) (μ := μ) G ha hb hla hL hc hnb
  have g2 := r_is_covered (k := k) (μ := μ) G hb ha hlb hM hc' hna
  rw [u_are_same_regions, b_are_same_regions]
  cases h : covR n a b with
  | true =>
    rw [h] at g1
    simp -implicitDefEqProofs [g1, g2]
  | false =>
    rw [h] at g1
    simp -implicitDefEqProofs [g1]
end
end P1
end
section
set_option Elab.async false
set_option linter.all false
set_option maxRecDepth 100000
set_option maxHeartbeats 0
namespace P1
open PySem L2 Py Geo FM
/-- m - 1, .., 0 -/
def dn : Nat → List D
  | 0 => []
  | m + 1 => .int m :: dn m
theorem rngDS_dn (m : Nat) (h : m ≤ 16000000) : rngDS ((m : Int) - 1) = some (dn m) := by
  have key : ∀ m : Nat, rangeDn ((m : Int) - 1) = dn m := by
    intro m
    unfold rangeDn
    rw [show ((m : Int) - 1 + 1).toNat = m by omega]
    induction m with
    | zero => rfl
    | succ m ih =>
      rw [List.range_succ_eq_map, List.map_cons, List.map_map, dn]
      congr 1
      · simp
      · rw [← ih]
        refine List.map_congr_left fun i _ => ?_
        simp only [Function.comp]
        congr 1
        omega
  unfold rngDS
  rw [key, if_pos]
  simp; omega
section
variable {k n : Nat} {μ : Store} {γ : List Bd}
theorem cut_lo {α : Type} (g : α → D) (l suf : List α) (j : Nat) (h : j < l.length) : Py.cutS ((l.take (j + 1) ++ suf).map g) none (some (j : Int)) = (l.take j).map g := by
  rw [cutS_take, ← List.map_take]
  congr 1
  rw [List.take_append_of_le_length (by rw [List.length_take]; omega), List.take_take, show min j (j + 1) = j by omega]
theorem cut_hi {α : Type} (g : α → D) (l suf : List α) (j : Nat) (h : j < l.length) : Py.cutS ((l.take (j + 1) ++ suf).map g) (some ((j : Int) + 1)) none = suf.map g := by
  rw [show (j : Int) + 1 = ((j + 1 : Nat) : Int) by omega, cutS_drop, ← List.map_drop]
  congr 1
  rw [List.drop_append_of_le_length (by rw [List.length_take]; omega), List.drop_of_length_le (by rw [List.length_take]; omega), List.nil_append]
theorem r_lean (G : GOk n γ) {p : Pc} (h : FamP γ p) (hl : p.length + 1 ≤ 16000000) (hne : neB n p = true) : Py.run fs Γ (k + 10) f_lean [polyD n p] μ = some (polyD n (leanR n p), μ) := by
  have hn2 := G.n2
  have g0 := e_empty (k := k) (μ := μ) G h (by omega)
  rw [hne] at g0
  have key : ∀ (m : Nat) (suf : Pc) (x4 x5 : Option SV), m ≤ p.length → FamP γ suf → m + suf.length ≤ p.length →
      ∃ y4 y5, forS (T.nm 4) (fun env' μ' => exs (Py.run fs Γ (k + 9)) Γ l1_lean env' μ') (dn m) [some (.val (polyD n p)), some (.val (.int n)), some (.val (bsD p)), some (.val (.lst ((p.take m ++ suf).map bdD))), x4, x5] μ = some (.nx [some (.val (polyD n p)), some (.val (.int n)), some (.val (bsD p)), some (.val (.lst ((slimK (redB n) p m suf).map bdD))), y4, y5] μ) := by
    intro m
    induction m with
    | zero => intro suf x4 x5 _ _ _; exact ⟨x4, x5, by simp [dn, forS_nil, slimK]⟩
    | succ m ih =>
      intro suf x4 x5 hm hs hlen
      have hmp : m < p.length := by omega
      have hpm := h p[m] (List.getElem_mem hmp)
      obtain ⟨f1, f2⟩ := G.fam hpm
      have gt := turned_bd (k := k + 7) (μ := μ) p[m] (by omega)
      have hfam : FamP γ (p.take m ++ suf ++ [p[m].turned]) := (FamP.app (fun B hB => h B (List.mem_of_mem_take hB)) hs).app (fun B hB => by
        rw [List.mem_singleton] at hB; rw [hB]; exact hpm.turned)
      have ge := e_empty (k := k) (μ := μ) G hfam (by simp only [List.length_append, List.length_take, List.length_singleton]; omega)
      have c1 := cut_lo bdD p suf m hmp
      have c2 := cut_hi bdD p suf m hmp
      have hat := atI_bd hmp
      have hb4 : itsS μ (bsD p) = some (p.map bdD) := rfl
      have hpoly : polyD n (p.take m ++ suf ++ [p[m].turned]) = .tup [.int n, .tup ((p.take m).map bdD ++ suf.map bdD ++ [bdD p[m].turned])] := by unfold polyD bsD; simp
      rw [hpoly] at ge
      have hz : min m p.length + suf.length ≤ SZ := by unfold SZ; omega
      have hz1 : min m p.length + suf.length + 1 ≤ SZ := by unfold SZ; omega
      have hLL : (p.take m ++ p[m] :: suf).map bdD = (p.take (m + 1) ++ suf).map bdD := by rw [List.take_succ_eq_append_getElem hmp, List.append_assoc]; rfl
      have hmA : (p.take m ++ suf).map bdD = (p.take m).map bdD ++ suf.map bdD := List.map_append
      rw [slimK_succ hmp]
      generalize hL : (p.take (m + 1) ++ suf).map bdD = LL at *
      generalize hA : (p.take m).map bdD = A at *
      have hAl : A.length = min m p.length := by rw [← hA, List.length_map, List.length_take]
      have hre : redB n (p.take m ++ suf) p[m] = !neB n (p.take m ++ suf ++ [p[m].turned]) := rfl
      cases hn : neB n (p.take m ++ suf ++ [p[m].turned]) with
      | true =>
        rw [hn] at ge hre
        obtain ⟨y4, y5, e⟩ := ih (p[m] :: suf) (some (.val (.int m))) (some (.val (.lst (A ++ suf.map bdD)))) (by omega) (fun B hB => by
          rcases List.mem_cons.mp hB with e | hB
          · rw [e]; exact hpm
          · exact hs B hB) (by simp only [List.length_cons]; omega)
        refine ⟨y4, y5, ?_⟩
        rw [hre, Bool.not_true, if_neg Bool.false_ne_true, dn]
        rw [hLL] at e
        rw [forS_go (env1 := [some (.val (polyD n p)), some (.val (.int n)), some (.val (bsD p)), some (.val (.lst LL)), some (.val (.int m)), x5]) (env' := [some (.val (polyD n p)), some (.val (.int n)), some (.val (bsD p)), some (.val (.lst LL)), some (.val (.int m)), some (.val (.lst (A ++ suf.map bdD)))]) (μ' := μ) (by simp) (by
          simp -implicitDefEqProofs [l1_lean, c1, c2, hat, hb4, gt, hz, hz1, hAl, szle]
          try simp -implicitDefEqProofs [List.append_assoc] at ge
          simp -implicitDefEqProofs [ge]), e]
      | false =>
        rw [hn] at ge hre
        obtain ⟨y4, y5, e⟩ := ih suf (some (.val (.int m))) (some (.val (.lst (A ++ suf.map bdD)))) (by omega) hs (by omega)
        refine ⟨y4, y5, ?_⟩
        rw [hre, Bool.not_false, if_pos rfl, dn]
        rw [hmA] at e
        rw [forS_go (env1 := [some (.val (polyD n p)), some (.val (.int n)), some (.val (bsD p)), some (.val (.lst LL)), some (.val (.int m)), x5]) (env' := [some (.val (polyD n p)), some (.val (.int n)), some (.val (bsD p)), some (.val (.lst (A ++ suf.map bdD))), some (.val (.int m)), some (.val (.lst (A ++ suf.map bdD)))]) (μ' := μ) (by simp) (by
          simp -implicitDefEqProofs [l1_lean, c1, c2, hat, hb4, gt, hz, hz1, hAl, szle]
          try simp -implicitDefEqProofs [List.append_assoc] at ge
          simp -implicitDefEqProofs [ge]), e]
  obtain ⟨y4, y5, e⟩ := key p.length [] none none (Nat.le_refl _) (fun _ h => by cases h) (by simp)
  rw [List.take_length, List.append_nil] at e
  have hr := rngDS_dn p.length (by omega)
  have hap : ∀ x3 x4 x5 : Option SV, asgT (T.tp [T.nm 1, T.nm 2]) (polyD n p) [some (.val (polyD n p)), none, none, x3, x4, x5] = some [some (.val (polyD n p)), some (.val (.int n)), some (.val (bsD p)), x3, x4, x5] := by
    intro x3 x4 x5
    rw [show polyD n p = .tup [.int n, bsD p] from rfl]
    simp
  have hb4 : itsS μ (bsD p) = some (p.map bdD) := rfl
  rw [u_lean, b_lean]
  unfold leanR slim
  simp -implicitDefEqProofs [ex_for, g0, hap, hb4, hr, e, szle]
  rfl
theorem atI_pc {r : List Pc} {i : Nat} (h : i < r.length) : atI (r.map bsD) (i : Int) = some (bsD r[i]) := atI_map h
theorem sumL_sub {L : Nat} {r : List Pc} (h : ∀ p ∈ r, p.length ≤ L) {m : Nat} (hl : r.length ≤ m) : sumL r ≤ m * L := Nat.le_trans (sumL_le h) (Nat.mul_le_mul_right _ hl)
theorem one_count (G : GOk n γ) (p : Pc) : [p].length * 2 ^ γ.length ≤ 16000000 := by
  have := G.len
  have : 2 ^ γ.length ≤ 2 ^ 15 := Nat.pow_le_pow_right (by decide) this
  simp only [List.length_singleton, Nat.one_mul]; omega
theorem slim_loop_r (G : GOk n γ) {l : List Pc} {L : Nat} (h : FamR γ l) (hL : ∀ p ∈ l, p.length ≤ L) (hS : L + l.length * L ≤ 16000000) (hl : l.length ≤ 16000000) (x0 x3 : Option SV) : ∀ (m : Nat) (suf : List Pc) (x4 x5 : Option SV), m ≤ l.length → (∀ p ∈ suf, FamP γ p ∧ p.length ≤ L) → m + suf.length ≤ l.length →
      ∃ y4 y5, forS (T.nm 4) (fun env' μ' => exs (Py.run fs Γ (k + 12)) Γ l1_least_region env' μ') (dn m) [x0, some (.val (.int n)), some (.val (.lst ((l.take m ++ suf).map bsD))), x3, x4, x5] μ = some (.nx [x0, some (.val (.int n)), some (.val (.lst ((slimK (redR n) l m suf).map bsD))), x3, y4, y5] μ) := by
  intro m
  induction m with
  | zero => intro suf x4 x5 _ _ _; exact ⟨x4, x5, by simp [dn, forS_nil, slimK]⟩
  | succ m ih =>
    intro suf x4 x5 hm hs hlen
    have hml : m < l.length := by omega
    have hlm := h l[m] (List.getElem_mem hml)
    have hLm := hL l[m] (List.getElem_mem hml)
    have c1 := cut_lo bsD l suf m hml
    have c2 := cut_hi bsD l suf m hml
    have hrl : ∀ p ∈ l.take m ++ suf, FamP γ p ∧ p.length ≤ L := fun p hp => by
      rcases List.mem_append.mp hp with hp | hp
      · exact ⟨h p (List.mem_of_mem_take hp), hL p (List.mem_of_mem_take hp)⟩
      · exact hs p hp
    have hsum := sumL_sub (fun p hp => (hrl p hp).2) (m := l.length) (by rw [List.length_append, List.length_take]; omega)
    have gc := r_is_covered (k := k) (μ := μ) (a := [l[m]]) (b := l.take m ++ suf) (L := L) G (fun p hp => by rw [List.mem_singleton] at hp; rw [hp]; exact hlm) (fun p hp => (hrl p hp).1) (fun p hp => by rw [List.mem_singleton] at hp; rw [hp]; exact hLm) (by omega) (one_count G _) (by rw [List.length_append, List.length_take]; omega)
    have hat : atI ((l.take (m + 1) ++ suf).map bsD) (m : Int) = some (bsD l[m]) := by
      rw [atI_map (by rw [List.length_append, List.length_take]; omega)]
      exact congrArg (fun z => some (bsD z)) (by rw [List.getElem_append_left (by rw [List.length_take]; omega), List.getElem_take])
    have hreg : regD n (l.take m ++ suf) = .tup [.int n, .tup ((l.take m).map bsD ++ suf.map bsD)] := by unfold regD; rw [List.map_append]
    have hreg1 : regD n [l[m]] = .tup [.int n, .tup [bsD l[m]]] := rfl
    rw [hreg, hreg1] at gc
    have hz : min m l.length + suf.length ≤ SZ := by unfold SZ; omega
    have hLL : (l.take m ++ l[m] :: suf).map bsD = (l.take (m + 1) ++ suf).map bsD := by rw [List.take_succ_eq_append_getElem hml, List.append_assoc]; rfl
    have hmA : (l.take m ++ suf).map bsD = (l.take m).map bsD ++ suf.map bsD := List.map_append
    rw [slimK_succ hml]
    have hre : redR n (l.take m ++ suf) l[m] = covR n [l[m]] (l.take m ++ suf) := rfl
    generalize hLe : (l.take (m + 1) ++ suf).map bsD = LL at *
    generalize hA : (l.take m).map bsD = A at *
    have hAl : A.length = min m l.length := by rw [← hA, List.length_map, List.length_take]
    cases hn : covR n [l[m]] (l.take m ++ suf) with
    | false =>
      rw [hn] at gc hre
      obtain ⟨y4, y5, e⟩ := ih (l[m] :: suf) (some (.val (.int m))) (some (.val (.lst (A ++ suf.map bsD)))) (by omega) (fun p hp => by
        rcases List.mem_cons.mp hp with e | hp
        · rw [e]; exact ⟨hlm, hLm⟩
        · exact hs p hp) (by simp only [List.length_cons]; omega)
      refine ⟨y4, y5, ?_⟩
      rw [hre, if_neg Bool.false_ne_true, dn]
      rw [hLL] at e
      rw [forS_go (env1 := [x0, some (.val (.int n)), some (.val (.lst LL)), x3, some (.val (.int m)), x5]) (env' := [x0, some (.val (.int n)), some (.val (.lst LL)), x3, some (.val (.int m)), some (.val (.lst (A ++ suf.map bsD)))]) (μ' := μ) (by simp) (by
        simp -implicitDefEqProofs [l1_least_region, c1, c2, hat, hz, hAl, szle, gc]), e]
    | true =>
      rw [hn] at gc hre
      obtain ⟨y4, y5, e⟩ := ih suf (some (.val (.int m))) (some (.val (.lst (A ++ suf.map bsD)))) (by omega) hs (by omega)
      refine ⟨y4, y5, ?_⟩
      rw [hre, if_pos rfl, dn]
      rw [hmA] at e
      rw [forS_go (env1 := [x0, some (.val (.int n)), some (.val (.lst LL)), x3, some (.val (.int m)), x5]) (env' := [x0, some (.val (.int n)), some (.val (.lst (A ++ suf.map bsD))), x3, some (.val (.int m)), some (.val (.lst (A ++ suf.map bsD)))]) (μ' := μ) (by simp) (by
        simp -implicitDefEqProofs [l1_least_region, c1, c2, hat, hz, hAl, szle, gc]), e]
theorem lean_fam {p : Pc} (h : FamP γ p) : FamP γ (leanR n p) := fun B hB => h B (slim_mem B hB)
theorem lean_facts {r : List Pc} {L : Nat} (h : FamR γ r) (hL : ∀ p ∈ r, p.length ≤ L) : ∀ p ∈ (r.filter (neB n)).map (leanR n), FamP γ p ∧ p.length ≤ L := fun p hp => by
  obtain ⟨q, hq, rfl⟩ := List.mem_map.mp hp
  have hq' := (List.mem_filter.mp hq).1
  exact ⟨lean_fam (h q hq'), Nat.le_trans slim_len (hL q hq')⟩
theorem r_least (G : GOk n γ) {r : List Pc} {L : Nat} (h : FamR γ r) (hL : ∀ p ∈ r, p.length ≤ L) (hS : L + r.length * L + 1 ≤ 16000000) (hl : r.length ≤ 16000000) : Py.run fs Γ (k + 13) f_least_region [regD n r] μ = some (regD n (leastR n r), μ) := by
  have g1 := r_polyhedra_of (k := k + 11) (n := n) (μ := μ) hl
  have hr : itsS μ (regD n r) = some [.int n, .tup (r.map bsD)] := rfl
  have h0 : atI [D.int n, .tup (r.map bsD)] 0 = some (.int n) := by simp [atI, ixN]
  have hpn : ∀ p : Pc, itsS μ (polyD n p) = some [.int n, bsD p] := fun _ => rfl
  have hp1 : ∀ p : Pc, atI [D.int n, bsD p] 1 = some (bsD p) := fun p => by simp [atI, ixN]
  have hc : ev (Py.run fs Γ (k + 12)) Γ c1_least_region [some (.val (regD n r)), some (.val (.int n)), none, none, none, none] μ = some (.lst (((r.filter (neB n)).map (leanR n)).map bsD), μ) := by
    rw [c1_least_region, List.map_map]
    refine ev_lc_filter (g := polyD n) r (by simp -implicitDefEqProofs [g1]) (by omega) fun p hp => ⟨[some (.val (regD n r)), some (.val (.int n)), none, some (.val (polyD n p)), none, none], by simp, ?_, fun hne => ?_⟩
    · have hpl := hL p hp
      have g := e_empty (k := k + 3) (μ := μ) G (h p hp) (by omega)
      simp -implicitDefEqProofs [g]
    · have hpl := hL p hp
      have g := r_lean (k := k + 2) (μ := μ) G (h p hp) (by omega) hne
      simp -implicitDefEqProofs [g, hpn, hp1]
  have hf := lean_facts (n := n) h hL
  have hll : ((r.filter (neB n)).map (leanR n)).length ≤ r.length := by rw [List.length_map]; exact List.length_filter_le _ _
  have hmul := Nat.mul_le_mul_right L hll
  obtain ⟨y4, y5, e⟩ := slim_loop_r (k := k) (μ := μ) G (l := (r.filter (neB n)).map (leanR n)) (L := L) (fun p hp => (hf p hp).1) (fun p hp => (hf p hp).2) (by omega) (by omega) (some (.val (regD n r))) none ((r.filter (neB n)).map (leanR n)).length [] none none (Nat.le_refl _) (fun _ h => by cases h) (by simp)
  rw [List.take_length, List.append_nil] at e
  have hrd := rngDS_dn ((r.filter (neB n)).map (leanR n)).length (by omega)
  rw [u_least_region, b_least_region]
  unfold leastR slim
  generalize (r.filter (neB n)).map (leanR n) = l at *
  simp -implicitDefEqProofs [ex_for, hr, h0, hc, hrd, e, szle]
  rfl
end
end P1
end
section
set_option Elab.async false
set_option linter.all false
set_option maxRecDepth 100000
set_option maxHeartbeats 0
namespace P1
open PySem L2 Py Geo FM
section
variable {k b c n : Nat} {μ : Store} {γ : List Bd}
theorem r_lheight (B : Bd) (x : List Rat) (h1 : Rok b B.row) (h2 : ∀ a ∈ x, Sz c a) (hl : B.f.length = x.length) (hn : b + x.length * (b + c + 1) ≤ 8999) : Py.run fs Γ (k + 3) f__law_height [bdD B, .tup (x.map rD)] μ = some (rD (B.val x), μ) ∧ Sz (b + x.length * (b + c + 1)) (B.val x) := by
  have t0 : ∀ μ : Store, itsS μ (bdD B) = some [.tup (B.f.map rD), rD B.r, .bl B.s] := fun _ => rfl
  have hx : x.length ≤ 8999 := by
    refine Nat.le_trans ?_ hn
    have : x.length * 1 ≤ x.length * (b + c + 1) := Nat.mul_le_mul_left _ (by omega)
    omega
  obtain ⟨env', μ', e, x3, rfl, rfl, hs⟩ := forS_inv (t := T.nm 3) (b := fun env' μ' => exs (Py.run fs Γ (k + 2)) Γ l1__law_height env' μ') (ds := rangeD 0 x.length) (env := [some (.val (bdD B)), some (.val (.tup (x.map rD))), some (.val (rD B.r)), none]) (μ := μ)
    (fun i env m => ∃ x3, env = [some (.val (bdD B)), some (.val (.tup (x.map rD))), some (.val (rD (B.r + dot (B.f.take i) (x.take i)))), x3] ∧ m = μ ∧ Sz (b + i * (b + c + 1)) (B.r + dot (B.f.take i) (x.take i)))
    ⟨none, by simp [dot, Rat.add_zero], rfl, by have hb : Sz b B.r := h1.1.2.1; simpa [dot, Rat.add_zero] using hb⟩ (by
      rintro i env m d hd ⟨x3, rfl, rfl, hs⟩
      obtain ⟨rfl, hi⟩ := rangeD_get hd
      have hif : i < B.f.length := by omega
      have a1 : atI (B.f.map rD) (i : Int) = some (rD B.f[i]) := by rw [atI_of (by simpa using hif)]; simp
      have a2 : atI (x.map rD) (i : Int) = some (rD x[i]) := by rw [atI_of (by simpa using hi)]; simp
      have s1 := h1.1.1 _ (List.getElem_mem hif)
      have s2 := h2 _ (List.getElem_mem hi)
      have hle : (i + 1) * (b + c + 1) ≤ x.length * (b + c + 1) := Nat.mul_le_mul_right _ (by omega)
      have hmul : (i + 1) * (b + c + 1) = i * (b + c + 1) + (b + c + 1) := Nat.succ_mul _ _
      have g1 := r_lmult (k := k) (n := b + c) (μ := m) B.f[i] x[i] s1 s2 (Nat.le_refl _) (by omega)
      have g2 := r_lplus (k := k) (n := b + i * (b + c + 1) + (b + c) + 1) (μ := m) (B.r + dot (B.f.take i) (x.take i)) (B.f[i] * x[i]) hs (s1.mul s2) (by omega) (by omega)
      have hd : B.r + dot (B.f.take (i + 1)) (x.take (i + 1)) = B.r + dot (B.f.take i) (x.take i) + B.f[i] * x[i] := by rw [dot_take _ _ _ hif hi]; grind
      refine ⟨[some (.val (bdD B)), some (.val (.tup (x.map rD))), some (.val (rD (B.r + dot (B.f.take i) (x.take i)))), some (.val (.int (0 + (i : Nat))))], [some (.val (bdD B)), some (.val (.tup (x.map rD))), some (.val (rD (B.r + dot (B.f.take i) (x.take i) + B.f[i] * x[i]))), some (.val (.int (0 + (i : Nat))))], m, by simp, .inl ?_, some (.val (.int (0 + (i : Nat)))), by rw [hd], rfl, ?_⟩
      · have q0 : atI [D.tup (B.f.map rD), rD B.r, .bl B.s] 0 = some (.tup (B.f.map rD)) := by simp [atI, ixN]
        simp -implicitDefEqProofs [l1__law_height, t0, q0, a1, a2, g1, g2]
      · rw [hd]
        exact sz_add_le hs (s1.mul s2) (by omega))
  rw [rangeD_len] at hs e
  have ht : B.r + dot (B.f.take x.length) (x.take x.length) = B.val x := by
    rw [← hl, List.take_length, hl, List.take_length]
    unfold Bd.val; grind
  rw [ht] at hs e
  refine ⟨?_, hs⟩
  have hr := rngS_0 (n := x.length) (by omega)
  rw [u__law_height, b__law_height]
  have q1 : atI [D.tup (B.f.map rD), rD B.r, .bl B.s] 1 = some (rD B.r) := by simp [atI, ixN]
  simp -implicitDefEqProofs [ex_for, t0, q1, hr, e]
theorem r_lkeeps (B : Bd) (x : List Rat) (h1 : Rok b B.row) (h2 : ∀ a ∈ x, Sz c a) (hl : B.f.length = x.length) (hn : b + x.length * (b + c + 1) ≤ 8999) : Py.run fs Γ (k + 4) f__law_keeps [bdD B, .tup (x.map rD)] μ = some (.bl (okb B.s (B.val x)), μ) := by
  obtain ⟨g1, s1⟩ := r_lheight (k := k) (μ := μ) B x h1 h2 hl hn
  have t0 : itsS μ (bdD B) = some [.tup (B.f.map rD), rD B.r, .bl B.s] := rfl
  have t1 : ∀ v : Rat, itsS μ (rD v) = some [.int v.num, .int v.den] := fun _ => rfl
  have q1 : ∀ v : Rat, atI [D.int v.num, D.int (v.den : Int)] 0 = some (.int v.num) := fun v => by simp [atI, ixN]
  rw [u__law_keeps, b__law_keeps]
  unfold okb
  generalize B.val x = v at *
  by_cases c2 : 0 < v
  · have c2' := num_pos_iff.mp c2
    have c3 : 0 ≤ v := by grind
    simp -implicitDefEqProofs [t0, t1, q1, atI, ixN, g1, c2', c2, c3]
  · have c2' : ¬ 0 < v.num := fun z => c2 (num_pos_iff.mpr z)
    by_cases c1 : v = 0
    · have c3 : 0 ≤ v := by grind
      have c4 : v.num = 0 := num_zero_iff.mp c1
      cases hs : B.s <;> simp -implicitDefEqProofs [t0, t1, q1, atI, ixN, g1, c2', c2, c3, c4, hs]
    · have c3 : ¬ 0 ≤ v := by grind
      have c4 : ¬ v.num = 0 := fun z => c1 (num_zero_iff.mpr z)
      simp -implicitDefEqProofs [t0, t1, q1, atI, ixN, g1, c2', c2, c3, c4, c1]

theorem r_lhas (G : GOk n γ) {p : Pc} {x : List Rat} (h : FamP γ p) (hl : p.length ≤ 16000000) (hx : x.length = n) (hs : ∀ a ∈ x, Sz PS a) : Py.run fs Γ (k + 5) f__law_has [polyD n p, ptD x] μ = some (.bl (hasB p x), μ) := by
  have hn := G.n2
  have hc : ∀ x2 : Option SV, ev (Py.run fs Γ (k + 4)) Γ c1__law_has [some (.val (polyD n p)), some (.val (ptD x)), x2] μ = some (.lst ((p.filter fun B => !keepsB B x).map fun _ => .int 1), μ) := by
    intro x2
    rw [c1__law_has]
    refine ev_lc_filter (g := bdD) p (by simp -implicitDefEqProofs [polyD, bsD, atI, ixN]) (by omega) fun B hB => ⟨[some (.val (polyD n p)), some (.val (ptD x)), some (.val (bdD B))], by simp, ?_, fun _ => by simp⟩
    obtain ⟨f1, f2⟩ := G.rok (h B hB)
    have hmul : x.length * (3 + PS + 1) ≤ 8808 := Nat.le_trans (Nat.mul_le_mul_right _ (by omega : x.length ≤ 2)) (by decide)
    have g := r_lkeeps (k := k) (μ := μ) (c := PS) B x f2 hs (by omega) (by omega)
    have g' : Py.run fs Γ (k + 4) f__law_keeps [bdD B, ptD x] μ = some (.bl (keepsB B x), μ) := g
    simp -implicitDefEqProofs [g']
  rw [u__law_has, b__law_has]
  have hz := none_left p fun B => keepsB B x
  unfold hasB
  rw [hz]
  simp -implicitDefEqProofs [hc]
theorem r_lin (G : GOk n γ) {r : List Pc} {x : List Rat} (h : FamR γ r) (hl : r.length ≤ 16000000) (hp : ∀ p ∈ r, p.length ≤ 16000000) (hx : x.length = n) (hs : ∀ a ∈ x, Sz PS a) : Py.run fs Γ (k + 6) f__law_in [regD n r, ptD x] μ = some (.bl (inR r x), μ) := by
  have hr : itsS μ (regD n r) = some [.int n, .tup (r.map bsD)] := rfl
  have h0 : atI [D.int n, .tup (r.map bsD)] 0 = some (.int n) := by simp [atI, ixN]
  have h1 : atI [D.int n, .tup (r.map bsD)] 1 = some (.tup (r.map bsD)) := by simp [atI, ixN]
  have hc : ∀ x2 : Option SV, ev (Py.run fs Γ (k + 5)) Γ c1__law_in [some (.val (regD n r)), some (.val (ptD x)), x2] μ = some (.lst ((r.filter fun p => hasB p x).map fun _ => .int 1), μ) := by
    intro x2
    rw [c1__law_in]
    refine ev_lc_filter (g := bsD) r (by simp -implicitDefEqProofs [hr, h1]) (by omega) fun p hpr => ⟨[some (.val (regD n r)), some (.val (ptD x)), some (.val (bsD p))], by simp, ?_, fun _ => by simp⟩
    have g := r_lhas (k := k) (μ := μ) G (h p hpr) (hp p hpr) hx hs
    rw [show polyD n p = .tup [.int n, bsD p] from rfl] at g
    simp -implicitDefEqProofs [hr, h0, szle, g]
  have hz : inR r x = decide (0 < (((r.filter fun p => hasB p x).length : Nat) : Int)) := by
    rw [Bool.eq_iff_iff, inR_mem, decide_eq_true_iff]
    constructor
    · rintro ⟨p, hp, hx⟩
      exact Int.natCast_pos.mpr (List.length_pos_of_mem (List.mem_filter.mpr ⟨hp, hx⟩))
    · intro h
      obtain ⟨p, hp⟩ := List.exists_mem_of_length_pos (l := r.filter fun p => hasB p x) (by omega)
      exact ⟨p, (List.mem_filter.mp hp).1, (List.mem_filter.mp hp).2⟩
  rw [u__law_in, b__law_in, hz]
  simp -implicitDefEqProofs [hc]
theorem r_lturned (B : Bd) (hl : B.f.length ≤ 1000) : Py.run fs Γ (k + 1) f__law_turned [bdD B] μ = some (bdD B.turned, μ) := by
  have hb : itsS μ (bdD B) = some [.tup (B.f.map rD), rD B.r, .bl B.s] := rfl
  have a0 : atI [D.tup (B.f.map rD), rD B.r, .bl B.s] 0 = some (.tup (B.f.map rD)) := by simp [atI, ixN]
  have a1 : atI [D.tup (B.f.map rD), rD B.r, .bl B.s] 1 = some (rD B.r) := by simp [atI, ixN]
  have a2 : atI [D.tup (B.f.map rD), rD B.r, .bl B.s] 2 = some (.bl B.s) := by simp [atI, ixN]
  have t1 : ∀ a : Rat, itsS μ (rD a) = some [.int a.num, .int a.den] := fun _ => rfl
  have p0 : ∀ a : Rat, atI [D.int a.num, D.int (a.den : Int)] 0 = some (.int a.num) := fun a => by simp [atI, ixN]
  have p1 : ∀ a : Rat, atI [D.int a.num, D.int (a.den : Int)] 1 = some (.int a.den) := fun a => by simp [atI, ixN]
  have hc : ev (Py.run fs Γ k) Γ c1__law_turned [some (.val (bdD B)), none] μ = some (.lst (B.f.map fun t => rD (-t)), μ) := by
    rw [c1__law_turned]
    refine ev_lc_map (g := rD) B.f (by simp -implicitDefEqProofs [hb, a0]) (by omega) fun a _ => ⟨[some (.val (bdD B)), some (.val (rD a))], by simp, by simp, ?_⟩
    rw [rD_neg]
    simp -implicitDefEqProofs [t1, p0, p1, szle]
  have hv : bdD B.turned = .tup [.tup (B.f.map fun t => rD (-t)), rD (-B.r), .bl (!B.s)] := by unfold bdD Bd.turned; simp [List.map_map, Function.comp_def]
  rw [u__law_turned, b__law_turned, hv, rD_neg]
  simp -implicitDefEqProofs [hc, hb, a1, a2, t1, p0, p1, szle]
theorem r_lbool (a b : Bool) : Py.run fs Γ (k + 1) f__law_bool [.bl a, .bl b] μ = some (.bl (decide (a = b)), μ) := by
  rw [u__law_bool, b__law_bool]
  cases a <;> cases b <;> simp -implicitDefEqProofs <;> rfl
theorem r_lfilled (G : GOk n γ) (hm : scalS μ = true) {r : List Pc} (h : FamR γ r) (hl : r.length ≤ 16000000) (hp : ∀ p ∈ r, p.length ≤ 16000000) (hne : ∀ p ∈ r, neB n p = true) : Py.run fs Γ (k + 10) f__law_filled [regD n r] μ = some (.bl true, μ) := by
  have g1 := r_polyhedra_of (k := k + 8) (n := n) (μ := μ) hl
  have key : ∀ (l : List Pc) (x1 x2 : Option SV), (∀ p ∈ l, FamP γ p ∧ p.length ≤ 16000000 ∧ neB n p = true) →
      ∃ y1 y2, forS (T.nm 1) (fun env' μ' => exs (Py.run fs Γ (k + 9)) Γ l1__law_filled env' μ') (l.map (polyD n)) [some (.val (regD n r)), x1, x2] μ = some (.nx [some (.val (regD n r)), y1, y2] μ) := by
    intro l
    induction l with
    | nil => intro x1 x2 _; exact ⟨x1, x2, rfl⟩
    | cons p l ih =>
      intro x1 x2 hl
      obtain ⟨q1, q2, q3⟩ := hl p (by simp)
      obtain ⟨d, e1, e2⟩ := e_point (k := k) G hm q1 q2
      rcases e2 with ⟨e2, _⟩ | ⟨x, rfl, e3, e4, e5⟩
      · rw [q3] at e2; cases e2
      · have g := r_lhas (k := k + 4) (μ := μ) G q1 q2 e3 e5
        rw [e4] at g
        obtain ⟨y1, y2, e⟩ := ih (some (.val (polyD n p))) (some (.val (ptD x))) (fun q hq => hl q (by simp [hq]))
        refine ⟨y1, y2, ?_⟩
        have hnn : Py.isNon (ptD x) = false := rfl
        rw [List.map_cons, forS_go (env1 := [some (.val (regD n r)), some (.val (polyD n p)), x2]) (env' := [some (.val (regD n r)), some (.val (polyD n p)), some (.val (ptD x))]) (μ' := μ) (by simp) (by simp -implicitDefEqProofs [l1__law_filled, e1, hnn, g]), e]
  obtain ⟨y1, y2, e⟩ := key r none none (fun p hpr => ⟨h p hpr, hp p hpr, hne p hpr⟩)
  rw [u__law_filled, b__law_filled]
  simp -implicitDefEqProofs [ex_for, g1, e]
end
end P1
end
section
set_option Elab.async false
set_option linter.all false
set_option maxRecDepth 100000
set_option maxHeartbeats 0
namespace P1
open PySem L2 Py Geo FM
section
variable {k n : Nat} {μ : Store} {γ : List Bd}
theorem r_lmet (G : GOk n γ) (hsc : scalS μ = true) {a b : List Pc} {L M : Nat} (ha : FamR γ a) (hb : FamR γ b) (hla : ∀ p ∈ a, p.length ≤ L) (hlb : ∀ p ∈ b, p.length ≤ M) (hLM : L + M ≤ 16000000) (hc : a.length * b.length ≤ 16000000) (hna : a.length ≤ 16000000) (hnb : b.length ≤ 16000000) :
    Py.run fs Γ (k + 10) f__law_met [regD n a, regD n b] μ = some (regD n (metR n a b), μ) := by
  have hin : ∀ (p : Pc), FamP γ p → p.length ≤ L → ∀ (l : List Pc) (acc : List D) (x0 x1 x4 : Option SV), x0 = some (.val (regD n a)) → (∀ q ∈ l, FamP γ q ∧ q.length ≤ M) → acc.length + l.length < 16777216 →
      ∃ y4, forS (T.nm 4) (fun env' μ' => exs (Py.run fs Γ (k + 9)) Γ l1__law_met env' μ') (l.map bsD) [x0, x1, some (.own acc), some (.val (bsD p)), x4] μ = some (.nx [x0, x1, some (.own (acc ++ ((l.map (p ++ ·)).filter (neB n)).map bsD)), some (.val (bsD p)), y4] μ) := by
    intro p hp hpl l
    induction l with
    | nil => intro acc x0 x1 x4 _ _ _; exact ⟨x4, by simp [forS_nil]⟩
    | cons q l ih =>
      intro acc x0 x1 x4 h0 hl hacc
      subst h0
      obtain ⟨q1, q2⟩ := hl q (by simp)
      obtain ⟨d0, ge, gn⟩ := e_pointN (k := k) G hsc (hp.app q1) (by rw [List.length_append]; omega)
      have hz : p.length + q.length ≤ SZ := by unfold SZ; omega
      have hz2 : acc.length < SZ := by unfold SZ; simp only [List.length_cons] at hacc; omega
      have hpq : polyD n (p ++ q) = .tup [.int n, .tup (p.map bdD ++ q.map bdD)] := by unfold polyD; rw [← bsD_app]
      rw [hpq] at ge
      have hb2 := bsD_app p q
      cases hn : neB n (p ++ q) with
      | true =>
        rw [hn] at gn
        obtain ⟨y4, e⟩ := ih (acc ++ [bsD (p ++ q)]) _ x1 (some (.val (bsD q))) rfl (fun r hr => hl r (by simp [hr])) (by simp only [List.length_cons, List.length_append, List.length_nil] at hacc ⊢; omega)
        refine ⟨y4, ?_⟩
        rw [List.map_cons, forS_go (env1 := [some (.val (regD n a)), x1, some (.own acc), some (.val (bsD p)), some (.val (bsD q))]) (env' := [some (.val (regD n a)), x1, some (.own (acc ++ [bsD (p ++ q)])), some (.val (bsD p)), some (.val (bsD q))]) (μ' := μ) (by simp) (by
          simp -implicitDefEqProofs [l1__law_met, regD, bsD, atI, ixN, hz, ge, gn, szle, hz2]), e]
        simp [List.filter_cons, hn]
      | false =>
        rw [hn] at gn
        obtain ⟨y4, e⟩ := ih acc _ x1 (some (.val (bsD q))) rfl (fun r hr => hl r (by simp [hr])) (by simp only [List.length_cons] at hacc ⊢; omega)
        refine ⟨y4, ?_⟩
        rw [List.map_cons, forS_go (env1 := [some (.val (regD n a)), x1, some (.own acc), some (.val (bsD p)), some (.val (bsD q))]) (env' := [some (.val (regD n a)), x1, some (.own acc), some (.val (bsD p)), some (.val (bsD q))]) (μ' := μ) (by simp) (by
          simp -implicitDefEqProofs [l1__law_met, regD, bsD, atI, ixN, hz, ge, gn, szle, hz2]), e]
        simp [List.filter_cons, hn]
  have hout : ∀ (l : List Pc) (acc : List D) (x3 x4 : Option SV), (∀ q ∈ l, FamP γ q ∧ q.length ≤ L) → acc.length + l.length * b.length ≤ 16000000 →
      ∃ y3 y4, forS (T.nm 3) (fun env' μ' => exs (Py.run fs Γ (k + 9)) Γ l2__law_met env' μ') (l.map bsD) [some (.val (regD n a)), some (.val (regD n b)), some (.own acc), x3, x4] μ = some (.nx [some (.val (regD n a)), some (.val (regD n b)), some (.own (acc ++ (metR n l b).map bsD)), y3, y4] μ) := by
    intro l
    induction l with
    | nil => intro acc x3 x4 _ _; exact ⟨x3, x4, by simp [forS_nil, metR]⟩
    | cons p l ih =>
      intro acc x3 x4 hl hacc
      simp only [List.length_cons, Nat.succ_mul] at hacc
      obtain ⟨p1, p2⟩ := hl p (by simp)
      obtain ⟨z4, e1⟩ := hin p p1 p2 b acc _ (some (.val (regD n b))) x4 rfl (fun q hq => ⟨hb q hq, hlb q hq⟩) (by omega)
      have hfl : ((b.map (p ++ ·)).filter (neB n)).length ≤ b.length := by refine Nat.le_trans (List.length_filter_le _ _) ?_; simp
      obtain ⟨y3, y4, e⟩ := ih (acc ++ ((b.map (p ++ ·)).filter (neB n)).map bsD) (some (.val (bsD p))) z4 (fun r hr => hl r (by simp [hr])) (by rw [List.length_append, List.length_map]; omega)
      refine ⟨y3, y4, ?_⟩
      rw [List.map_cons, forS_go (env1 := [some (.val (regD n a)), some (.val (regD n b)), some (.own acc), some (.val (bsD p)), x4]) (env' := [some (.val (regD n a)), some (.val (regD n b)), some (.own (acc ++ ((b.map (p ++ ·)).filter (neB n)).map bsD)), some (.val (bsD p)), z4]) (μ' := μ) (by simp) (by
        have hr : itsS μ (regD n b) = some [.int n, .tup (b.map bsD)] := rfl
        have h1 : atI [D.int n, .tup (b.map bsD)] 1 = some (.tup (b.map bsD)) := by simp [atI, ixN]
        simp -implicitDefEqProofs [l2__law_met, ex_for, hr, h1, e1]), e]
      simp [metR, List.flatMap_cons, List.append_assoc]
  obtain ⟨y3, y4, e⟩ := hout a [] none none (fun q hq => ⟨ha q hq, hla q hq⟩) (by simpa using hc)
  have hr : ∀ r : List Pc, itsS μ (regD n r) = some [.int n, .tup (r.map bsD)] := fun _ => rfl
  have h1 : atI [D.int n, .tup (a.map bsD)] 1 = some (.tup (a.map bsD)) := by simp [atI, ixN]
  have h0 : atI [D.int n, .tup (a.map bsD)] 0 = some (.int n) := by simp [atI, ixN]
  rw [u__law_met, b__law_met]
  rw [List.nil_append] at e
  simp -implicitDefEqProofs [ex_for, hr, h0, h1, e, szle]
  rfl

theorem r_lwo (G : GOk n γ) (hsc : scalS μ = true) {p q : Pc} (hp : FamP γ p) (hq : FamP γ q) (hl : p.length + q.length ≤ 16000000) (x0 x1 x3 x4 : Option SV) : ∀ (acc : List D) (x8 x9 : Option SV), acc.length + (woR n p q).length ≤ 16000000 →
    ∃ y8 y9, forS (T.nm 8) (fun env' μ' => exs (Py.run fs Γ (k + 9)) Γ l1__law_taken env' μ') (rangeD 0 q.length) [x0, x1, some (.val (.int n)), x3, x4, some (.val (bsD q)), some (.own acc), some (.val (bsD p)), x8, x9] μ = some (.nx [x0, x1, some (.val (.int n)), x3, x4, some (.val (bsD q)), some (.own (acc ++ (woR n p q).map bsD)), some (.val (bsD p)), y8, y9] μ) := by
  have hn2 := G.n2
  intro acc x8 x9 hacc
  have hsub : ∀ i, ((((cuts q).take i).map (p ++ ·)).filter (neB n)).length ≤ (woR n p q).length := fun i => by
    unfold woR
    exact ((List.take_sublist i (cuts q)).map _).filter _ |>.length_le
  obtain ⟨env', μ', e, y8, y9, rfl, rfl⟩ := forS_inv (t := T.nm 8) (b := fun env' μ' => exs (Py.run fs Γ (k + 9)) Γ l1__law_taken env' μ') (ds := rangeD 0 q.length) (env := [x0, x1, some (.val (.int n)), x3, x4, some (.val (bsD q)), some (.own acc), some (.val (bsD p)), x8, x9]) (μ := μ)
    (fun i env m => ∃ x8 x9, env = [x0, x1, some (.val (.int n)), x3, x4, some (.val (bsD q)), some (.own (acc ++ ((((cuts q).take i).map (p ++ ·)).filter (neB n)).map bsD)), some (.val (bsD p)), x8, x9] ∧ m = μ) ⟨x8, x9, by simp, rfl⟩ (by
      rintro i env m d hd ⟨x8, x9, rfl, rfl⟩
      obtain ⟨rfl, hi⟩ := rangeD_get hd
      have hcg := cuts_get q i hi
      have hcl : i < (cuts q).length := by rw [cuts_length]; exact hi
      have hct : (cuts q).take (i + 1) = (cuts q).take i ++ [q.take i ++ [q[i].turned]] := by
        rw [List.take_succ, hcg]; rfl
      have hqi := hq q[i] (List.getElem_mem hi)
      obtain ⟨f1, f2⟩ := G.fam hqi
      have gt := r_lturned (k := k + 8) (μ := m) q[i] (by omega)
      have hfam : FamP γ (p ++ (q.take i ++ [q[i].turned])) := hp.app (fun B hB => by
        rcases List.mem_append.mp hB with hB | hB
        · exact hq B (List.mem_of_mem_take hB)
        · rw [List.mem_singleton] at hB; rw [hB]; exact hqi.turned)
      have hlen : (p ++ (q.take i ++ [q[i].turned])).length ≤ 16000000 := by
        simp only [List.length_append, List.length_take, List.length_singleton]; omega
      obtain ⟨d0, ge, gn⟩ := e_pointN (k := k) G hsc hfam hlen
      have hz : p.length + min i q.length ≤ SZ := by unfold SZ; omega
      have hz1 : p.length + min i q.length + 1 ≤ SZ := by unfold SZ; omega
      have hsl : Py.cutS (q.map bdD) none (some (i : Int)) = (q.take i).map bdD := by rw [cutS_take, List.map_take]
      have hat := atI_bd hi
      have hb3 : ∀ r : Pc, bsD r = .tup (r.map bdD) := fun _ => rfl
      have hpoly : polyD n (p ++ (q.take i ++ [q[i].turned])) = .tup [.int n, .tup (p.map bdD ++ (q.take i).map bdD ++ [bdD q[i].turned])] := by
        unfold polyD bsD; simp
      have hbs : bsD (p ++ (q.take i ++ [q[i].turned])) = .tup (p.map bdD ++ (q.take i).map bdD ++ [bdD q[i].turned]) := by unfold bsD; simp
      have hz2 : (acc ++ ((((cuts q).take i).map (p ++ ·)).filter (neB n)).map bsD).length < SZ := by
        have := hsub i
        rw [List.length_append, List.length_map]
        unfold SZ; omega
      rw [hpoly] at ge
      rw [hct, List.map_append, List.filter_append, List.map_append]
      cases hn : neB n (p ++ (q.take i ++ [q[i].turned])) with
      | true =>
        rw [hn] at gn
        refine ⟨[x0, x1, some (.val (.int n)), x3, x4, some (.val (bsD q)), some (.own (acc ++ ((((cuts q).take i).map (p ++ ·)).filter (neB n)).map bsD)), some (.val (bsD p)), some (.val (.int (0 + (i : Nat)))), x9], [x0, x1, some (.val (.int n)), x3, x4, some (.val (bsD q)), some (.own ((acc ++ ((((cuts q).take i).map (p ++ ·)).filter (neB n)).map bsD) ++ [bsD (p ++ (q.take i ++ [q[i].turned]))])), some (.val (bsD p)), some (.val (.int (0 + (i : Nat)))), some (.val (bsD (p ++ (q.take i ++ [q[i].turned]))))], m, by simp, .inl ?_, some (.val (.int (0 + (i : Nat)))), some (.val (bsD (p ++ (q.take i ++ [q[i].turned])))), by simp [hn], rfl⟩
        generalize (acc ++ ((((cuts q).take i).map (p ++ ·)).filter (neB n)).map bsD) = A at *
        rw [hbs]
        simp -implicitDefEqProofs [l1__law_taken, hb3, hsl, hat, gt, hz, hz1, szle]
        try simp -implicitDefEqProofs [List.append_assoc] at ge
        simp -implicitDefEqProofs [ge, gn, hz2]
      | false =>
        rw [hn] at gn
        refine ⟨[x0, x1, some (.val (.int n)), x3, x4, some (.val (bsD q)), some (.own (acc ++ ((((cuts q).take i).map (p ++ ·)).filter (neB n)).map bsD)), some (.val (bsD p)), some (.val (.int (0 + (i : Nat)))), x9], [x0, x1, some (.val (.int n)), x3, x4, some (.val (bsD q)), some (.own (acc ++ ((((cuts q).take i).map (p ++ ·)).filter (neB n)).map bsD)), some (.val (bsD p)), some (.val (.int (0 + (i : Nat)))), some (.val (bsD (p ++ (q.take i ++ [q[i].turned]))))], m, by simp, .inl ?_, some (.val (.int (0 + (i : Nat)))), some (.val (bsD (p ++ (q.take i ++ [q[i].turned])))), by simp [hn], rfl⟩
        generalize (acc ++ ((((cuts q).take i).map (p ++ ·)).filter (neB n)).map bsD) = A at *
        rw [hbs]
        simp -implicitDefEqProofs [l1__law_taken, hb3, hsl, hat, gt, hz, hz1, szle]
        try simp -implicitDefEqProofs [List.append_assoc] at ge
        simp -implicitDefEqProofs [ge, gn])
  rw [rangeD_len, show q.length = (cuts q).length from (cuts_length q).symm, List.take_length, cuts_length] at e
  exact ⟨y8, y9, e⟩
theorem r_ltaken (G : GOk n γ) (hsc : scalS μ = true) {a b : List Pc} {L : Nat} (ha : FamR γ a) (hb : FamR γ b) (hla : ∀ p ∈ a, p.length ≤ L) (hL : L + sumL b ≤ 16000000) (hc : a.length * 2 ^ γ.length ≤ 16000000) (hnb : b.length ≤ 16000000) :
    Py.run fs Γ (k + 10) f__law_taken [regD n a, regD n b] μ = some (regD n (takenR n a b), μ) := by
  have hna : a.length ≤ 16000000 := by
    have : a.length * 1 ≤ a.length * 2 ^ γ.length := Nat.mul_le_mul_left _ (Nat.one_le_two_pow)
    omega
  have hr : ∀ r : List Pc, itsS μ (regD n r) = some [.int n, .tup (r.map bsD)] := fun _ => rfl
  have h0 : ∀ r : List Pc, atI [D.int n, .tup (r.map bsD)] 0 = some (.int n) := fun r => by simp [atI, ixN]
  have h1 : ∀ r : List Pc, atI [D.int n, .tup (r.map bsD)] 1 = some (.tup (r.map bsD)) := fun r => by simp [atI, ixN]
  have hin : ∀ (q : Pc), FamP γ q → ∀ (l : List Pc) (acc : List D) (x0 x1 x3 x4 x7 x8 x9 : Option SV), (∀ p ∈ l, FamP γ p ∧ p.length + q.length ≤ 16000000) → acc.length + (stepR n l q).length ≤ 16000000 →
      ∃ y7 y8 y9, forS (T.nm 7) (fun env' μ' => exs (Py.run fs Γ (k + 9)) Γ l2__law_taken env' μ') (l.map bsD) [x0, x1, some (.val (.int n)), x3, x4, some (.val (bsD q)), some (.own acc), x7, x8, x9] μ = some (.nx [x0, x1, some (.val (.int n)), x3, x4, some (.val (bsD q)), some (.own (acc ++ (stepR n l q).map bsD)), y7, y8, y9] μ) := by
    intro q hq l
    induction l with
    | nil => intro acc x0 x1 x3 x4 x7 x8 x9 _ _; exact ⟨x7, x8, x9, by simp [forS_nil, stepR]⟩
    | cons p l ih =>
      intro acc x0 x1 x3 x4 x7 x8 x9 hl hacc
      have hst : stepR n (p :: l) q = woR n p q ++ stepR n l q := by unfold stepR; rw [List.flatMap_cons]
      rw [hst, List.length_append] at hacc
      obtain ⟨p1, p2⟩ := hl p (by simp)
      obtain ⟨z8, z9, gw⟩ := r_lwo (k := k) (μ := μ) G hsc p1 hq p2 x0 x1 x3 x4 acc x8 x9 (by omega)
      obtain ⟨y7, y8, y9, e⟩ := ih (acc ++ (woR n p q).map bsD) x0 x1 x3 x4 (some (.val (bsD p))) z8 z9 (fun r hr => hl r (by simp [hr])) (by rw [List.length_append, List.length_map]; omega)
      refine ⟨y7, y8, y9, ?_⟩
      have hql : itsS μ (bsD q) = some (q.map bdD) := rfl
      have hrg := rngS_0 (n := q.length) (by omega)
      rw [List.map_cons, forS_go (env1 := [x0, x1, some (.val (.int n)), x3, x4, some (.val (bsD q)), some (.own acc), some (.val (bsD p)), x8, x9]) (env' := [x0, x1, some (.val (.int n)), x3, x4, some (.val (bsD q)), some (.own (acc ++ (woR n p q).map bsD)), some (.val (bsD p)), z8, z9]) (μ' := μ) (by simp) (by simp -implicitDefEqProofs [l2__law_taken, ex_for, hql, hrg, gw]), e, hst]
      simp
  have hout : ∀ (l : List Pc) (parts : List Pc) (M : Nat) (x0 x1 x4 x5 x6 x7 x8 x9 : Option SV), FamR γ parts → FamR γ l → (∀ p ∈ parts, p.length ≤ M) → M + sumL l ≤ 16000000 → (∀ j, ((l.take j).foldl (stepR n) parts).length ≤ 16000000) →
      ∃ y5 y6 y7 y8 y9, forS (T.nm 5) (fun env' μ' => exs (Py.run fs Γ (k + 9)) Γ l3__law_taken env' μ') (l.map bsD) [x0, x1, some (.val (.int n)), some (.val (.lst (parts.map bsD))), x4, x5, x6, x7, x8, x9] μ = some (.nx [x0, x1, some (.val (.int n)), some (.val (.lst ((l.foldl (stepR n) parts).map bsD))), x4, y5, y6, y7, y8, y9] μ) := by
    intro l
    induction l with
    | nil => intro parts M x0 x1 x4 x5 x6 x7 x8 x9 _ _ _ _ _; exact ⟨x5, x6, x7, x8, x9, by simp [forS_nil]⟩
    | cons q l ih =>
      intro parts M x0 x1 x4 x5 x6 x7 x8 x9 hp hl hM hS hj
      have hq := hl q (by simp)
      have hsq : sumL (q :: l) = q.length + sumL l := by unfold sumL; simp
      rw [hsq] at hS
      have hs1 : (stepR n parts q).length ≤ 16000000 := by have := hj 1; simpa using this
      obtain ⟨z7, z8, z9, e1⟩ := hin q hq parts [] x0 x1 (some (.val (.lst (parts.map bsD)))) x4 x7 x8 x9 (fun p hp' => ⟨hp p hp', by have := hM p hp'; omega⟩) (by simpa using hs1)
      rw [List.nil_append] at e1
      have hplen : ∀ p ∈ stepR n parts q, p.length ≤ M + q.length := fun p hp' => by
        have := fold_plen (n := n) [q] parts M hM p hp'
        simpa [sumL] using this
      obtain ⟨y5, y6, y7, y8, y9, e⟩ := ih (stepR n parts q) (M + q.length) x0 x1 x4 (some (.val (bsD q))) (some (.val (.lst ((stepR n parts q).map bsD)))) z7 z8 z9 (step_fam hp hq) (fun p hp' => hl p (by simp [hp'])) hplen (by omega) (fun j => by have := hj (j + 1); simpa using this)
      refine ⟨y5, y6, y7, y8, y9, ?_⟩
      rw [List.map_cons, forS_go (env1 := [x0, x1, some (.val (.int n)), some (.val (.lst (parts.map bsD))), x4, some (.val (bsD q)), x6, x7, x8, x9]) (env' := [x0, x1, some (.val (.int n)), some (.val (.lst ((stepR n parts q).map bsD))), x4, some (.val (bsD q)), some (.val (.lst ((stepR n parts q).map bsD))), z7, z8, z9]) (μ' := μ) (by simp) (by simp -implicitDefEqProofs [l3__law_taken, ex_for, e1]), e, List.foldl_cons]
  have hfa : FamR γ (a.filter (neB n)) := fun p hp => ha p (List.mem_filter.mp hp).1
  have hc1 : ev (Py.run fs Γ (k + 9)) Γ c1__law_taken [some (.val (regD n a)), some (.val (regD n b)), some (.val (.int n)), none, none, none, none, none, none, none] μ = some (.lst ((a.filter (neB n)).map bsD), μ) := by
    rw [c1__law_taken]
    refine ev_lc_filter (g := bsD) a (by simp -implicitDefEqProofs [hr, h1]) (by omega) fun p hp => ⟨[some (.val (regD n a)), some (.val (regD n b)), some (.val (.int n)), none, some (.val (bsD p)), none, none, none, none, none], by simp, ?_, fun _ => by simp⟩
    have hpl := hla p hp
    obtain ⟨d0, ge, gn⟩ := e_pointN (k := k) G hsc (ha p hp) (by omega)
    rw [show polyD n p = .tup [.int n, bsD p] from rfl] at ge
    simp -implicitDefEqProofs [ge, gn, szle]
  obtain ⟨y5, y6, y7, y8, y9, e⟩ := hout b (a.filter (neB n)) L (some (.val (regD n a))) (some (.val (regD n b))) none none none none none none hfa hb (fun p hp => hla p (List.mem_filter.mp hp).1) hL (fun j => by
    refine Nat.le_trans (fold_count _ (b.take j) hfa (fun p hp => hb p (List.mem_of_mem_take hp)) fun p hp => (List.mem_filter.mp hp).2) ?_
    exact Nat.le_trans (Nat.mul_le_mul_right _ (List.length_filter_le _ _)) hc)
  rw [u__law_taken, b__law_taken]
  unfold takenR
  simp -implicitDefEqProofs [ex_for, hc1, e, hr, h0, h1, szle]
  rfl
theorem r_llean (G : GOk n γ) (hsc : scalS μ = true) {p : Pc} (h : FamP γ p) (hl : p.length + 1 ≤ 16000000) : Py.run fs Γ (k + 10) f__law_lean [.int n, bsD p] μ = some (bsD (leanR n p), μ) := by
  have hn2 := G.n2
  have key : ∀ (m : Nat) (suf : Pc) (x4 x5 : Option SV), m ≤ p.length → FamP γ suf → m + suf.length ≤ p.length →
      ∃ y4 y5, forS (T.nm 3) (fun env' μ' => exs (Py.run fs Γ (k + 9)) Γ l1__law_lean env' μ') (dn m) [some (.val (.int n)), some (.val (bsD p)), some (.val (.lst ((p.take m ++ suf).map bdD))), x4, x5] μ = some (.nx [some (.val (.int n)), some (.val (bsD p)), some (.val (.lst ((slimK (redB n) p m suf).map bdD))), y4, y5] μ) := by
    intro m
    induction m with
    | zero => intro suf x4 x5 _ _ _; exact ⟨x4, x5, by simp [dn, forS_nil, slimK]⟩
    | succ m ih =>
      intro suf x4 x5 hm hs hlen
      have hmp : m < p.length := by omega
      have hpm := h p[m] (List.getElem_mem hmp)
      obtain ⟨f1, f2⟩ := G.fam hpm
      have gt := r_lturned (k := k + 8) (μ := μ) p[m] (by omega)
      have hfam : FamP γ (p.take m ++ suf ++ [p[m].turned]) := (FamP.app (fun B hB => h B (List.mem_of_mem_take hB)) hs).app (fun B hB => by
        rw [List.mem_singleton] at hB; rw [hB]; exact hpm.turned)
      obtain ⟨d0, ge, gn⟩ := e_pointN (k := k) G hsc hfam (by simp only [List.length_append, List.length_take, List.length_singleton]; omega)
      have c1 := cut_lo bdD p suf m hmp
      have c2 := cut_hi bdD p suf m hmp
      have hat : atI ((p.take (m + 1) ++ suf).map bdD) (m : Int) = some (bdD p[m]) := by
        rw [atI_map (by rw [List.length_append, List.length_take]; omega)]
        exact congrArg (fun z => some (bdD z)) (by rw [List.getElem_append_left (by rw [List.length_take]; omega), List.getElem_take])
      have hpoly : polyD n (p.take m ++ suf ++ [p[m].turned]) = .tup [.int n, .tup ((p.take m).map bdD ++ suf.map bdD ++ [bdD p[m].turned])] := by unfold polyD bsD; simp
      rw [hpoly] at ge
      have hz : min m p.length + suf.length ≤ SZ := by unfold SZ; omega
      have hz1 : min m p.length + suf.length + 1 ≤ SZ := by unfold SZ; omega
      have hLL : (p.take m ++ p[m] :: suf).map bdD = (p.take (m + 1) ++ suf).map bdD := by rw [List.take_succ_eq_append_getElem hmp, List.append_assoc]; rfl
      have hmA : (p.take m ++ suf).map bdD = (p.take m).map bdD ++ suf.map bdD := List.map_append
      rw [slimK_succ hmp]
      generalize hL : (p.take (m + 1) ++ suf).map bdD = LL at *
      generalize hA : (p.take m).map bdD = A at *
      have hAl : A.length = min m p.length := by rw [← hA, List.length_map, List.length_take]
      have hre : redB n (p.take m ++ suf) p[m] = !neB n (p.take m ++ suf ++ [p[m].turned]) := rfl
      cases hn : neB n (p.take m ++ suf ++ [p[m].turned]) with
      | true =>
        rw [hn] at gn hre
        obtain ⟨y4, y5, e⟩ := ih (p[m] :: suf) (some (.val (.int m))) (some (.val (.lst (A ++ suf.map bdD)))) (by omega) (fun B hB => by
          rcases List.mem_cons.mp hB with e | hB
          · rw [e]; exact hpm
          · exact hs B hB) (by simp only [List.length_cons]; omega)
        refine ⟨y4, y5, ?_⟩
        rw [hre, Bool.not_true, if_neg Bool.false_ne_true, dn]
        rw [hLL] at e
        rw [forS_go (env1 := [some (.val (.int n)), some (.val (bsD p)), some (.val (.lst LL)), some (.val (.int m)), x5]) (env' := [some (.val (.int n)), some (.val (bsD p)), some (.val (.lst LL)), some (.val (.int m)), some (.val (.lst (A ++ suf.map bdD)))]) (μ' := μ) (by simp) (by
          simp -implicitDefEqProofs [l1__law_lean, c1, c2, hat, gt, hz, hz1, hAl, szle]
          try simp -implicitDefEqProofs [List.append_assoc] at ge
          simp -implicitDefEqProofs [ge, gn]), e]
      | false =>
        rw [hn] at gn hre
        obtain ⟨y4, y5, e⟩ := ih suf (some (.val (.int m))) (some (.val (.lst (A ++ suf.map bdD)))) (by omega) hs (by omega)
        refine ⟨y4, y5, ?_⟩
        rw [hre, Bool.not_false, if_pos rfl, dn]
        rw [hmA] at e
        rw [forS_go (env1 := [some (.val (.int n)), some (.val (bsD p)), some (.val (.lst LL)), some (.val (.int m)), x5]) (env' := [some (.val (.int n)), some (.val (bsD p)), some (.val (.lst (A ++ suf.map bdD))), some (.val (.int m)), some (.val (.lst (A ++ suf.map bdD)))]) (μ' := μ) (by simp) (by
          simp -implicitDefEqProofs [l1__law_lean, c1, c2, hat, gt, hz, hz1, hAl, szle]
          try simp -implicitDefEqProofs [List.append_assoc] at ge
          simp -implicitDefEqProofs [ge, gn]), e]
  obtain ⟨y4, y5, e⟩ := key p.length [] none none (Nat.le_refl _) (fun _ h => by cases h) (by simp)
  rw [List.take_length, List.append_nil] at e
  have hr := rngDS_dn p.length (by omega)
  have hb4 : itsS μ (bsD p) = some (p.map bdD) := rfl
  rw [u__law_lean, b__law_lean]
  unfold leanR slim
  simp -implicitDefEqProofs [ex_for, hb4, hr, e, szle]
  rfl
theorem lslim_loop (G : GOk n γ) (hsc : scalS μ = true) {l : List Pc} {L : Nat} (h : FamR γ l) (hL : ∀ p ∈ l, p.length ≤ L) (hS : L + l.length * L ≤ 16000000) (hl : l.length ≤ 16000000) (x0 x3 : Option SV) : ∀ (m : Nat) (suf : List Pc) (x4 x5 : Option SV), m ≤ l.length → (∀ p ∈ suf, FamP γ p ∧ p.length ≤ L) → m + suf.length ≤ l.length →
      ∃ y4 y5, forS (T.nm 4) (fun env' μ' => exs (Py.run fs Γ (k + 10)) Γ l1__law_slim env' μ') (dn m) [x0, some (.val (.int n)), some (.val (.lst ((l.take m ++ suf).map bsD))), x3, x4, x5] μ = some (.nx [x0, some (.val (.int n)), some (.val (.lst ((slimK (redR n) l m suf).map bsD))), x3, y4, y5] μ) := by
  intro m
  induction m with
  | zero => intro suf x4 x5 _ _ _; exact ⟨x4, x5, by simp [dn, forS_nil, slimK]⟩
  | succ m ih =>
    intro suf x4 x5 hm hs hlen
    have hml : m < l.length := by omega
    have hlm := h l[m] (List.getElem_mem hml)
    have hLm := hL l[m] (List.getElem_mem hml)
    have c1 := cut_lo bsD l suf m hml
    have c2 := cut_hi bsD l suf m hml
    have hrl : ∀ p ∈ l.take m ++ suf, FamP γ p ∧ p.length ≤ L := fun p hp => by
      rcases List.mem_append.mp hp with hp | hp
      · exact ⟨h p (List.mem_of_mem_take hp), hL p (List.mem_of_mem_take hp)⟩
      · exact hs p hp
    have hsum := sumL_sub (fun p hp => (hrl p hp).2) (m := l.length) (by rw [List.length_append, List.length_take]; omega)
    have gc := r_ltaken (k := k) (μ := μ) (a := [l[m]]) (b := l.take m ++ suf) (L := L) G hsc (fun p hp => by rw [List.mem_singleton] at hp; rw [hp]; exact hlm) (fun p hp => (hrl p hp).1) (fun p hp => by rw [List.mem_singleton] at hp; rw [hp]; exact hLm) (by omega) (one_count G _) (by rw [List.length_append, List.length_take]; omega)
    have hat : atI ((l.take (m + 1) ++ suf).map bsD) (m : Int) = some (bsD l[m]) := by
      rw [atI_map (by rw [List.length_append, List.length_take]; omega)]
      exact congrArg (fun z => some (bsD z)) (by rw [List.getElem_append_left (by rw [List.length_take]; omega), List.getElem_take])
    have hreg : regD n (l.take m ++ suf) = .tup [.int n, .tup ((l.take m).map bsD ++ suf.map bsD)] := by unfold regD; rw [List.map_append]
    have hreg1 : regD n [l[m]] = .tup [.int n, .tup [bsD l[m]]] := rfl
    rw [hreg, hreg1] at gc
    have hrr : ∀ r : List Pc, itsS μ (regD n r) = some [.int n, .tup (r.map bsD)] := fun _ => rfl
    have hr1 : ∀ r : List Pc, atI [D.int n, .tup (r.map bsD)] 1 = some (.tup (r.map bsD)) := fun r => by simp [atI, ixN]
    have hz : min m l.length + suf.length ≤ SZ := by unfold SZ; omega
    have hLL : (l.take m ++ l[m] :: suf).map bsD = (l.take (m + 1) ++ suf).map bsD := by rw [List.take_succ_eq_append_getElem hml, List.append_assoc]; rfl
    have hmA : (l.take m ++ suf).map bsD = (l.take m).map bsD ++ suf.map bsD := List.map_append
    rw [slimK_succ hml]
    have hre : redR n (l.take m ++ suf) l[m] = covR n [l[m]] (l.take m ++ suf) := rfl
    generalize hLe : (l.take (m + 1) ++ suf).map bsD = LL at *
    generalize hA : (l.take m).map bsD = A at *
    have hAl : A.length = min m l.length := by rw [← hA, List.length_map, List.length_take]
    cases hn : covR n [l[m]] (l.take m ++ suf) with
    | false =>
      rw [hn] at hre
      have htk : ¬ takenR n [l[m]] (l.take m ++ suf) = [] := fun z => by unfold covR at hn; rw [z] at hn; cases hn
      obtain ⟨y4, y5, e⟩ := ih (l[m] :: suf) (some (.val (.int m))) (some (.val (.lst (A ++ suf.map bsD)))) (by omega) (fun p hp => by
        rcases List.mem_cons.mp hp with e | hp
        · rw [e]; exact ⟨hlm, hLm⟩
        · exact hs p hp) (by simp only [List.length_cons]; omega)
      refine ⟨y4, y5, ?_⟩
      rw [hre, if_neg Bool.false_ne_true, dn]
      rw [hLL] at e
      rw [forS_go (env1 := [x0, some (.val (.int n)), some (.val (.lst LL)), x3, some (.val (.int m)), x5]) (env' := [x0, some (.val (.int n)), some (.val (.lst LL)), x3, some (.val (.int m)), some (.val (.lst (A ++ suf.map bsD)))]) (μ' := μ) (by simp) (by
        simp -implicitDefEqProofs [l1__law_slim, c1, c2, hat, hz, hAl, szle, gc, hrr, hr1, eqS_int, htk]), e]
    | true =>
      rw [hn] at hre
      have htk : takenR n [l[m]] (l.take m ++ suf) = [] := List.isEmpty_iff.mp hn
      have hrn : atI [D.int n, D.tup []] 1 = some (.tup []) := by simp [atI, ixN]
      obtain ⟨y4, y5, e⟩ := ih suf (some (.val (.int m))) (some (.val (.lst (A ++ suf.map bsD)))) (by omega) hs (by omega)
      refine ⟨y4, y5, ?_⟩
      rw [hre, if_pos rfl, dn]
      rw [hmA] at e
      rw [forS_go (env1 := [x0, some (.val (.int n)), some (.val (.lst LL)), x3, some (.val (.int m)), x5]) (env' := [x0, some (.val (.int n)), some (.val (.lst (A ++ suf.map bsD))), x3, some (.val (.int m)), some (.val (.lst (A ++ suf.map bsD)))]) (μ' := μ) (by simp) (by
        simp -implicitDefEqProofs [l1__law_slim, c1, c2, hat, hz, hAl, szle, gc, hrr, hr1, hrn, eqS_int, htk]), e]

theorem r_lslim (G : GOk n γ) (hsc : scalS μ = true) {r : List Pc} {L : Nat} (h : FamR γ r) (hL : ∀ p ∈ r, p.length ≤ L) (hS : L + r.length * L + 1 ≤ 16000000) (hl : r.length ≤ 16000000) : Py.run fs Γ (k + 11) f__law_slim [regD n r] μ = some (regD n (leastR n r), μ) := by
  have hr : itsS μ (regD n r) = some [.int n, .tup (r.map bsD)] := rfl
  have h0 : atI [D.int n, .tup (r.map bsD)] 0 = some (.int n) := by simp [atI, ixN]
  have h1 : atI [D.int n, .tup (r.map bsD)] 1 = some (.tup (r.map bsD)) := by simp [atI, ixN]
  have hc : ev (Py.run fs Γ (k + 10)) Γ c1__law_slim [some (.val (regD n r)), some (.val (.int n)), none, none, none, none] μ = some (.lst (((r.filter (neB n)).map (leanR n)).map bsD), μ) := by
    rw [c1__law_slim, List.map_map]
    refine ev_lc_filter (g := bsD) r (by simp -implicitDefEqProofs [hr, h1]) (by omega) fun p hp => ⟨[some (.val (regD n r)), some (.val (.int n)), none, some (.val (bsD p)), none, none], by simp, ?_, fun hne => ?_⟩
    · have hpl := hL p hp
      obtain ⟨d0, ge, gn⟩ := e_pointN (k := k + 1) G hsc (h p hp) (by omega)
      rw [show polyD n p = .tup [.int n, bsD p] from rfl] at ge
      simp -implicitDefEqProofs [ge, gn, szle]
    · have hpl := hL p hp
      have g := r_llean (k := k) (μ := μ) G hsc (h p hp) (by omega)
      simp -implicitDefEqProofs [g]
  have hf := lean_facts (n := n) h hL
  have hll : ((r.filter (neB n)).map (leanR n)).length ≤ r.length := by rw [List.length_map]; exact List.length_filter_le _ _
  have hmul := Nat.mul_le_mul_right L hll
  obtain ⟨y4, y5, e⟩ := lslim_loop (k := k) (μ := μ) G hsc (l := (r.filter (neB n)).map (leanR n)) (L := L) (fun p hp => (hf p hp).1) (fun p hp => (hf p hp).2) (by omega) (by omega) (some (.val (regD n r))) none ((r.filter (neB n)).map (leanR n)).length [] none none (Nat.le_refl _) (fun _ h => by cases h) (by simp)
  rw [List.take_length, List.append_nil] at e
  have hrd := rngDS_dn ((r.filter (neB n)).map (leanR n)).length (by omega)
  rw [u__law_slim, b__law_slim]
  unfold leastR slim
  generalize (r.filter (neB n)).map (leanR n) = l at *
  simp -implicitDefEqProofs [ex_for, hr, h0, hc, hrd, e, szle]
  rfl
end
end P1
end
section
set_option Elab.async false
set_option linter.all false
set_option maxRecDepth 100000
set_option maxHeartbeats 0
namespace P1
open PySem L2 Py Geo FM
section
variable {k n : Nat} {μ : Store} {γ : List Bd}
theorem r_lsum {s : Nat} (l : List Rat) (h : ∀ a ∈ l, Sz s a) (hn : 1 + l.length * (s + 1) ≤ 8999) : Py.run fs Γ (k + 3) f__law_sum [.lst (l.map rD)] μ = some (rD (l.foldl (· + ·) 0), μ) ∧ Sz (1 + l.length * (s + 1)) (l.foldl (· + ·) 0) := by
  have key : ∀ (m : List Rat) (t : Rat) (j : Nat) (x2 : Option SV), (∀ a ∈ m, Sz s a) → Sz (1 + j * (s + 1)) t → 1 + (j + m.length) * (s + 1) ≤ 8999 →
      (∃ y2, forS (T.nm 2) (fun env' μ' => exs (Py.run fs Γ (k + 2)) Γ l1__law_sum env' μ') (m.map rD) [some (.val (.lst (l.map rD))), some (.val (rD t)), x2] μ = some (.nx [some (.val (.lst (l.map rD))), some (.val (rD (m.foldl (· + ·) t))), y2] μ)) ∧ Sz (1 + (j + m.length) * (s + 1)) (m.foldl (· + ·) t) := by
    intro m
    induction m with
    | nil => intro t j x2 _ ht _; exact ⟨⟨x2, rfl⟩, by simpa using ht⟩
    | cons a m ih =>
      intro t j x2 hm ht hj
      have hmul : (j + (a :: m).length) * (s + 1) = j * (s + 1) + (m.length * (s + 1) + (s + 1)) := by rw [List.length_cons, Nat.add_mul, Nat.succ_mul]
      have ht' : Sz (1 + (j + 1) * (s + 1)) (t + a) := by
        refine (ht.add (hm a (by simp))).mono ?_
        rw [Nat.add_mul j 1]; omega
      have g := r_lplus (k := k) (n := 8999) (μ := μ) t a ht (hm a (by simp)) (by rw [hmul] at hj; omega) (Nat.le_refl _)
      obtain ⟨⟨y2, e⟩, e2⟩ := ih (t + a) (j + 1) (some (.val (rD a))) (fun b hb => hm b (by simp [hb])) ht' (by rw [show j + 1 + m.length = j + (a :: m).length by simp; omega]; exact hj)
      rw [show j + 1 + m.length = j + (a :: m).length by simp; omega] at e2
      refine ⟨⟨y2, ?_⟩, e2⟩
      rw [List.map_cons, List.foldl_cons, forS_go (env1 := [some (.val (.lst (l.map rD))), some (.val (rD t)), some (.val (rD a))]) (env' := [some (.val (.lst (l.map rD))), some (.val (rD (t + a))), some (.val (rD a))]) (μ' := μ) (by simp) (by simp -implicitDefEqProofs [l1__law_sum, g]), e]
  obtain ⟨⟨y2, e⟩, e2⟩ := key l 0 0 none h (by simpa using sz_zero (b := 1) (by decide)) (by simpa using hn)
  rw [Nat.zero_add] at e2
  refine ⟨?_, e2⟩
  rw [u__law_sum, b__law_sum]
  rw [rD_zero] at e
  simp -implicitDefEqProofs [ex_for, e, szle]
def pr (ws gs : List Rat) : List Rat := (List.range gs.length).map fun j => ws.getD j 0 * gs.getD j 0
theorem pr_sum : ∀ (ws gs : List Rat) (s : Rat), ws.length = gs.length → (pr ws gs).foldl (· + ·) s = s + dot ws gs
  | [], [], s, _ => by simp [pr, dot, Rat.add_zero]
  | w :: ws, g :: gs, s, h => by
    have ih := pr_sum ws gs (s + w * g) (by simpa using h)
    unfold pr at ih ⊢
    rw [List.length_cons, List.range_succ_eq_map, List.map_cons, List.map_map, List.foldl_cons]
    simp only [Function.comp_def, List.getD_cons_zero, List.getD_cons_succ] at ih ⊢
    rw [ih, dot]
    grind
  | [], _ :: _, _, h => by simp at h
  | _ :: _, [], _, h => by simp at h
theorem getD_map {α : Type} (l : List α) (g : α → Rat) (j : Nat) (h : j < l.length) : (l.map g).getD j 0 = g l[j] := by
  rw [List.getD_eq_getElem?_getD, List.getElem?_map, List.getElem?_eq_getElem h]; rfl
theorem getD_get (l : List Rat) (j : Nat) (h : j < l.length) : l.getD j 0 = l[j] := by
  rw [List.getD_eq_getElem?_getD, List.getElem?_eq_getElem h]; rfl
theorem r_lempty (G : GOk n γ) {p : Pc} (h : FamP γ p) (hl : p.length ≤ 3) (ws : List Rat) (hw : ∀ a ∈ ws, Sz 1570 a) (hlen : ws.length = p.length) (hpos : ∀ a ∈ ws, 0 ≤ a) (hz : ∀ j < n, dot ws (p.map fun B => B.f.getD j 0) = 0)
    (hr : dot ws (p.map fun B => B.r) < 0 ∨ (dot ws (p.map fun B => B.r) = 0 ∧ ∃ q ∈ p.zip ws, q.1.s = true ∧ 0 < q.2)) : Py.run fs Γ (k + 4) f__law_empty_right [polyD n p, ptD ws] μ = some (.bl true, μ) := by
  have hn2 := G.n2
  have hB : ∀ B ∈ p, B.f.length = n ∧ BSz 3 B := fun B hB => G.fam (h B hB)
  have t0 : ∀ Q : Bd, itsS μ (bdD Q) = some [.tup (Q.f.map rD), rD Q.r, .bl Q.s] := fun _ => rfl
  have q0 : ∀ Q : Bd, atI [D.tup (Q.f.map rD), rD Q.r, .bl Q.s] 0 = some (.tup (Q.f.map rD)) := fun Q => by simp [atI, ixN]
  have q1 : ∀ Q : Bd, atI [D.tup (Q.f.map rD), rD Q.r, .bl Q.s] 1 = some (rD Q.r) := fun Q => by simp [atI, ixN]
  have q2 : ∀ Q : Bd, atI [D.tup (Q.f.map rD), rD Q.r, .bl Q.s] 2 = some (.bl Q.s) := fun Q => by simp [atI, ixN]
  have t1 : ∀ a : Rat, itsS μ (rD a) = some [.int a.num, .int a.den] := fun _ => rfl
  have p0 : ∀ a : Rat, atI [D.int a.num, D.int (a.den : Int)] 0 = some (.int a.num) := fun a => by simp [atI, ixN]
  have hpw : itsS μ (ptD ws) = some (ws.map rD) := rfl
  have hpb : itsS μ (bsD p) = some (p.map bdD) := rfl
  have aw : ∀ j (hj : j < p.length), atI (ws.map rD) (j : Int) = some (rD (ws[j]'(by omega))) := fun j hj => atI_map (by omega)
  have ab : ∀ j (hj : j < p.length), atI (p.map bdD) (j : Int) = some (bdD p[j]) := fun j hj => atI_bd hj
  have hrg := rngS_map (n := p.length) (by omega)
  -- no weight below 0
  have c1 : ev (Py.run fs Γ (k + 3)) Γ c1__law_empty_right [some (.val (polyD n p)), some (.val (ptD ws)), some (.val (.int n)), some (.val (bsD p)), none, none, none, none, none] μ = some (.lst [], μ) := by
    rw [c1__law_empty_right]
    have := ev_lc_filter (Φ := Py.run fs Γ (k + 3)) (Γ := Γ) (x := E.int 1) (t := T.nm 4) (it := I.seq (E.slot 1)) (c := Eo.some (E.cmp .Lt (E.ix (E.slot 4) (E.int 0)) (E.int 0))) (vs := [4]) (env := [some (.val (polyD n p)), some (.val (ptD ws)), some (.val (.int n)), some (.val (bsD p)), none, none, none, none, none]) (μ := μ) (g := rD) (h := fun _ => .int 1) (p := fun a => decide (a < 0)) ws (by simp [ptD]) (by omega) fun a ha => ⟨[some (.val (polyD n p)), some (.val (ptD ws)), some (.val (.int n)), some (.val (bsD p)), some (.val (rD a)), none, none, none, none], by simp, by simp -implicitDefEqProofs [t1, p0, num_neg_iff], fun _ => by simp⟩
    rw [this]
    have e : ws.filter (fun a => decide (a < 0)) = [] := by
      rw [List.filter_eq_nil_iff]
      intro a ha
      have := hpos a ha
      simp only [decide_eq_true_eq]
      exact Rat.not_lt.mpr this
    rw [e]; rfl
  -- a sum of products
  have hsum : ∀ (gs : List Rat), gs.length = p.length → (∀ a ∈ gs, Sz 3 a) → Py.run fs Γ (k + 3) f__law_sum [.lst ((pr ws gs).map rD)] μ = some (rD (dot ws gs), μ) := by
    intro gs hg hs
    have hlp : (pr ws gs).length = gs.length := by simp [pr]
    have hsz : ∀ a ∈ pr ws gs, Sz 1573 a := fun a ha => by
      obtain ⟨j, hj, rfl⟩ := List.mem_map.mp ha
      have hj' := List.mem_range.mp hj
      rw [getD_get ws j (by omega), getD_get gs j hj']
      exact (hw _ (List.getElem_mem _)).mul (hs _ (List.getElem_mem _))
    have hm : (pr ws gs).length * (1573 + 1) ≤ 3 * 1574 := Nat.mul_le_mul_right _ (by omega)
    obtain ⟨g1, _⟩ := r_lsum (k := k) (μ := μ) (pr ws gs) hsz (by omega)
    rw [pr_sum ws gs 0 (by omega), Rat.zero_add] at g1
    exact g1
  have c2 : ∀ (i : Nat) (x4 x6 x7 x8 : Option SV), i < n → ev (Py.run fs Γ (k + 3)) Γ c2__law_empty_right [some (.val (polyD n p)), some (.val (ptD ws)), some (.val (.int n)), some (.val (bsD p)), x4, some (.val (.int i)), x6, x7, x8] μ = some (.lst ((pr ws (p.map fun B => B.f.getD i 0)).map rD), μ) := by
    intro i x4 x6 x7 x8 hi
    unfold pr
    rw [c2__law_empty_right, List.map_map, List.length_map]
    refine ev_lc_map (g := fun j : Nat => D.int (j : Int)) (List.range p.length) (by simp -implicitDefEqProofs [hpb, hrg]) (by simp; omega) fun j hj => ⟨[some (.val (polyD n p)), some (.val (ptD ws)), some (.val (.int n)), some (.val (bsD p)), x4, some (.val (.int i)), some (.val (.int (j : Int))), x7, x8], by simp, by simp, ?_⟩
    have hj' : j < p.length := List.mem_range.mp hj
    obtain ⟨f1, f2, f3⟩ := hB p[j] (List.getElem_mem hj')
    have hif : i < p[j].f.length := by omega
    have af : atI (p[j].f.map rD) (i : Int) = some (rD p[j].f[i]) := atI_map hif
    have gm := r_lmult (k := k + 1) (n := 1573) (μ := μ) (ws[j]'(by omega)) p[j].f[i] (hw _ (List.getElem_mem _)) (f2 _ (List.getElem_mem _)) (by decide) (by decide)
    simp only [Function.comp]
    rw [getD_get ws j (by omega), getD_map p _ j hj', getD_get _ i hif]
    simp -implicitDefEqProofs [hpw, hpb, aw j hj', ab j hj', t0, q0, af, gm]
  have c3 : ∀ (x4 x5 x6 x7 x8 : Option SV), ev (Py.run fs Γ (k + 3)) Γ c3__law_empty_right [some (.val (polyD n p)), some (.val (ptD ws)), some (.val (.int n)), some (.val (bsD p)), x4, x5, x6, x7, x8] μ = some (.lst ((pr ws (p.map fun B => B.r)).map rD), μ) := by
    intro x4 x5 x6 x7 x8
    unfold pr
    rw [c3__law_empty_right, List.map_map, List.length_map]
    refine ev_lc_map (g := fun j : Nat => D.int (j : Int)) (List.range p.length) (by simp -implicitDefEqProofs [hpb, hrg]) (by simp; omega) fun j hj => ⟨[some (.val (polyD n p)), some (.val (ptD ws)), some (.val (.int n)), some (.val (bsD p)), x4, x5, some (.val (.int (j : Int))), x7, x8], by simp, by simp, ?_⟩
    have hj' : j < p.length := List.mem_range.mp hj
    obtain ⟨f1, f2, f3⟩ := hB p[j] (List.getElem_mem hj')
    have gm := r_lmult (k := k + 1) (n := 1573) (μ := μ) (ws[j]'(by omega)) p[j].r (hw _ (List.getElem_mem _)) f3 (by decide) (by decide)
    simp only [Function.comp]
    rw [getD_get ws j (by omega), getD_map p _ j hj']
    simp -implicitDefEqProofs [hpw, hpb, aw j hj', ab j hj', t0, q1, gm]
  have c4 : ∀ (x4 x5 x6 x7 x8 : Option SV), ev (Py.run fs Γ (k + 3)) Γ c4__law_empty_right [some (.val (polyD n p)), some (.val (ptD ws)), some (.val (.int n)), some (.val (bsD p)), x4, x5, x6, x7, x8] μ = some (.lst (((List.range p.length).filter fun j => (p[j]?.map (·.s)).getD false && decide (0 < ws.getD j 0)).map fun _ => .int 1), μ) := by
    intro x4 x5 x6 x7 x8
    rw [c4__law_empty_right]
    refine ev_lc_filter (g := fun j : Nat => D.int (j : Int)) (List.range p.length) (by simp -implicitDefEqProofs [hpb, hrg]) (by simp; omega) fun j hj => ⟨[some (.val (polyD n p)), some (.val (ptD ws)), some (.val (.int n)), some (.val (bsD p)), x4, x5, some (.val (.int (j : Int))), x7, x8], by simp, ?_, fun _ => by simp⟩
    have hj' : j < p.length := List.mem_range.mp hj
    rw [List.getElem?_eq_getElem hj', getD_get ws j (by omega)]
    cases hs : p[j].s with
    | true =>
      have q2' : atI [D.tup (p[j].f.map rD), rD p[j].r, .bl true] 2 = some (.bl true) := by simp [atI, ixN]
      by_cases hw0 : 0 < (ws[j]'(by omega)).num
      · simp -implicitDefEqProofs [hpw, hpb, aw j hj', ab j hj', t0, q2', hs, t1, p0, num_pos_iff, hw0]
      · simp -implicitDefEqProofs [hpw, hpb, aw j hj', ab j hj', t0, q2', hs, t1, p0, num_pos_iff, hw0]
    | false =>
      have q2' : atI [D.tup (p[j].f.map rD), rD p[j].r, .bl false] 2 = some (.bl false) := by simp [atI, ixN]
      simp -implicitDefEqProofs [hpw, hpb, aw j hj', ab j hj', t0, q2', hs]
  have hloop : ∀ (m i : Nat) (x4 x5 x6 x7 x8 : Option SV), i + m = n → ∃ y5, forS (T.nm 5) (fun env' μ' => exs (Py.run fs Γ (k + 3)) Γ l1__law_empty_right env' μ') ((List.range' i m).map fun j : Nat => D.int (j : Int)) [some (.val (polyD n p)), some (.val (ptD ws)), some (.val (.int n)), some (.val (bsD p)), x4, x5, x6, x7, x8] μ = some (.nx [some (.val (polyD n p)), some (.val (ptD ws)), some (.val (.int n)), some (.val (bsD p)), x4, y5, x6, x7, x8] μ) := by
    intro m
    induction m with
    | zero => intro i x4 x5 x6 x7 x8 _; exact ⟨x5, rfl⟩
    | succ m ih =>
      intro i x4 x5 x6 x7 x8 him
      obtain ⟨y5, e⟩ := ih (i + 1) x4 (some (.val (.int (i : Int)))) x6 x7 x8 (by omega)
      refine ⟨y5, ?_⟩
      have g := hsum (p.map fun B => B.f.getD i 0) (by simp) (fun a ha => by
        obtain ⟨B, hB', rfl⟩ := List.mem_map.mp ha
        obtain ⟨f1, f2, f3⟩ := hB B hB'
        rw [getD_get _ i (by omega)]
        exact f2 _ (List.getElem_mem _))
      rw [hz i (by omega)] at g
      have e0 := eqS_rD 0 0
      rw [rD_zero] at e0 g
      simp only [List.getD_eq_getElem?_getD] at g
      rw [List.range'_succ, List.map_cons, forS_go (env1 := [some (.val (polyD n p)), some (.val (ptD ws)), some (.val (.int n)), some (.val (bsD p)), x4, some (.val (.int (i : Int))), x6, x7, x8]) (env' := [some (.val (polyD n p)), some (.val (ptD ws)), some (.val (.int n)), some (.val (bsD p)), x4, some (.val (.int (i : Int))), x6, x7, x8]) (μ' := μ) (by simp) (by simp -implicitDefEqProofs [l1__law_empty_right, c2 i _ _ _ _ (by omega : i < n), g, e0, szle]), e]
  obtain ⟨y5, eL⟩ := hloop n 0 none none none none none (by omega)
  have hrn := rngS_map (n := n) (by omega)
  rw [List.range_eq_range'] at hrn
  have gr := hsum (p.map fun B => B.r) (by simp) (fun a ha => by
    obtain ⟨B, hB', rfl⟩ := List.mem_map.mp ha
    exact (hB B hB').2.2)
  have hap : ∀ x4 x5 x6 x7 x8 : Option SV, asgT (T.tp [T.nm 2, T.nm 3]) (polyD n p) [some (.val (polyD n p)), some (.val (ptD ws)), none, none, x4, x5, x6, x7, x8] = some [some (.val (polyD n p)), some (.val (ptD ws)), some (.val (.int n)), some (.val (bsD p)), x4, x5, x6, x7, x8] := by
    intro x4 x5 x6 x7 x8
    rw [show polyD n p = .tup [.int n, bsD p] from rfl]
    simp
  rw [u__law_empty_right, b__law_empty_right]
  have hw' : ((ws.length : Nat) : Int) = (p.length : Int) := by omega
  generalize dot ws (p.map fun B => B.r) = v at *
  rcases hr with hr | ⟨hr, q, hq, hq1, hq2⟩
  · have hv := num_neg_iff.mp hr
    simp -implicitDefEqProofs [hap, hpw, hpb, c1, hw', hrn, ex_for, eL, c3, c4, gr, t1, p0, hv]
  · have hv : v.num = 0 := num_zero_iff.mp hr
    have p00 : atI [D.int 0, D.int (v.den : Int)] 0 = some (.int 0) := by simp [atI, ixN]
    have hc : ¬ ((List.range p.length).filter fun j => (p[j]?.map (·.s)).getD false && decide (0 < ws.getD j 0)) = [] := by
      obtain ⟨j, hj, e⟩ := List.getElem_of_mem hq
      rw [List.getElem_zip] at e
      subst e
      rw [List.length_zip] at hj
      intro z
      have : j ∈ (List.range p.length).filter fun j => (p[j]?.map (·.s)).getD false && decide (0 < ws.getD j 0) := by
        rw [List.mem_filter]
        refine ⟨List.mem_range.mpr (by omega), ?_⟩
        dsimp only at hq1 hq2
        rw [List.getElem?_eq_getElem (by omega), getD_get ws j (by omega)]
        simp only [Option.map_some, Option.getD_some, Bool.and_eq_true, decide_eq_true_iff]
        exact ⟨hq1, hq2⟩
      rw [z] at this
      cases this
    generalize ((List.range p.length).filter fun j => (p[j]?.map (·.s)).getD false && decide (0 < ws.getD j 0)) = J at *
    have hJ : (0 : Int) < (J.length : Int) := Int.natCast_pos.mpr (List.length_pos_iff.mpr hc)
    simp -implicitDefEqProofs [hap, hpw, hpb, c1, hw', hrn, ex_for, eL, c3, c4, gr, t1, p00, hv, hJ, hc, List.length_pos_iff.mpr hc]
end
end P1
end
section
set_option Elab.async false
set_option linter.all false
set_option maxRecDepth 100000
set_option maxHeartbeats 0
namespace P1
open PySem L2 Py Geo FM
/-! ### what is drawn -/
section
variable {k : Nat}
theorem r_small (ns : List Int) (t : Int) (h : DealOk ns t) (a : Nat) (ha : a < 90000) : ∃ r a', Py.run fs Γ (k + 2) f__law_small [dealD ns t] (Sa a) = some (rD r, Sa a') ∧ a ≤ a' ∧ a' ≤ a + 3 ∧ Sz 3 r := by
  obtain ⟨r1, b1, b2, e1⟩ := r_take (k := k) (a := a) ns t 4 h (by decide) (by omega)
  rw [u__law_small, b__law_small]
  by_cases c : r1 = 0
  · subst c
    obtain ⟨r2, b3, b4, e2⟩ := r_take (k := k) (a := a + 1) ns t 7 h (by decide) (by omega)
    obtain ⟨r3, b5, b6, e3⟩ := r_take (k := k) (a := a + 2) ns t 3 h (by decide) (by omega)
    have f1 := r_lratio (k := k) (n := 3) (μ := Sa (a + 3)) (r2 - 3) (1 + r3) (by omega) (by omega) (by omega) (by decide)
    refine ⟨Rat.divInt (r2 - 3) (1 + r3), a + 3, ?_, by omega, by omega, Sz.divInt (by omega) (by omega) (by omega)⟩
    simp -implicitDefEqProofs [e1, e2, e3, f1]
  · obtain ⟨r2, b3, b4, e2⟩ := r_take (k := k) (a := a + 1) ns t 9 h (by decide) (by omega)
    refine ⟨((r2 - 4 : Int) : Rat), a + 2, ?_, by omega, by omega, Sz.int (by omega)⟩
    rw [rD_int]
    simp -implicitDefEqProofs [e1, e2, c, szle]
def BGood (n : Nat) (B : Bd) : Prop := B.f.length = n ∧ BSz 3 B
theorem r_bound (ns : List Int) (t : Int) (h : DealOk ns t) (n : Nat) (hn : n ≤ 2) (a : Nat) (ha : a < 80000) : ∃ B a', Py.run fs Γ (k + 3) f__law_bound [dealD ns t, .int n] (Sa a) = some (bdD B, Sa a') ∧ a ≤ a' ∧ a' ≤ a + 12 ∧ BGood n B := by
  have hr := rngS_0 (n := n) (by omega)
  obtain ⟨f, a1, g1, g2, g3, g4, g5⟩ := ev_lc_draw (Φ := Py.run fs Γ (k + 2)) (Γ := Γ) (x := E.ite (E.cmp .Gt (E.call f__law_take (E.slot 0) (Es.cons (E.int 3) Es.nil)) (E.int 0)) (E.call f__law_small (E.slot 0) Es.nil) (E.tup (Es.cons (E.int 0) (Es.cons (E.int 1) Es.nil)))) (t := T.nm 3) (it := I.rng1 (E.slot 1)) (vs := [3]) (env := [some (.val (dealD ns t)), some (.val (.int n)), none, none]) (enc := rD) (P := Sz 3) (a0 := a) (a := a) (ds := rangeD 0 n) 4 90000
    (by simp -implicitDefEqProofs [hr]) (by rw [rangeD_len]; omega) (by rw [rangeD_len]; omega) (fun d hd a ha => by
      obtain ⟨r1, b1, b2, e1⟩ := r_take (k := k + 1) (a := a) ns t 3 h (by decide) (by omega)
      obtain ⟨r, a', e2, b3, b4, b5⟩ := r_small (k := k) ns t h (a + 1) (by omega)
      by_cases c : 0 < r1
      · exact ⟨[some (.val (dealD ns t)), some (.val (.int n)), none, some (.val d)], r, a', by simp, by simp -implicitDefEqProofs [e1, c, e2], b5, by omega, by omega⟩
      · exact ⟨[some (.val (dealD ns t)), some (.val (.int n)), none, some (.val d)], 0, a + 1, by simp, by simp -implicitDefEqProofs [e1, c, szle, rD_zero], sz_zero (by decide), by omega, by omega⟩)
  have g1' : ev (Py.run fs Γ (k + 2)) Γ c1__law_bound [some (.val (dealD ns t)), some (.val (.int n)), none, none] (Sa a) = _ := g1
  rw [rangeD_len] at g2 g5
  obtain ⟨r, a2, e2, b1, b2, b3⟩ := r_small (k := k) ns t h a1 (by omega)
  obtain ⟨r4, b4, b5, e4⟩ := r_take (k := k + 1) (a := a2) ns t 4 h (by decide) (by omega)
  refine ⟨⟨f, r, decide (r4 = 0)⟩, a2 + 1, ?_, by omega, by omega, g2, g3, b3⟩
  rw [u__law_bound, b__law_bound]
  unfold bdD
  by_cases c : r4 = 0
  · simp -implicitDefEqProofs [g1', e2, e4, szle, eqS_int, c]
  · simp -implicitDefEqProofs [g1', e2, e4, szle, eqS_int, c]
/-- a region that is drawn: so many pieces of so many bounds -/
def RGood (n P L : Nat) (r : List Pc) : Prop := r.length ≤ P ∧ ∀ p ∈ r, p.length ≤ L ∧ ∀ B ∈ p, BGood n B
theorem r_region (ns : List Int) (t : Int) (h : DealOk ns t) (n P L : Nat) (hn : n ≤ 2) (hP : P ≤ 3) (hL : L ≤ 3) (a : Nat) (ha : a < 60000) : ∃ r a', Py.run fs Γ (k + 4) f__law_region [dealD ns t, .int n, .int P, .int L] (Sa a) = some (regD n r, Sa a') ∧ a ≤ a' ∧ a' ≤ a + 200 ∧ RGood n P L r := by
  obtain ⟨m, b1, b2, e1⟩ := r_take (k := k + 2) (a := a) ns t ((P : Int) + 1) h (by omega) (by omega)
  have hr := rngS_0 (n := m.toNat) (by omega)
  rw [Int.toNat_of_nonneg b1] at hr
  obtain ⟨env', μ', e, TT, a', x5, x6, rfl, rfl, c1, c2, c3, c4⟩ := forS_inv (t := T.nm 5) (b := fun env' μ' => exs (Py.run fs Γ (k + 3)) Γ l1__law_region env' μ') (ds := rangeD 0 m.toNat) (env := [some (.val (dealD ns t)), some (.val (.int n)), some (.val (.int P)), some (.val (.int L)), some (.own []), none, none]) (μ := Sa (a + 1))
    (fun i env m' => ∃ (TT : List Pc) (a' : Nat) (x5 x6 : Option SV), env = [some (.val (dealD ns t)), some (.val (.int n)), some (.val (.int P)), some (.val (.int L)), some (.own (TT.map bsD)), x5, x6] ∧ m' = Sa a' ∧ a + 1 ≤ a' ∧ a' ≤ a + 1 + 40 * i ∧ TT.length = i ∧ ∀ p ∈ TT, p.length ≤ L ∧ ∀ B ∈ p, BGood n B)
    ⟨[], a + 1, none, none, rfl, rfl, Nat.le_refl _, Nat.le_refl _, rfl, fun _ h => by cases h⟩ (by
      rintro i env m' d hd ⟨TT, a', x5, x6, rfl, rfl, c1, c2, c3, c4⟩
      obtain ⟨rfl, hi⟩ := rangeD_get hd
      obtain ⟨m2, b3, b4, e2⟩ := r_take (k := k + 2) (a := a') ns t ((L : Int) + 1) h (by omega) (by omega)
      have hr2 := rngS_0 (n := m2.toNat) (by omega)
      rw [Int.toNat_of_nonneg b3] at hr2
      obtain ⟨bs, a1, g1, g2, g3, g4, g5⟩ := ev_lc_draw (Φ := Py.run fs Γ (k + 3)) (Γ := Γ) (x := E.call f__law_bound (E.slot 0) (Es.cons (E.slot 1) Es.nil)) (t := T.nm 6) (it := I.rng1 (E.call f__law_take (E.slot 0) (Es.cons (E.bin .Add (E.slot 3) (E.int 1)) Es.nil))) (vs := [6]) (env := [some (.val (dealD ns t)), some (.val (.int n)), some (.val (.int P)), some (.val (.int L)), some (.own (TT.map bsD)), some (.val (.int (0 + (i : Nat)))), x6]) (enc := bdD) (P := BGood n) (a0 := a') (a := a' + 1) (ds := rangeD 0 m2.toNat) 12 75000
        (by simp -implicitDefEqProofs [hr2, e2]) (by rw [rangeD_len]; omega) (by rw [rangeD_len]; omega) (fun d hd a ha => by
          obtain ⟨B, a', e3, b5, b6, b7⟩ := r_bound (k := k) ns t h n hn a (by omega)
          exact ⟨[some (.val (dealD ns t)), some (.val (.int n)), some (.val (.int P)), some (.val (.int L)), some (.own (TT.map bsD)), some (.val (.int (0 + (i : Nat)))), some (.val d)], B, a', by simp, by simp -implicitDefEqProofs [e3], b7, by omega, by omega⟩)
      rw [rangeD_len] at g2 g5
      refine ⟨[some (.val (dealD ns t)), some (.val (.int n)), some (.val (.int P)), some (.val (.int L)), some (.own (TT.map bsD)), some (.val (.int (0 + (i : Nat)))), x6], [some (.val (dealD ns t)), some (.val (.int n)), some (.val (.int P)), some (.val (.int L)), some (.own ((TT ++ [bs]).map bsD)), some (.val (.int (0 + (i : Nat)))), x6], Sa a1, by simp, .inl ?_, TT ++ [bs], a1, _, _, rfl, rfl, by omega, by omega, by simp [c3], ?_⟩
      · have g1' : ev (Py.run fs Γ (k + 3)) Γ c1__law_region [some (.val (dealD ns t)), some (.val (.int n)), some (.val (.int P)), some (.val (.int L)), some (.own (TT.map bsD)), some (.val (.int (0 + (i : Nat)))), x6] (Sa a') = some (.lst (bs.map bdD), Sa a1) := g1
        rw [Int.zero_add] at g1'
        have hz : TT.length < 16777216 := by omega
        have hz' : TT.length < SZ := by unfold SZ; omega
        simp -implicitDefEqProofs [l1__law_region, g1', szle, szlt, hz, hz', bsD]
      · intro p hp
        rcases List.mem_append.mp hp with hp | hp
        · exact c4 p hp
        · rw [List.mem_singleton] at hp
          subst hp
          exact ⟨by omega, g3⟩)
  rw [rangeD_len] at c2 c3
  refine ⟨TT, a', ?_, by omega, by omega, by omega, c4⟩
  rw [u__law_region, b__law_region]
  unfold regD
  simp -implicitDefEqProofs [ex_for, e1, hr, e, szle]
theorem r_points (ns : List Int) (t : Int) (h : DealOk ns t) (n : Nat) (hn : n ≤ 2) (a : Nat) (ha : a < 60000) : ∃ (xs : List (List Rat)) (a' : Nat), Py.run fs Γ (k + 3) f__law_points [dealD ns t, .int n, .int 4] (Sa a) = some (.lst (xs.map ptD), Sa a') ∧ a ≤ a' ∧ a' ≤ a + 24 ∧ xs.length ≤ 4 ∧ ∀ x ∈ xs, x.length = n ∧ ∀ b ∈ x, Sz PS b := by
  have hr := rngS_0 (n := n) (by omega)
  have hr4 : rngS 0 (4 : Int) = some (rangeD 0 4) := rngS_0 (n := 4) (by omega)
  obtain ⟨xs, a1, g1, g2, g3, g4, g5⟩ := ev_lc_draw (Φ := Py.run fs Γ (k + 2)) (Γ := Γ) (x := E.bi .tuple c1__law_points Es.nil) (t := T.nm 4) (it := I.rng1 (E.slot 2)) (vs := [4]) (env := [some (.val (dealD ns t)), some (.val (.int n)), some (.val (.int 4)), none, none]) (enc := ptD) (P := fun x => x.length = n ∧ ∀ b ∈ x, Sz PS b) (a0 := a) (a := a) (ds := rangeD 0 4) 6 80000
    (by simp -implicitDefEqProofs [hr4]) (by rw [rangeD_len]; omega) (by rw [rangeD_len]; omega) (fun d hd a ha => by
      obtain ⟨f, a2, q1, q2, q3, q4, q5⟩ := ev_lc_draw (Φ := Py.run fs Γ (k + 2)) (Γ := Γ) (x := E.call f__law_small (E.slot 0) Es.nil) (t := T.nm 3) (it := I.rng1 (E.slot 1)) (vs := [3]) (env := [some (.val (dealD ns t)), some (.val (.int n)), some (.val (.int 4)), none, some (.val d)]) (enc := rD) (P := Sz 3) (a0 := a) (a := a) (ds := rangeD 0 n) 3 90000
        (by simp -implicitDefEqProofs [hr]) (by rw [rangeD_len]; omega) (by rw [rangeD_len]; omega) (fun d' hd' a ha => by
          obtain ⟨r, a', e2, b3, b4, b5⟩ := r_small (k := k) ns t h a (by omega)
          exact ⟨[some (.val (dealD ns t)), some (.val (.int n)), some (.val (.int 4)), some (.val d'), some (.val d)], r, a', by simp, by simp -implicitDefEqProofs [e2], b5, by omega, by omega⟩)
      rw [rangeD_len] at q2 q5
      have q1' : ev (Py.run fs Γ (k + 2)) Γ c1__law_points [some (.val (dealD ns t)), some (.val (.int n)), some (.val (.int 4)), none, some (.val d)] (Sa a) = _ := q1
      exact ⟨[some (.val (dealD ns t)), some (.val (.int n)), some (.val (.int 4)), none, some (.val d)], f, a2, by simp, by simp -implicitDefEqProofs [q1', ptD], ⟨q2, fun b hb => (q3 b hb).mono (by decide)⟩, by omega, by omega⟩)
  rw [rangeD_len] at g5 g2
  have g1' : ev (Py.run fs Γ (k + 2)) Γ c2__law_points [some (.val (dealD ns t)), some (.val (.int n)), some (.val (.int 4)), none, none] (Sa a) = _ := g1
  refine ⟨xs, a1, ?_, by omega, by omega, by omega, g3⟩
  rw [u__law_points, b__law_points]
  simp -implicitDefEqProofs [g1']
end
end P1
end
section
set_option Elab.async false
set_option linter.all false
set_option maxRecDepth 100000
set_option maxHeartbeats 0
namespace P1
open PySem L2 Py Geo FM
theorem cuts_le (n : Nat) (p q : Pc) : (woR n p q).length ≤ q.length := by
  unfold woR
  refine Nat.le_trans (List.length_filter_le _ _) ?_
  rw [List.length_map, cuts_length]
  exact Nat.le_refl _
theorem fold_pow {n L : Nat} : ∀ (b parts : List Pc), (∀ q ∈ b, q.length ≤ L) → (b.foldl (stepR n) parts).length ≤ parts.length * L ^ b.length
  | [], parts, _ => by simp
  | q :: b, parts, h => by
    have h1 := fold_pow (n := n) (L := L) b (stepR n parts q) (fun q hq => h q (by simp [hq]))
    have h2 : (stepR n parts q).length ≤ parts.length * L := flatMap_le _ _ _ fun p _ => Nat.le_trans (cuts_le n p q) (h q (by simp))
    refine Nat.le_trans h1 ?_
    rw [List.length_cons, Nat.pow_succ, Nat.mul_comm (L ^ b.length) L, ← Nat.mul_assoc]
    exact Nat.mul_le_mul_right _ h2
theorem taken_pow {n L : Nat} {a b : List Pc} (h : ∀ q ∈ b, q.length ≤ L) : (takenR n a b).length ≤ a.length * L ^ b.length := Nat.le_trans (fold_pow b _ h) (Nat.mul_le_mul_right _ (List.length_filter_le _ _))
/-! plain data -/
theorem pln_bd {B : Bd} {n : Nat} (h : B.f.length ≤ 1000) : pln (n + 3) (bdD B) = true := by
  unfold bdD
  rw [pln, Bool.and_eq_true, decide_eq_true_iff, List.all_eq_true]
  refine ⟨by simp, fun d hd => ?_⟩
  simp only [List.mem_cons, List.not_mem_nil, or_false] at hd
  rcases hd with rfl | rfl | rfl
  · exact plain_tup (by omega) fun _ _ => plain_rD
  · exact plain_rD
  · cases n <;> rfl
theorem pln_bs {p : Pc} {n : Nat} (hl : p.length ≤ 10000) (h : ∀ B ∈ p, B.f.length ≤ 1000) : pln (n + 4) (bsD p) = true := plain_tup hl fun B hB => pln_bd (h B hB)
theorem pln_reg {r : List Pc} {n m : Nat} (hr : r.length ≤ 10000) (hl : ∀ p ∈ r, p.length ≤ 10000) (h : ∀ p ∈ r, ∀ B ∈ p, B.f.length ≤ 1000) : pln (m + 6) (regD n r) = true := by
  unfold regD
  rw [pln, Bool.and_eq_true, decide_eq_true_iff, List.all_eq_true]
  refine ⟨by simp, fun d hd => ?_⟩
  simp only [List.mem_cons, List.not_mem_nil, or_false] at hd
  rcases hd with rfl | rfl
  · rfl
  · exact plain_tup hr fun p hp => pln_bs (hl p hp) (h p hp)
section
variable {k n : Nat} {μ : Store} {γ : List Bd}
theorem fam_small (G : GOk n γ) {p : Pc} (h : FamP γ p) : ∀ B ∈ p, B.f.length ≤ 1000 := fun B hB => by
  have := (G.fam (h B hB)).1
  have := G.n2
  omega
theorem r_sameR (G : GOk n γ) {r : List Pc} (h : FamR γ r) (hr : r.length ≤ 10000) (hl : ∀ p ∈ r, p.length ≤ 10000) : Py.run fs Γ (k + 7) f__law_same [regD n r, regD n r] μ = some (.bl true, μ) := r_same 6 k _ (pln_reg (m := 0) hr hl fun p hp => fam_small G (h p hp))
theorem pow_le (G : GOk n γ) : 2 ^ γ.length ≤ 32768 := by
  have := G.len
  exact Nat.le_trans (Nat.pow_le_pow_right (by decide) this) (by decide)
theorem cnt_le (G : GOk n γ) {m : Nat} (h : m ≤ 400) : m * 2 ^ γ.length ≤ 16000000 := by
  have := Nat.mul_le_mul h (pow_le G)
  omega
/-- what a law asks of covering -/
theorem r_lcovers (G : GOk n γ) (hsc : scalS μ = true) {a b : List Pc} {L : Nat} (ha : FamR γ a) (hb : FamR γ b) (hla : ∀ p ∈ a, p.length ≤ L) (hlb : ∀ p ∈ b, p.length ≤ 16000000) (hL : L + sumL b ≤ 16000000) (hna : a.length ≤ 400) (hnb : b.length ≤ 16000000) : Py.run fs Γ (k + 13) f__law_covers [regD n a, regD n b] μ = some (.bl true, μ) := by
  have hc := cnt_le G hna
  have g1 := r_taken (k := k + 1) (μ := μ) G ha hb hla hL hc hnb
  have g2 := r_is_covered (k := k) (μ := μ) G ha hb hla hL hc hnb
  have htl := taken_count (n := n) ha hb
  have hf := taken_fam (n := n) ha hb
  have hpl : ∀ p ∈ takenR n a b, p.length ≤ 16000000 := fun p hp => Nat.le_trans (taken_plen hla p hp) hL
  obtain ⟨d, g3, g4⟩ := r_point_in (k := k + 2) G hsc hf (by omega) hpl
  have g5 := r_is_void (k := k + 2) (μ := μ) G hf (by omega) hpl
  have hne := taken_ne (n := n) (a := a) (b := b)
  have hcv : covR n a b = (takenR n a b).isEmpty := rfl
  have b1 := r_lbool (k := k + 11) (μ := μ) true true
  have b2 := r_lbool (k := k + 11) (μ := μ) false false
  rw [u__law_covers, b__law_covers]
  have hin : ∀ x : List Rat, x.length = n → inR (takenR n a b) x = (inR a x && !inR b x) := fun x hx => inR_taken hx a b
  rcases g4 with ⟨h1, rfl⟩ | ⟨x, rfl, h2, h3, h4⟩
  · have ht : takenR n a b = [] := by
      cases hte : takenR n a b with
      | nil => rfl
      | cons p r =>
        have hp := hne p (by rw [hte]; simp)
        rw [h1 p (by rw [hte]; simp)] at hp
        cases hp
    have e1 : (takenR n a b).all (fun p => !neB n p) = true := by rw [ht]; rfl
    have e2 : covR n a b = true := by rw [hcv, ht]; rfl
    rw [e1] at g5
    rw [e2] at g2
    simp -implicitDefEqProofs [g1, g2, g3, g5, b1]
  · obtain ⟨p, hp, hpx⟩ := inR_mem.mp h3
    have e1 : (takenR n a b).all (fun p => !neB n p) = false := by
      rw [List.all_eq_false]
      exact ⟨p, hp, by rw [hne p hp]; simp⟩
    have e2 : covR n a b = false := by
      rw [hcv]
      cases hte : takenR n a b with
      | nil => rw [hte] at hp; cases hp
      | cons _ _ => rfl
    rw [e1] at g5
    rw [e2] at g2
    rw [hin x h2, Bool.and_eq_true, Bool.not_eq_true'] at h3
    have g6 := r_lin (k := k + 6) (μ := μ) G ha (by omega) (fun p hp => by have := hla p hp; omega) h2 h4
    have g7 := r_lin (k := k + 6) (μ := μ) G hb hnb hlb h2 h4
    rw [h3.1] at g6
    rw [h3.2] at g7
    have hnn : Py.isNon (ptD x) = false := rfl
    simp -implicitDefEqProofs [g1, g2, g3, g5, b2, hnn, g6, g7]
end
end P1
end
section
set_option Elab.async false
set_option linter.all false
set_option maxRecDepth 100000
set_option maxHeartbeats 0
namespace P1
open PySem L2 Py Geo FM
section
variable {k n : Nat} {μ : Store} {γ : List Bd}
theorem cut_mid {α : Type} (g : α → D) (l : List α) (j : Nat) (h : j < l.length) : Py.cutS (l.map g) (some (j : Int)) (some ((j : Int) + 1)) = [g l[j]] := by
  unfold Py.cutS HT.sIx
  dsimp only
  rw [if_neg (by omega), if_neg (by omega)]
  rw [List.length_map, show min (j : Int).toNat l.length = j by omega, show min ((j : Int) + 1).toNat l.length = j + 1 by omega, show j + 1 - j = 1 by omega, ← List.map_drop, List.drop_eq_getElem_cons h]
  rfl
theorem cut_all_lo {α : Type} (g : α → D) (l : List α) (j : Nat) : Py.cutS (l.map g) none (some (j : Int)) = (l.take j).map g := by rw [cutS_take, List.map_take]
theorem cut_all_hi {α : Type} (g : α → D) (l : List α) (j : Nat) : Py.cutS (l.map g) (some ((j : Int) + 1)) none = (l.drop (j + 1)).map g := by
  rw [show (j : Int) + 1 = ((j + 1 : Nat) : Int) by omega, cutS_drop, List.map_drop]
theorem least_facts {r : List Pc} {L : Nat} (h : FamR γ r) (hL : ∀ p ∈ r, p.length ≤ L) : (leastR n r).length ≤ r.length ∧ FamR γ (leastR n r) ∧ ∀ p ∈ leastR n r, p.length ≤ L := by
  have hf := lean_facts (n := n) h hL
  refine ⟨?_, fun p hp => (hf p (slim_mem p hp)).1, fun p hp => (hf p (slim_mem p hp)).2⟩
  refine Nat.le_trans slim_len ?_
  rw [List.length_map]
  exact List.length_filter_le _ _
theorem r_lleast (G : GOk n γ) (hsc : scalS μ = true) {r : List Pc} (h : FamR γ r) (hr : r.length ≤ 3) (hL : ∀ p ∈ r, p.length ≤ 3) : Py.run fs Γ (k + 14) f__law_least [regD n r] μ = some (.bl true, μ) := by
  obtain ⟨s1, s2, s3⟩ := least_facts (n := n) h hL
  have hsl : sumL r ≤ 9 := by have := sumL_sub hL hr; omega
  have g1 := r_least (k := k) (μ := μ) G h hL (by omega) (by omega)
  have g2 := r_lslim (k := k + 2) (μ := μ) G hsc h hL (by omega) (by omega)
  have hS : sumL (leastR n r) ≤ 9 := by have := sumL_sub (m := 3) s3 (by omega); omega
  have g3 := r_sameR (k := k + 6) (μ := μ) G s2 (by omega) (fun p hp => by have := s3 p hp; omega)
  have g4 := r_same_reg (k := k) (μ := μ) G s2 h s3 hL (by omega) (by omega) (cnt_le G (by omega)) (cnt_le G (by omega))
  have g5 := r_same_reg (k := k) (μ := μ) G h s2 hL s3 (by omega) (by omega) (cnt_le G (by omega)) (cnt_le G (by omega))
  have c1 : covR n (leastR n r) r = true := covR_iff.mpr fun x hx hi => by rwa [least_same hx] at hi
  have c2 : covR n r (leastR n r) = true := covR_iff.mpr fun x hx hi => by rwa [least_same hx]
  rw [c1, c2] at g4 g5
  have g6 := r_is_void (k := k + 3) (μ := μ) G h (by omega) (fun p hp => by have := hL p hp; omega)
  have b1 := r_lbool (k := k + 12) (μ := μ) true true
  have hrr : ∀ r : List Pc, itsS μ (regD n r) = some [.int n, .tup (r.map bsD)] := fun _ => rfl
  have h0 : ∀ r : List Pc, atI [D.int n, .tup (r.map bsD)] 0 = some (.int n) := fun r => by simp [atI, ixN]
  have h1 : ∀ r : List Pc, atI [D.int n, .tup (r.map bsD)] 1 = some (.tup (r.map bsD)) := fun r => by simp [atI, ixN]
  have hpn : ∀ p : Pc, itsS μ (polyD n p) = some [.int n, bsD p] := fun _ => rfl
  have hp1 : ∀ p : Pc, atI [D.int n, bsD p] 1 = some (bsD p) := fun p => by simp [atI, ixN]
  generalize hT : leastR n r = S at *
  have hloop : ∀ (m i : Nat) (x2 : Option SV), i + m = S.length → ∃ y2, forS (T.nm 2) (fun env' μ' => exs (Py.run fs Γ (k + 13)) Γ l1__law_least env' μ') ((List.range' i m).map fun j : Nat => D.int (j : Int)) [some (.val (regD n r)), some (.val (regD n S)), x2] μ = some (.nx [some (.val (regD n r)), some (.val (regD n S)), y2] μ) := by
    intro m
    induction m with
    | zero => intro i x2 _; exact ⟨x2, rfl⟩
    | succ m ih =>
      intro i x2 him
      obtain ⟨y2, e⟩ := ih (i + 1) (some (.val (.int (i : Int)))) (by omega)
      refine ⟨y2, ?_⟩
      have hi : i < S.length := by omega
      have hmem : S[i] ∈ leastR n r := by rw [hT]; exact List.getElem_mem hi
      obtain ⟨l1, l2⟩ := least_pieces S[i] hmem
      have hS3 := s3 S[i] (List.getElem_mem hi)
      have gl := r_lean (k := k + 3) (μ := μ) G (s2 S[i] (List.getElem_mem hi)) (by omega) l1
      rw [l2] at gl
      have hsp : S = S.take i ++ S[i] :: S.drop (i + 1) := by rw [← List.drop_eq_getElem_cons hi, List.take_append_drop]
      have hnd := least_need (n := n) (r := r) (S.take i) S[i] (S.drop (i + 1)) (hT.trans hsp)
      have hsub : ∀ p ∈ S.take i ++ S.drop (i + 1), p ∈ S := fun p hp => by
        rcases List.mem_append.mp hp with hp | hp
        · exact List.mem_of_mem_take hp
        · exact List.mem_of_mem_drop hp
      have hrl : (S.take i ++ S.drop (i + 1)).length ≤ 3 := by rw [List.length_append, List.length_take, List.length_drop]; omega
      have hsum := sumL_sub (fun p hp => s3 p (hsub p hp)) hrl
      have gc := r_is_covered (k := k + 1) (μ := μ) (a := [S[i]]) (b := S.take i ++ S.drop (i + 1)) (L := 3) G (fun p hp => by rw [List.mem_singleton] at hp; rw [hp]; exact s2 _ (List.getElem_mem hi)) (fun p hp => s2 p (hsub p hp)) (fun p hp => by rw [List.mem_singleton] at hp; rw [hp]; exact hS3) (by omega) (one_count G _) (by omega)
      rw [hnd] at gc
      rw [show regD n [S[i]] = .tup [.int n, .tup [bsD S[i]]] from rfl, show regD n (S.take i ++ S.drop (i + 1)) = .tup [.int n, .tup ((S.take i).map bsD ++ (S.drop (i + 1)).map bsD)] from by unfold regD; rw [List.map_append]] at gc
      have hat := atI_pc hi
      have ee := eqS_refl (pln_bs (n := 0) (by omega : S[i].length ≤ 10000) (fam_small G (s2 _ (List.getElem_mem hi))))
      have cm := cut_mid bsD S i hi
      have cl := cut_all_lo bsD S i
      have ch := cut_all_hi bsD S i
      have hz : (S.take i).length + (S.drop (i + 1)).length ≤ SZ := by rw [List.length_append] at hrl; unfold SZ; omega
      have hz' : min i S.length + (S.length - (i + 1)) ≤ SZ := by unfold SZ; omega
      generalize hA : (S.take i).map bsD = A at *
      generalize hB : (S.drop (i + 1)).map bsD = B at *
      have hAl : A.length = min i S.length := by rw [← hA, List.length_map, List.length_take]
      have hBl : B.length = S.length - (i + 1) := by rw [← hB, List.length_map, List.length_drop]
      have hpoly : polyD n S[i] = .tup [.int n, bsD S[i]] := rfl
      rw [hpoly] at gl
      have hp1' : ∀ p : Pc, atI [D.int n, bsD p] 1 = some (bsD p) := hp1
      rw [List.range'_succ, List.map_cons, forS_go (env1 := [some (.val (regD n r)), some (.val (regD n S)), some (.val (.int (i : Int)))]) (env' := [some (.val (regD n r)), some (.val (regD n S)), some (.val (.int (i : Int)))]) (μ' := μ) (by simp) (by
        simp -implicitDefEqProofs [l1__law_least, hrr, h0, h1, hat, gl, hp1', ee, cm, cl, ch, hz, hz', hAl, hBl, szle, gc]), e]
  obtain ⟨y2, eL⟩ := hloop S.length 0 none (by omega)
  have hrg := rngS_map (n := S.length) (by omega)
  rw [List.range_eq_range'] at hrg
  have hvoid : (r.all fun p => !neB n p) = decide ((S.length : Int) = 0) := by
    rw [Bool.eq_iff_iff, List.all_eq_true, decide_eq_true_iff]
    constructor
    · intro hv
      have hv' := void_iff.mp (fun p hp => by have := hv p hp; simpa using this)
      cases hSe : S with
      | nil => rfl
      | cons p rest =>
        have hpm : p ∈ leastR n r := by rw [hT, hSe]; simp
        obtain ⟨x, hx, hxp⟩ := neB_get (least_pieces p hpm).1
        have h1 : inR (leastR n r) x = true := inR_mem.mpr ⟨p, hpm, hxp⟩
        rw [least_same hx, hv' x hx] at h1
        cases h1
    · intro hS0 p hp
      have hSe : S = [] := List.length_eq_zero_iff.mp (by omega)
      cases hn : neB n p with
      | false => rfl
      | true =>
        obtain ⟨x, hx, hxp⟩ := neB_get hn
        have h1 : inR r x = true := inR_mem.mpr ⟨p, hp, hxp⟩
        rw [← least_same (n := n) hx, hT, hSe] at h1
        cases h1
  rw [hvoid] at g6
  have b2 := r_lbool (k := k + 12) (μ := μ) (decide ((S.length : Int) = 0)) (decide ((S.length : Int) = 0))
  simp only [decide_true] at b2
  rw [u__law_least, b__law_least]
  simp -implicitDefEqProofs only [Bool.and_self] at g4 g5
  generalize hdd : decide ((S.length : Int) = 0) = dd at *
  have hlen : itsS μ (.tup (S.map bsD)) = some (S.map bsD) := rfl
  simp -implicitDefEqProofs [g1, g2, g3, g4, g5, b1, hrr, h1, hrg, ex_for, eL, g6]
  have hd3 : ∀ i : Decidable (S = []), @decide (S = []) i = dd := fun i => by
    rw [← hdd]
    by_cases z : S = []
    · simp [z]
    · simp [z]
  simp -implicitDefEqProofs [hd3, b2]
end
end P1
end
section
set_option Elab.async false
set_option linter.all false
set_option maxRecDepth 100000
set_option maxHeartbeats 0
namespace P1
open PySem L2 Py Geo FM
/-- None or a point -/
def PtOk (n : Nat) (d : D) : Prop := d = .non ∨ ∃ x : List Rat, d = ptD x ∧ x.length = n ∧ ∀ a ∈ x, Sz PS a
section
variable {k n : Nat} {μ : Store} {γ : List Bd}
theorem keep_points {Φ : FnS} {vs : List (Option SV)} : ∀ (ds : List D) (env : Py.Env), (∀ d ∈ ds, PtOk n d) → (∀ d, ∃ e, asgT (T.nm 10) d env = some e ∧ getV e 10 = some d) →
    ∃ xs : List (List Rat), lcS (T.nm 10) (fun env' μ' => evc Φ Γ (Eo.some (E.notN (E.slot 10))) env' μ') (fun env' μ' => ev Φ Γ (E.slot 10) env' μ') env ds μ = some (xs.map ptD, μ) ∧ xs.length ≤ ds.length ∧ ∀ x ∈ xs, x.length = n ∧ ∀ a ∈ x, Sz PS a
  | [], env, _, _ => ⟨[], rfl, Nat.le_refl _, fun _ h => by cases h⟩
  | d :: ds, env, h, he => by
    obtain ⟨xs, h1, h0, h2⟩ := keep_points (Φ := Φ) (vs := vs) ds env (fun e h' => h e (by simp [h'])) he
    obtain ⟨e, e1, e2⟩ := he d
    have e3 : evc Φ Γ (Eo.some (E.notN (E.slot 10))) e μ = some (!Py.isNon d, μ) := by
      rw [evc_some, evT_notN, ev_slot, e2]; rfl
    have e4 : ev Φ Γ (E.slot 10) e μ = some (d, μ) := by rw [ev_slot, e2]; rfl
    rcases h d (by simp) with rfl | ⟨x, rfl, h3, h4⟩
    · refine ⟨xs, ?_, by simp only [List.length_cons]; omega, h2⟩
      rw [lcS_cons, e1]
      simp -implicitDefEqProofs only [Option.bind_some, e3]
      exact h1
    · refine ⟨x :: xs, ?_, by simp only [List.length_cons]; omega, fun y hy => ?_⟩
      · rw [lcS_cons, e1]
        have hnn : Py.isNon (ptD x) = false := rfl
        rw [hnn] at e3
        simp -implicitDefEqProofs only [Option.bind_some, e3, Bool.not_false, if_true, e4, h1, Option.map_some, List.map_cons]
      · rcases List.mem_cons.mp hy with rfl | hy
        · exact ⟨h3, h4⟩
        · exact h2 y hy
theorem point_ok (G : GOk n γ) (hsc : scalS μ = true) {r : List Pc} (h : FamR γ r) (hl : r.length ≤ 16000000) (hp : ∀ p ∈ r, p.length ≤ 16000000) : ∃ d, Py.run fs Γ (k + 10) f_point_in [regD n r] μ = some (d, μ) ∧ PtOk n d := by
  obtain ⟨d, h1, h2⟩ := r_point_in (k := k) G hsc h hl hp
  rcases h2 with ⟨_, rfl⟩ | ⟨x, rfl, h3, _, h5⟩
  · exact ⟨_, h1, .inl rfl⟩
  · exact ⟨_, h1, .inr ⟨x, rfl, h3, h5⟩⟩
theorem met_nil {a b : List Pc} (h : ∀ x : List Rat, x.length = n → inR a x = true → inR b x = false) : metR n a b = [] := by
  cases hm : metR n a b with
  | nil => rfl
  | cons p r =>
    obtain ⟨x, hx, hxp⟩ := neB_get (met_ne p (by rw [hm]; simp))
    have h1 : inR (metR n a b) x = true := inR_mem.mpr ⟨p, by rw [hm]; simp, hxp⟩
    rw [inR_met hx, Bool.and_eq_true] at h1
    rw [h x hx h1.1] at h1
    cases h1.2
theorem r_lall (G : GOk n γ) {one other : List Pc} (h1 : FamR γ one) (h2 : FamR γ other) (hl1 : one.length ≤ 3) (hl2 : other.length ≤ 2) (hp1 : ∀ p ∈ one, p.length ≤ 3) (hp2 : ∀ p ∈ other, p.length ≤ 3) (ns : List Int) (t : Int) (hd : DealOk ns t) (a : Nat) (ha : a < 50000) :
    ∃ a', Py.run fs Γ (k + 14) f__law_all [dealD ns t, regD n one, regD n other] (Sa a) = some (.bl true, Sa a') ∧ a ≤ a' ∧ a' ≤ a + 24 := by
  have hn2 := G.n2
  have hsc : ∀ a, scalS (Sa a) = true := fun a => scalS_Sa
  have s1 : sumL one ≤ 9 := by have := sumL_sub hp1 hl1; omega
  have s2 : sumL other ≤ 6 := by have := sumL_sub hp2 hl2; omega
  have hrr : ∀ (μ : Store) (r : List Pc), itsS μ (regD n r) = some [.int n, .tup (r.map bsD)] := fun _ _ => rfl
  have i0 : ∀ r : List Pc, atI [D.int n, .tup (r.map bsD)] 0 = some (.int n) := fun r => by simp [atI, ixN]
  have i1 : ∀ r : List Pc, atI [D.int n, .tup (r.map bsD)] 1 = some (.tup (r.map bsD)) := fun r => by simp [atI, ixN]
  -- the regions
  have gj := r_joined (k := k + 12) (μ := Sa a) (n := n) (a := one) (b := other) (by omega)
  have gm := r_met (k := k + 3) (μ := Sa a) G h1 h2 hp1 hp2 (by omega) (by have := Nat.mul_le_mul hl1 hl2; omega) (by omega) (by omega)
  have gt := r_taken (k := k + 2) (μ := Sa a) G h1 h2 hp1 (by omega) (cnt_le G (by omega)) (by omega)
  have go := r_turned_out (k := k + 1) (μ := Sa a) G h1 (by omega) (by omega)
  have fj := FamR.app h1 h2
  have fm := met_fam (n := n) h1 h2
  have ft := taken_fam (n := n) h1 h2
  have fo := out_fam (n := n) h1
  have cm : (metR n one other).length ≤ 6 := Nat.le_trans met_count (Nat.mul_le_mul hl1 hl2)
  have ct : (takenR n one other).length ≤ 27 := by
    refine Nat.le_trans (taken_pow hp2) ?_
    have : 3 ^ other.length ≤ 3 ^ 2 := Nat.pow_le_pow_right (by decide) hl2
    exact Nat.le_trans (Nat.mul_le_mul hl1 this) (by decide)
  have co : (outR n one).length ≤ 27 := by
    unfold outR
    refine Nat.le_trans (taken_pow hp1) ?_
    have : 3 ^ one.length ≤ 3 ^ 3 := Nat.pow_le_pow_right (by decide) hl1
    simp only [List.length_singleton, Nat.one_mul]
    exact this
  have pm : ∀ p ∈ metR n one other, p.length ≤ 6 := met_plen hp1 hp2
  have pt : ∀ p ∈ takenR n one other, p.length ≤ 9 := fun p hp => Nat.le_trans (taken_plen hp1 p hp) (by omega)
  have po : ∀ p ∈ outR n one, p.length ≤ 9 := fun p hp => Nat.le_trans (taken_plen (L := 0) (fun p hp => by rw [List.mem_singleton] at hp; simp [hp]) p hp) (by omega)
  have e1 := r_lfilled (k := k + 3) (μ := Sa a) G (hsc a) fm (by omega) (fun p hp => by have := pm p hp; omega) met_ne
  have e2 := r_lfilled (k := k + 3) (μ := Sa a) G (hsc a) ft (by omega) (fun p hp => by have := pt p hp; omega) taken_ne
  have e3 := r_lfilled (k := k + 3) (μ := Sa a) G (hsc a) fo (by omega) (fun p hp => by have := po p hp; omega) taken_ne
  have lm := r_lmet (k := k + 3) (μ := Sa a) G (hsc a) h1 h2 hp1 hp2 (by omega) (by have := Nat.mul_le_mul hl1 hl2; omega) (by omega) (by omega)
  have lt := r_ltaken (k := k + 3) (μ := Sa a) G (hsc a) h1 h2 hp1 (by omega) (cnt_le G (by omega)) (by omega)
  have lt' := r_ltaken (k := k + 3) (μ := Sa a) G (hsc a) h2 h1 hp2 (by omega) (cnt_le G (by omega)) (by omega)
  have lo := r_ltaken (k := k + 3) (μ := Sa a) (a := [[]]) (L := 0) G (hsc a) all_fam h1 (fun p hp => by rw [List.mem_singleton] at hp; simp [hp]) (by omega) (one_count G _) (by omega)
  have sm := r_sameR (k := k + 6) (μ := Sa a) G fm (by omega) (fun p hp => by have := pm p hp; omega)
  have st := r_sameR (k := k + 6) (μ := Sa a) G ft (by omega) (fun p hp => by have := pt p hp; omega)
  have so := r_sameR (k := k + 6) (μ := Sa a) G fo (by omega) (fun p hp => by have := po p hp; omega)
  have gs := r_same_reg (k := k) (μ := Sa a) G h1 h2 hp1 hp2 (by omega) (by omega) (cnt_le G (by omega)) (cnt_le G (by omega))
  have hsame : (covR n one other && covR n other one) = decide ((((takenR n one other).length : Int) + ((takenR n other one).length : Int)) = 0) := by
    unfold covR
    cases takenR n one other with
    | nil => cases takenR n other one with
      | nil => rfl
      | cons p r => simp; omega
    | cons p r => simp; omega
  -- the points
  obtain ⟨xs, a1, gp, b1, b2, l2, hxs⟩ := r_points (k := k + 10) ns t hd n hn2 a (by omega)
  obtain ⟨d1, q1, w1⟩ := point_ok (k := k + 3) (μ := Sa a1) G (hsc a1) h1 (by omega) (fun p hp => by have := hp1 p hp; omega)
  obtain ⟨d2, q2, w2⟩ := point_ok (k := k + 3) (μ := Sa a1) G (hsc a1) h2 (by omega) (fun p hp => by have := hp2 p hp; omega)
  obtain ⟨d3, q3, w3⟩ := point_ok (k := k + 3) (μ := Sa a1) G (hsc a1) ft (by omega) (fun p hp => by have := pt p hp; omega)
  obtain ⟨d4, q4, w4⟩ := point_ok (k := k + 3) (μ := Sa a1) G (hsc a1) fo (by omega) (fun p hp => by have := po p hp; omega)
  refine ⟨a1, ?_, b1, b2⟩
  generalize hOut : outR n one = out at *
  generalize hTk : takenR n one other = left at *
  generalize hMt : metR n one other = common at *
  have lo' : Py.run fs Γ (k + 3 + 10) f__law_taken [.tup [.int n, .tup [.tup []]], regD n one] (Sa a) = some (regD n out, Sa a) := by
    rw [← hOut]; exact lo
  generalize hsm : decide ((((left.length : Int)) + ((takenR n other one).length : Int)) = 0) = same at *
  have bs := r_lbool (k := k + 12) (μ := Sa a) same same
  simp only [decide_true] at bs
  have hsm' : ∀ i : Decidable (((left.length : Int)) + ((takenR n other one).length : Int) = 0), @decide _ i = same := fun i => by
    rw [← hsm]
    by_cases z : ((left.length : Int)) + ((takenR n other one).length : Int) = 0
    · simp [z]
    · simp [z]
  obtain ⟨ys, gk, l1, hys⟩ := keep_points (n := n) (μ := Sa a1) (Φ := Py.run fs Γ (k + 13)) (vs := []) [d1, d2, d3, d4] [some (.val (dealD ns t)), some (.val (regD n one)), some (.val (regD n other)), some (.val (.int n)), some (.val (regD n (one ++ other))), some (.val (regD n common)), some (.val (regD n left)), some (.val (regD n out)), some (.val (.bl same)), none, none, none, none]
    (fun d hd => by
      simp only [List.mem_cons, List.not_mem_nil, or_false] at hd
      rcases hd with rfl | rfl | rfl | rfl <;> assumption) (fun d => ⟨[some (.val (dealD ns t)), some (.val (regD n one)), some (.val (regD n other)), some (.val (.int n)), some (.val (regD n (one ++ other))), some (.val (regD n common)), some (.val (regD n left)), some (.val (regD n out)), some (.val (.bl same)), none, some (.val d), none, none], by simp, rfl⟩)
  have hck : ev (Py.run fs Γ (k + 13)) Γ c1__law_all [some (.val (dealD ns t)), some (.val (regD n one)), some (.val (regD n other)), some (.val (.int n)), some (.val (regD n (one ++ other))), some (.val (regD n common)), some (.val (regD n left)), some (.val (regD n out)), some (.val (.bl same)), none, none, none, none] (Sa a1) = some (.lst (ys.map ptD), Sa a1) := by
    rw [c1__law_all, ev_lc]
    simp -implicitDefEqProofs [q1, q2, q3, q4, szle]
    simp -implicitDefEqProofs at gk
    simp -implicitDefEqProofs [gk]
  have hpts : ∀ x ∈ xs ++ ys, x.length = n ∧ ∀ b ∈ x, Sz PS b := fun x hx => by
    rcases List.mem_append.mp hx with hx | hx
    · exact hxs x hx
    · exact hys x hx
  have hloop : ∀ (l : List (List Rat)) (x9 x10 x11 x12 : Option SV), (∀ x ∈ l, x.length = n ∧ ∀ b ∈ x, Sz PS b) → ∃ y10 y11 y12, forS (T.nm 10) (fun env' μ' => exs (Py.run fs Γ (k + 13)) Γ l1__law_all env' μ') (l.map ptD) [some (.val (dealD ns t)), some (.val (regD n one)), some (.val (regD n other)), some (.val (.int n)), some (.val (regD n (one ++ other))), some (.val (regD n common)), some (.val (regD n left)), some (.val (regD n out)), some (.val (.bl same)), x9, x10, x11, x12] (Sa a1) =
      some (.nx [some (.val (dealD ns t)), some (.val (regD n one)), some (.val (regD n other)), some (.val (.int n)), some (.val (regD n (one ++ other))), some (.val (regD n common)), some (.val (regD n left)), some (.val (regD n out)), some (.val (.bl same)), x9, y10, y11, y12] (Sa a1)) := by
    intro l
    induction l with
    | nil => intro x9 x10 x11 x12 _; exact ⟨x10, x11, x12, rfl⟩
    | cons x l ih =>
      intro x9 x10 x11 x12 hl
      obtain ⟨hx, hs⟩ := hl x (by simp)
      obtain ⟨y10, y11, y12, e⟩ := ih x9 (some (.val (ptD x))) (some (.val (.bl (inR one x)))) (some (.val (.bl (inR other x)))) (fun y hy => hl y (by simp [hy]))
      refine ⟨y10, y11, y12, ?_⟩
      have m1 := r_lin (k := k + 7) (μ := Sa a1) G h1 (by omega) (fun p hp => by have := hp1 p hp; omega) hx hs
      have m2 := r_lin (k := k + 7) (μ := Sa a1) G h2 (by omega) (fun p hp => by have := hp2 p hp; omega) hx hs
      have m3 := r_lin (k := k + 7) (μ := Sa a1) G fj (by rw [List.length_append]; omega) (fun p hp => by
        rcases List.mem_append.mp hp with hp | hp
        · have := hp1 p hp; omega
        · have := hp2 p hp; omega) hx hs
      have m4 := r_lin (k := k + 7) (μ := Sa a1) G fm (by omega) (fun p hp => by have := pm p hp; omega) hx hs
      have m5 := r_lin (k := k + 7) (μ := Sa a1) G ft (by omega) (fun p hp => by have := pt p hp; omega) hx hs
      have m6 := r_lin (k := k + 7) (μ := Sa a1) G fo (by omega) (fun p hp => by have := po p hp; omega) hx hs
      have m7 := r_has (k := k + 4) (μ := Sa a1) G h1 (by omega) (fun p hp => by have := hp1 p hp; omega) hx hs
      rw [inR_app] at m3
      rw [← hMt, inR_met hx, hMt] at m4
      rw [← hTk, inR_taken hx, hTk] at m5
      rw [← hOut, inR_out hx, hOut] at m6
      have bb := fun b : Bool => r_lbool (k := k + 12) (μ := Sa a1) b b
      simp only [decide_true] at bb
      rw [List.map_cons, forS_go (env1 := [some (.val (dealD ns t)), some (.val (regD n one)), some (.val (regD n other)), some (.val (.int n)), some (.val (regD n (one ++ other))), some (.val (regD n common)), some (.val (regD n left)), some (.val (regD n out)), some (.val (.bl same)), x9, some (.val (ptD x)), x11, x12]) (env' := [some (.val (dealD ns t)), some (.val (regD n one)), some (.val (regD n other)), some (.val (.int n)), some (.val (regD n (one ++ other))), some (.val (regD n common)), some (.val (regD n left)), some (.val (regD n out)), some (.val (.bl same)), x9, some (.val (ptD x)), some (.val (.bl (inR one x))), some (.val (.bl (inR other x)))]) (μ' := Sa a1) (by simp) (by
        generalize inR one x = u at *
        generalize inR other x = v at *
        cases u <;> cases v <;> simp -implicitDefEqProofs [l1__law_all, m1, m2, m3, m4, m5, m6, m7, bb]), e]
  obtain ⟨y10, y11, y12, eL⟩ := hloop (xs ++ ys) (some (.val (.lst ((xs ++ ys).map ptD)))) none none none hpts
  have v1 : metR n left other = [] := met_nil fun x hx hi => by
    rw [← hTk, inR_taken hx, Bool.and_eq_true, Bool.not_eq_true'] at hi
    exact hi.2
  have v2 : metR n out one = [] := met_nil fun x hx hi => by
    rw [← hOut, inR_out hx, Bool.not_eq_true'] at hi
    exact hi
  have z1 := r_met (k := k + 3) (μ := Sa a1) G ft h2 pt hp2 (by omega) (by have := Nat.mul_le_mul ct hl2; omega) (by omega) (by omega)
  have z2 := r_met (k := k + 3) (μ := Sa a1) G fo h1 po hp1 (by omega) (by have := Nat.mul_le_mul co hl1; omega) (by omega) (by omega)
  rw [v1] at z1
  rw [v2] at z2
  have z3 := r_is_void (k := k + 3) (μ := Sa a1) (r := []) G (fun p hp => by cases hp) (by simp) (fun p hp => by cases hp)
  have z4 : (([] : List Pc).all fun p => !neB n p) = true := rfl
  rw [z4] at z3
  have hxl : xs.length + ys.length ≤ SZ := by
    simp only [List.length_cons, List.length_nil] at l1
    unfold SZ; omega
  rw [u__law_all, b__law_all]
  rw [hsame] at gs
  simp -implicitDefEqProofs [hrr, i0, i1, gj, gm, gt, go, e1, e2, e3, lm, lt, lt', lo', sm, st, so, gs, hsm', bs, gp, hck, hxl, ex_for, z1, z2, z3, szle]
  rw [List.map_append] at eL
  simp -implicitDefEqProofs [eL, z1, z2, z3]
end
end P1
end
section
set_option Elab.async false
set_option linter.all false
set_option maxRecDepth 100000
set_option maxHeartbeats 0
namespace P1
open PySem L2 Py Geo FM
theorem sumL_flat (r : List Pc) : r.flatten.length = sumL r := by unfold sumL; rw [List.length_flatten]
section
variable {k n : Nat} {μ : Store} {γ : List Bd}
theorem fam_flat {r s : List Pc} (h : ∀ p ∈ r, p ∈ s) : FamR s.flatten r := fun p hp B hB => .inl (List.mem_flatten.mpr ⟨p, h p hp, hB⟩)
theorem gok_flat {r : List Pc} (h0 : 0 < n) (h2 : n ≤ 2) (hl : sumL r ≤ 15) (h : ∀ p ∈ r, ∀ B ∈ p, BGood n B) : GOk n r.flatten := ⟨h0, h2, by rw [sumL_flat]; exact hl, fun C hC => by
  obtain ⟨p, hp, hB⟩ := List.mem_flatten.mp hC
  exact h p hp C hB⟩
theorem r_empty_rightP (G : GOk n γ) {p : Pc} (h : FamP γ p) (hl : p.length ≤ 3) : ∃ d, Py.run fs Γ (k + 9) f_empty_paper [polyD n p] μ = some (d, μ) ∧ ((neB n p = true ∧ d = .non) ∨ (neB n p = false ∧ Py.isNon d = false ∧ Py.run fs Γ (k + 9) f__law_empty_right [polyD n p, d] μ = some (.bl true, μ))) := by
  have hn2 := G.n2
  obtain ⟨d, e, e1⟩ := r_empty_paper (k := k) (μ := μ) n p 3 30 (fun B hB => G.rok (h B hB)) (by omega) (by decide) (by decide) G.b2 G.l2 (by omega) (by omega)
  refine ⟨d, e, ?_⟩
  rcases e1 with ⟨h1, h2⟩ | ⟨R, rfl, h1, h2, h3, h4, h5⟩
  · exact .inl ⟨neB_iff.mpr h1, h2⟩
  · have hw : ∀ a ∈ R.w, Sz 1570 a := fun a ha => (h2.1.2.2 a ha).mono (by
      rcases G.cases with rfl | rfl <;> decide)
    obtain ⟨w1, w2⟩ := wok_against h1 h3 h4
    refine .inr ⟨?_, rfl, r_lempty (k := k + 5) G h hl R.w hw h3.len h3.pos w1 w2⟩
    cases hn : neB n p with
    | false => rfl
    | true => exact absurd (neB_iff.mp hn) h5
theorem exs_app {Φ : FnS} : ∀ {l m : List S} {env env' : Py.Env} {μ μ' : Store}, exs Φ Γ l env μ = some (.nx env' μ') → exs Φ Γ (l ++ m) env μ = exs Φ Γ m env' μ'
  | [], m, env, env', μ, μ', h => by rw [exs] at h; cases h; rfl
  | s :: l, m, env, env', μ, μ', h => by
    rw [List.cons_append, exs]
    rw [exs] at h
    obtain ⟨fl, h1, h2⟩ := Option.bind_eq_some_iff.mp h
    rw [h1, Option.bind_some]
    cases fl with
    | nx e m' => exact exs_app h2
    | rt d m' => cases h2
    | bk e m' => cases h2
    | ct e m' => cases h2
theorem law_loop (G : GOk n γ) (hsc : scalS μ = true) {one : List Pc} (h1 : FamR γ one) (hl1 : one.length ≤ 3) (hp1 : ∀ p ∈ one, p.length ≤ 3) (x0 x1 x2 x4 : Option SV) : ∀ (l : List Pc) (x5 x6 x7 : Option SV), (∀ p ∈ l, p ∈ one) →
    ∃ y5 y6 y7, forS (T.nm 5) (fun env' μ' => exs (Py.run fs Γ (k + 14)) Γ l1_law env' μ') (l.map (polyD n)) [x0, x1, x2, some (.val (regD n one)), x4, x5, x6, x7] μ = some (.nx [x0, x1, x2, some (.val (regD n one)), x4, y5, y6, y7] μ)
  | [], x5, x6, x7, _ => ⟨x5, x6, x7, rfl⟩
  | p :: l, x5, x6, x7, hl => by
    have hp := hl p (by simp)
    have s1 : sumL one ≤ 9 := by have := sumL_sub hp1 hl1; omega
    have gr := r_region_of (k := k + 13) (n := n) (μ := μ) p
    have gc := r_is_covered (k := k + 2) (μ := μ) (a := [p]) (b := one) (L := 3) G (fun q hq => by rw [List.mem_singleton] at hq; rw [hq]; exact h1 p hp) h1 (fun q hq => by rw [List.mem_singleton] at hq; rw [hq]; exact hp1 p hp) (by omega) (one_count G _) (by omega)
    have cv : covR n [p] one = true := covR_iff.mpr fun x hx hi => by
      obtain ⟨q, hq, hqx⟩ := inR_mem.mp hi
      rw [List.mem_singleton] at hq
      exact inR_mem.mpr ⟨p, hp, by rw [← hq]; exact hqx⟩
    rw [cv] at gc
    have hpl := hp1 p hp
    obtain ⟨d, gp, gp2⟩ := e_point (k := k + 5) G hsc (h1 p hp) (by omega)
    obtain ⟨d', ge, ge2⟩ := r_empty_rightP (k := k + 5) (μ := μ) G (h1 p hp) hpl
    obtain ⟨y5, y6, y7, e⟩ := law_loop G hsc h1 hl1 hp1 x0 x1 x2 x4 l (some (.val (polyD n p))) (some (.val d)) (some (.val d')) (fun q hq => hl q (by simp [hq]))
    refine ⟨y5, y6, y7, ?_⟩
    rw [List.map_cons, forS_go (env1 := [x0, x1, x2, some (.val (regD n one)), x4, some (.val (polyD n p)), x6, x7]) (env' := [x0, x1, x2, some (.val (regD n one)), x4, some (.val (polyD n p)), some (.val d), some (.val d')]) (μ' := μ) (by simp) (by
      rcases gp2 with ⟨q1, rfl⟩ | ⟨x, rfl, q2, q3, _⟩
      · rcases ge2 with ⟨w1, _⟩ | ⟨w1, w2, w3⟩
        · rw [q1] at w1; cases w1
        · simp -implicitDefEqProofs [l1_law, gr, gc, gp, ge, w2, w3]
      · rcases ge2 with ⟨w1, rfl⟩ | ⟨w1, _⟩
        · have hnn : Py.isNon (ptD x) = false := rfl
          simp -implicitDefEqProofs [l1_law, gr, gc, gp, ge, hnn]
        · rw [neB_of q2 q3] at w1; cases w1), e]
theorem law_tail (ms : List Int) (ns : List Int) (t : Int) (hd : DealOk ns t) (h0 : 0 < n) (h2 : n ≤ 2) {one other : List Pc} (hl1 : one.length ≤ 3) (hl2 : other.length ≤ 2) (hp1 : ∀ p ∈ one, p.length ≤ 3 ∧ ∀ B ∈ p, BGood n B) (hp2 : ∀ p ∈ other, p.length ≤ 3 ∧ ∀ B ∈ p, BGood n B) (a : Nat) (ha : a < 50000) :
    ∃ μ', fin ((exs (Py.run fs Γ (k + 14)) Γ (b_law.drop 4) [some (.val (.scr (ms.map D.int))), some (.val (dealD ns t)), some (.val (.int n)), some (.val (regD n one)), some (.val (regD n other)), none, none, none] (Sa a))) = some (.bl true, μ') := by
  have q1 : ∀ p ∈ one, p.length ≤ 3 := fun p hp => (hp1 p hp).1
  have q2 : ∀ p ∈ other, p.length ≤ 3 := fun p hp => (hp2 p hp).1
  have s1 : sumL one ≤ 9 := by have := sumL_sub q1 hl1; omega
  have s2 : sumL other ≤ 6 := by have := sumL_sub q2 hl2; omega
  have G : GOk n (one ++ other).flatten := gok_flat h0 h2 (by rw [sumL_app]; omega) fun p hp => by
    rcases List.mem_append.mp hp with hp | hp
    · exact (hp1 p hp).2
    · exact (hp2 p hp).2
  have f1 : FamR (one ++ other).flatten one := fam_flat fun p hp => List.mem_append_left _ hp
  have f2 : FamR (one ++ other).flatten other := fam_flat fun p hp => List.mem_append_right _ hp
  have G1 : GOk n one.flatten := gok_flat h0 h2 (by omega) fun p hp => (hp1 p hp).2
  have f0 : FamR one.flatten one := fam_flat fun p hp => hp
  have hG1 : one.flatten.length ≤ 9 := by rw [sumL_flat]; exact s1
  have hpow : 2 ^ one.flatten.length ≤ 512 := Nat.le_trans (Nat.pow_le_pow_right (by decide) hG1) (by decide)
  obtain ⟨a', e1, b1, b2⟩ := r_lall (k := k) G f1 f2 hl1 hl2 q1 q2 ns t hd a ha
  have hsc : scalS (Sa a') = true := scalS_Sa
  generalize hμ : Sa a' = μ at *
  have fm := met_fam (n := n) f1 f2
  have ft := taken_fam (n := n) f1 f2
  have cm : (metR n one other).length ≤ 6 := Nat.le_trans met_count (Nat.mul_le_mul hl1 hl2)
  have ct : (takenR n one other).length ≤ 27 := by
    refine Nat.le_trans (taken_pow q2) ?_
    have : 3 ^ other.length ≤ 3 ^ 2 := Nat.pow_le_pow_right (by decide) hl2
    exact Nat.le_trans (Nat.mul_le_mul hl1 this) (by decide)
  have pm : ∀ p ∈ metR n one other, p.length ≤ 6 := met_plen q1 q2
  have pt : ∀ p ∈ takenR n one other, p.length ≤ 9 := fun p hp => Nat.le_trans (taken_plen q1 p hp) (by omega)
  have e2 := r_lcovers (k := k + 1) (μ := μ) G hsc f1 f2 q1 (fun p hp => by have := q2 p hp; omega) (by omega) (by omega) (by omega)
  have e3 := r_met (k := k + 4) (μ := μ) G f1 f2 q1 q2 (by omega) (by have := Nat.mul_le_mul hl1 hl2; omega) (by omega) (by omega)
  have e4 := r_lcovers (k := k + 1) (μ := μ) G hsc fm f1 pm (fun p hp => by have := q1 p hp; omega) (by omega) (by omega) (by omega)
  have e5 := r_lleast (k := k) (μ := μ) G hsc f1 hl1 q1
  have e6 := r_joined (k := k + 13) (μ := μ) (n := n) (a := other) (b := one) (by omega)
  have e7 := r_is_covered (k := k + 2) (μ := μ) G f1 (FamR.app f2 f1) q1 (by rw [sumL_app]; omega) (cnt_le G (by omega)) (by rw [List.length_append]; omega)
  have c7 : covR n one (other ++ one) = true := covR_iff.mpr fun x hx hi => by rw [inR_app, hi, Bool.or_true]
  rw [c7] at e7
  have e8 := r_taken (k := k + 3) (μ := μ) G f1 f2 q1 (by omega) (cnt_le G (by omega)) (by omega)
  have e9 := r_joined (k := k + 13) (μ := μ) (n := n) (a := metR n one other) (b := takenR n one other) (by omega)
  have pj : ∀ p ∈ metR n one other ++ takenR n one other, p.length ≤ 9 := fun p hp => by
    rcases List.mem_append.mp hp with hp | hp
    · have := pm p hp; omega
    · exact pt p hp
  have hjl : (metR n one other ++ takenR n one other).length ≤ 33 := by rw [List.length_append]; omega
  have hjs := sumL_sub pj hjl
  have e10 := r_same_reg (k := k + 1) (μ := μ) G (FamR.app fm ft) f1 pj q1 (by omega) (by omega) (cnt_le G (by omega)) (cnt_le G (by omega))
  have c10 : covR n (metR n one other ++ takenR n one other) one = true := covR_iff.mpr fun x hx hi => by
    rw [inR_app, inR_met hx, inR_taken hx] at hi
    cases h : inR one x with
    | true => rfl
    | false => rw [h] at hi; simp at hi
  have c11 : covR n one (metR n one other ++ takenR n one other) = true := covR_iff.mpr fun x hx hi => by
    rw [inR_app, inR_met hx, inR_taken hx, hi]
    cases inR other x <;> rfl
  rw [c10, c11] at e10
  have e11 := r_everywhere (k := k + 13) (n := n) (μ := μ)
  have e12 := r_nothing (k := k + 13) (n := n) (μ := μ)
  have e13 := r_sameR (k := k + 7) (μ := μ) (r := [[]]) G all_fam (by simp) (fun p hp => by rw [List.mem_singleton] at hp; simp [hp])
  have e14 := r_sameR (k := k + 7) (μ := μ) (r := []) G (fun p hp => by cases hp) (by simp) (fun p hp => by cases hp)
  rw [show regD n [[]] = .tup [.int n, .tup [.tup []]] from rfl] at e13 e11
  rw [show regD n [] = .tup [.int n, .tup []] from rfl] at e14 e12
  have e15 := r_is_covered (k := k + 2) (μ := μ) (a := []) (b := one) (L := 0) G (fun p hp => by cases hp) f1 (fun p hp => by cases hp) (by omega) (by simp) (by omega)
  have c15 : covR n [] one = true := covR_iff.mpr fun x hx hi => by simp [inR] at hi
  rw [c15, show regD n [] = .tup [.int n, .tup []] from rfl] at e15
  have e16 := r_polyhedra_of (k := k + 13) (n := n) (μ := μ) (r := one) (by omega)
  obtain ⟨y5, y6, y7, e17⟩ := law_loop (k := k) (μ := μ) G hsc f1 hl1 q1 (some (.val (.scr (ms.map D.int)))) (some (.val (dealD ns t))) (some (.val (.int n))) (some (.val (regD n other))) one none none none (fun p hp => hp)
  -- turned out twice
  have t1 := r_turned_out (k := k + 2) (μ := μ) G1 f0 (by omega) (by omega)
  have fo := out_fam (n := n) f0
  have co : (outR n one).length ≤ 27 := by
    unfold outR
    refine Nat.le_trans (taken_pow q1) ?_
    have : 3 ^ one.length ≤ 3 ^ 3 := Nat.pow_le_pow_right (by decide) hl1
    simp only [List.length_singleton, Nat.one_mul]
    exact this
  have po : ∀ p ∈ outR n one, p.length ≤ 9 := fun p hp => Nat.le_trans (taken_plen (L := 0) (fun p hp => by rw [List.mem_singleton] at hp; simp [hp]) p hp) (by omega)
  have so := sumL_sub po co
  have t2 := r_turned_out (k := k + 2) (μ := μ) G1 fo (by omega) (by omega)
  have ftt := out_fam (n := n) fo
  have ctt : (outR n (outR n one)).length ≤ 512 := by
    have := taken_count (n := n) (a := [[]]) all_fam fo
    unfold outR at this ⊢
    simp only [List.length_singleton, Nat.one_mul] at this
    omega
  have ptt : ∀ p ∈ outR n (outR n one), p.length ≤ 243 := fun p hp => Nat.le_trans (taken_plen (L := 0) (fun p hp => by rw [List.mem_singleton] at hp; simp [hp]) p hp) (by omega)
  have stt := sumL_sub ptt ctt
  have hcc : (outR n (outR n one)).length * 2 ^ one.flatten.length ≤ 512 * 512 := Nat.mul_le_mul ctt hpow
  have hcc' : one.length * 2 ^ one.flatten.length ≤ 3 * 512 := Nat.mul_le_mul hl1 hpow
  have t3 := r_same_reg (k := k + 1) (μ := μ) G1 ftt f0 ptt q1 (by omega) (by omega) (by omega) (by omega)
  have tt : ∀ x : List Rat, x.length = n → inR (outR n (outR n one)) x = inR one x := fun x hx => by rw [inR_out hx, inR_out hx, Bool.not_not]
  have ct1 : covR n (outR n (outR n one)) one = true := covR_iff.mpr fun x hx hi => by rwa [tt x hx] at hi
  have ct2 : covR n one (outR n (outR n one)) = true := covR_iff.mpr fun x hx hi => by rwa [tt x hx]
  rw [ct1, ct2] at t3
  refine ⟨μ, ?_⟩
  simp only [Bool.and_self] at e10 t3
  simp -implicitDefEqProofs [b_law, e1, e2, e3, e4, e5, e6, e7, e8, e9, e10, e11, e12, e13, e14, e15, e16, ex_for, e17, t1, t2, t3, szle]
theorem law_core (ms : List Int) (h : ms.length ≤ 63) : ∃ μ', Py.run fs Γ (k + 15) f_law [.scr (ms.map D.int)] [] = some (.bl true, μ') := by
  obtain ⟨ns, t, hd, e1⟩ := r_deal (k := k + 13) ms h
  obtain ⟨r, b1, b2, e2⟩ := r_take (k := k + 13) (a := 0) ns t 3 hd (by decide) (by decide)
  rw [u_law]
  have hsplit : b_law = b_law.take 4 ++ b_law.drop 4 := rfl
  have key : ∀ (n P : Nat), 0 < n → n ≤ 2 → P ≤ 3 → (1 + (if r = 0 then 1 else 0) : Int) = n → (if (n : Int) = 1 then (3 : Int) else 2) = P → ∃ μ', fin (exs (Py.run fs Γ (k + 14)) Γ b_law [some (.val (.scr (ms.map D.int))), none, none, none, none, none, none, none] []) = some (.bl true, μ') := by
    intro n P h0 h2 hP hn hPn
    obtain ⟨one, a1, e3, c1, c2, g1⟩ := r_region (k := k + 10) ns t hd n P P h2 hP hP 1 (by decide)
    obtain ⟨other, a2, e4, c3, c4, g2⟩ := r_region (k := k + 10) ns t hd n 2 P h2 (by decide) hP a1 (by omega)
    obtain ⟨μ', e5⟩ := law_tail (k := k) ms ns t hd h0 h2 (by have := g1.1; omega : one.length ≤ 3) g2.1 (fun p hp => ⟨by have := (g1.2 p hp).1; omega, (g1.2 p hp).2⟩) (fun p hp => ⟨by have := (g2.2 p hp).1; omega, (g2.2 p hp).2⟩) a2 (by omega)
    refine ⟨μ', ?_⟩
    rw [← e5, hsplit]
    have hpre : exs (Py.run fs Γ (k + 14)) Γ (b_law.take 4) [some (.val (.scr (ms.map D.int))), none, none, none, none, none, none, none] [] = some (.nx [some (.val (.scr (ms.map D.int))), some (.val (dealD ns t)), some (.val (.int n)), some (.val (regD n one)), some (.val (regD n other)), none, none, none] (Sa a2)) := by
      have hs0 : ([[D.int 0]] : Store) = Sa 0 := rfl
      rw [hs0] at e1
      rw [show (0 + 1 : Nat) = 1 from rfl] at e2
      have hPi : ∀ {α : Type} (x y : α), (if (n : Int) = 1 then x else y) = if n = 1 then x else y := fun x y => by
        by_cases c : n = 1
        · rw [if_pos c, if_pos (by omega)]
        · rw [if_neg c, if_neg (by omega)]
      rw [show ((2 : Nat) : Int) = 2 from rfl] at e4
      by_cases c : r = 0
      · rw [if_pos c] at hn
        have hn2 : n = 2 := by omega
        subst hn2
        have hP2 : P = 2 := by simp at hPn; omega
        subst hP2
        have e3' : Py.run fs Γ (k + 10 + 4) f__law_region [dealD ns t, .int 2, .int 2, .int 2] (Sa 1) = some (regD 2 one, Sa a1) := e3
        have e4' : Py.run fs Γ (k + 10 + 4) f__law_region [dealD ns t, .int 2, .int 2, .int 2] (Sa a1) = some (regD 2 other, Sa a2) := e4
        simp -implicitDefEqProofs [b_law, e1, e2, c, e3', e4']
      · rw [if_neg c] at hn
        have hn1 : n = 1 := by omega
        subst hn1
        have hP3 : P = 3 := by simp at hPn; omega
        subst hP3
        have e3' : Py.run fs Γ (k + 10 + 4) f__law_region [dealD ns t, .int 1, .int 3, .int 3] (Sa 1) = some (regD 1 one, Sa a1) := e3
        have e4' : Py.run fs Γ (k + 10 + 4) f__law_region [dealD ns t, .int 1, .int 2, .int 3] (Sa a1) = some (regD 1 other, Sa a2) := e4
        simp -implicitDefEqProofs [b_law, e1, e2, c, e3', e4']
    rw [exs_app hpre]
    rfl
  by_cases c : r = 0
  · exact key 2 2 (by decide) (by decide) (by decide) (by rw [if_pos c]; rfl) rfl
  · exact key 1 3 (by decide) (by decide) (by decide) (by rw [if_neg c]; rfl) rfl
end
abbrev kk : Nat := 15
theorem law_true (ns : List Int) (h : ns.length ≤ 63) : ∃ μ', Py.run (pfs.map (·.fn)) Γ kk f_law [.scr (ns.map D.int)] [] = some (.bl true, μ') := law_core (k := 0) ns h
end P1
end
section
set_option Elab.async false
set_option linter.all false
set_option maxRecDepth 100000
set_option maxHeartbeats 0
namespace P1
open PySem L2 Py
theorem chk : pfs.all (fun p => p.ok (pfs.map (·.name)) gls) = true := by decide +kernel
theorem bnd_greatest_divisor : BindOk p_greatest_divisor := fun _ _ _ _ _ _ us hl => match us, hl with | [_, _], _ => rfl
theorem bnd_ratio : BindOk p_ratio := fun _ _ _ _ _ _ us hl => match us, hl with | [_, _], _ => rfl
theorem bnd_added : BindOk p_added := fun _ _ _ _ _ _ us hl => match us, hl with | [_, _], _ => rfl
theorem bnd_opposite : BindOk p_opposite := fun _ _ _ _ _ _ us hl => match us, hl with | [_], _ => rfl
theorem bnd_less : BindOk p_less := fun _ _ _ _ _ _ us hl => match us, hl with | [_, _], _ => rfl
theorem bnd_times : BindOk p_times := fun _ _ _ _ _ _ us hl => match us, hl with | [_, _], _ => rfl
theorem bnd_over : BindOk p_over := fun _ _ _ _ _ _ us hl => match us, hl with | [_, _], _ => rfl
theorem bnd_compare : BindOk p_compare := fun _ _ _ _ _ _ us hl => match us, hl with | [_, _], _ => rfl
theorem bnd_blended : BindOk p_blended := fun _ _ _ _ _ _ us hl => match us, hl with | [_, _], _ => rfl
theorem bnd_height : BindOk p_height := fun _ _ _ _ _ _ us hl => match us, hl with | [_, _], _ => rfl
theorem bnd_keeps : BindOk p_keeps := fun _ _ _ _ _ _ us hl => match us, hl with | [_, _], _ => rfl
theorem bnd_has_point : BindOk p_has_point := fun _ _ _ _ _ _ us hl => match us, hl with | [_, _], _ => rfl
theorem bnd_turned : BindOk p_turned := fun _ _ _ _ _ _ us hl => match us, hl with | [_], _ => rfl
theorem bnd_scaled : BindOk p_scaled := fun _ _ _ _ _ _ us hl => match us, hl with | [_, _], _ => rfl
theorem bnd_sum_of : BindOk p_sum_of := fun _ _ _ _ _ _ us hl => match us, hl with | [_, _], _ => rfl
theorem bnd_evened_out : BindOk p_evened_out := fun _ _ _ _ _ _ us hl => match us, hl with | [_], _ => rfl
theorem bnd_says_nothing : BindOk p_says_nothing := fun _ _ _ _ _ _ us hl => match us, hl with | [_], _ => rfl
theorem bnd_is_against : BindOk p_is_against := fun _ _ _ _ _ _ us hl => match us, hl with | [_], _ => rfl
theorem bnd_binds_more : BindOk p_binds_more := fun _ _ _ _ _ _ us hl => match us, hl with | [_, _], _ => rfl
theorem bnd_strongest : BindOk p_strongest := fun _ _ _ _ _ _ us hl => match us, hl with | [_], _ => rfl
theorem bnd_without_quantity : BindOk p_without_quantity := fun _ _ _ _ _ _ us hl => match us, hl with | [_, _], _ => rfl
theorem bnd_cheapest : BindOk p_cheapest := fun _ _ _ _ _ _ us hl => match us, hl with | [_, _], _ => rfl
theorem bnd_rows_of : BindOk p_rows_of := fun _ _ _ _ _ _ us hl => match us, hl with | [_, _], _ => rfl
theorem bnd_stages : BindOk p_stages := fun _ _ _ _ _ _ us hl => match us, hl with | [_, _], _ => rfl
theorem bnd_is_empty : BindOk p_is_empty := fun _ _ _ _ _ _ us hl => match us, hl with | [_], _ => rfl
theorem bnd_empty_paper : BindOk p_empty_paper := fun _ _ _ _ _ _ us hl => match us, hl with | [_], _ => rfl
theorem bnd_worth_between : BindOk p_worth_between := fun _ _ _ _ _ _ us hl => match us, hl with | [_, _, _], _ => rfl
theorem bnd_point_paper : BindOk p_point_paper := fun _ _ _ _ _ _ us hl => match us, hl with | [_], _ => rfl
theorem bnd_impossible : BindOk p_impossible := fun _ _ _ _ _ _ us hl => match us, hl with | [_], _ => rfl
theorem bnd_lean : BindOk p_lean := fun _ _ _ _ _ _ us hl => match us, hl with | [_], _ => rfl
theorem bnd_without : BindOk p_without := fun _ _ _ _ _ _ us hl => match us, hl with | [_, _], _ => rfl
theorem bnd_region_of : BindOk p_region_of := fun _ _ _ _ _ _ us hl => match us, hl with | [_], _ => rfl
theorem bnd_nothing : BindOk p_nothing := fun _ _ _ _ _ _ us hl => match us, hl with | [_], _ => rfl
theorem bnd_everywhere : BindOk p_everywhere := fun _ _ _ _ _ _ us hl => match us, hl with | [_], _ => rfl
theorem bnd_polyhedra_of : BindOk p_polyhedra_of := fun _ _ _ _ _ _ us hl => match us, hl with | [_], _ => rfl
theorem bnd_has : BindOk p_has := fun _ _ _ _ _ _ us hl => match us, hl with | [_, _], _ => rfl
theorem bnd_is_void : BindOk p_is_void := fun _ _ _ _ _ _ us hl => match us, hl with | [_], _ => rfl
theorem bnd_point_in : BindOk p_point_in := fun _ _ _ _ _ _ us hl => match us, hl with | [_], _ => rfl
theorem bnd_joined : BindOk p_joined := fun _ _ _ _ _ _ us hl => match us, hl with | [_, _], _ => rfl
theorem bnd_met : BindOk p_met := fun _ _ _ _ _ _ us hl => match us, hl with | [_, _], _ => rfl
theorem bnd_taken_away : BindOk p_taken_away := fun _ _ _ _ _ _ us hl => match us, hl with | [_, _], _ => rfl
theorem bnd_turned_out : BindOk p_turned_out := fun _ _ _ _ _ _ us hl => match us, hl with | [_], _ => rfl
theorem bnd_is_covered : BindOk p_is_covered := fun _ _ _ _ _ _ us hl => match us, hl with | [_, _], _ => rfl
theorem bnd_are_same_regions : BindOk p_are_same_regions := fun _ _ _ _ _ _ us hl => match us, hl with | [_, _], _ => rfl
theorem bnd_least_region : BindOk p_least_region := fun _ _ _ _ _ _ us hl => match us, hl with | [_], _ => rfl
theorem bnd__law_deal : BindOk p__law_deal := fun _ _ _ _ _ _ us hl => match us, hl with | [_], _ => rfl
theorem bnd__law_take : BindOk p__law_take := fun _ _ _ _ _ _ us hl => match us, hl with | [_, _], _ => rfl
theorem bnd__law_same : BindOk p__law_same := fun _ _ _ _ _ _ us hl => match us, hl with | [_, _], _ => rfl
theorem bnd__law_bool : BindOk p__law_bool := fun _ _ _ _ _ _ us hl => match us, hl with | [_, _], _ => rfl
theorem bnd__law_ratio : BindOk p__law_ratio := fun _ _ _ _ _ _ us hl => match us, hl with | [_, _], _ => rfl
theorem bnd__law_plus : BindOk p__law_plus := fun _ _ _ _ _ _ us hl => match us, hl with | [_, _], _ => rfl
theorem bnd__law_mult : BindOk p__law_mult := fun _ _ _ _ _ _ us hl => match us, hl with | [_, _], _ => rfl
theorem bnd__law_sum : BindOk p__law_sum := fun _ _ _ _ _ _ us hl => match us, hl with | [_], _ => rfl
theorem bnd__law_height : BindOk p__law_height := fun _ _ _ _ _ _ us hl => match us, hl with | [_, _], _ => rfl
theorem bnd__law_keeps : BindOk p__law_keeps := fun _ _ _ _ _ _ us hl => match us, hl with | [_, _], _ => rfl
theorem bnd__law_has : BindOk p__law_has := fun _ _ _ _ _ _ us hl => match us, hl with | [_, _], _ => rfl
theorem bnd__law_empty_right : BindOk p__law_empty_right := fun _ _ _ _ _ _ us hl => match us, hl with | [_, _], _ => rfl
theorem bnd__law_small : BindOk p__law_small := fun _ _ _ _ _ _ us hl => match us, hl with | [_], _ => rfl
theorem bnd__law_bound : BindOk p__law_bound := fun _ _ _ _ _ _ us hl => match us, hl with | [_, _], _ => rfl
theorem bnd__law_region : BindOk p__law_region := fun _ _ _ _ _ _ us hl => match us, hl with | [_, _, _, _], _ => rfl
theorem bnd__law_in : BindOk p__law_in := fun _ _ _ _ _ _ us hl => match us, hl with | [_, _], _ => rfl
theorem bnd__law_points : BindOk p__law_points := fun _ _ _ _ _ _ us hl => match us, hl with | [_, _, _], _ => rfl
theorem bnd__law_filled : BindOk p__law_filled := fun _ _ _ _ _ _ us hl => match us, hl with | [_], _ => rfl
theorem bnd__law_all : BindOk p__law_all := fun _ _ _ _ _ _ us hl => match us, hl with | [_, _, _], _ => rfl
theorem bnd__law_covers : BindOk p__law_covers := fun _ _ _ _ _ _ us hl => match us, hl with | [_, _], _ => rfl
theorem bnd__law_turned : BindOk p__law_turned := fun _ _ _ _ _ _ us hl => match us, hl with | [_], _ => rfl
theorem bnd__law_met : BindOk p__law_met := fun _ _ _ _ _ _ us hl => match us, hl with | [_, _], _ => rfl
theorem bnd__law_taken : BindOk p__law_taken := fun _ _ _ _ _ _ us hl => match us, hl with | [_, _], _ => rfl
theorem bnd__law_lean : BindOk p__law_lean := fun _ _ _ _ _ _ us hl => match us, hl with | [_, _], _ => rfl
theorem bnd__law_slim : BindOk p__law_slim := fun _ _ _ _ _ _ us hl => match us, hl with | [_], _ => rfl
theorem bnd__law_least : BindOk p__law_least := fun _ _ _ _ _ _ us hl => match us, hl with | [_], _ => rfl
theorem bnd_law : BindOk p_law := fun _ _ _ _ _ _ us hl => match us, hl with | [_], _ => rfl
theorem bnd : ∀ p ∈ pfs, BindOk p := by
  intro p hp
  simp only [pfs, List.mem_cons, List.not_mem_nil, or_false] at hp
  rcases hp with rfl | rfl | rfl | rfl | rfl | rfl | rfl | rfl | rfl | rfl | rfl | rfl | rfl | rfl | rfl | rfl | rfl | rfl | rfl | rfl | rfl | rfl | rfl | rfl | rfl | rfl | rfl | rfl | rfl | rfl | rfl | rfl | rfl | rfl | rfl | rfl | rfl | rfl | rfl | rfl | rfl | rfl | rfl | rfl | rfl | rfl | rfl | rfl | rfl | rfl | rfl | rfl | rfl | rfl | rfl | rfl | rfl | rfl | rfl | rfl | rfl | rfl | rfl | rfl | rfl | rfl | rfl | rfl | rfl | rfl | rfl | rfl
  · exact bnd_greatest_divisor
  · exact bnd_ratio
  · exact bnd_added
  · exact bnd_opposite
  · exact bnd_less
  · exact bnd_times
  · exact bnd_over
  · exact bnd_compare
  · exact bnd_blended
  · exact bnd_height
  · exact bnd_keeps
  · exact bnd_has_point
  · exact bnd_turned
  · exact bnd_scaled
  · exact bnd_sum_of
  · exact bnd_evened_out
  · exact bnd_says_nothing
  · exact bnd_is_against
  · exact bnd_binds_more
  · exact bnd_strongest
  · exact bnd_without_quantity
  · exact bnd_cheapest
  · exact bnd_rows_of
  · exact bnd_stages
  · exact bnd_is_empty
  · exact bnd_empty_paper
  · exact bnd_worth_between
  · exact bnd_point_paper
  · exact bnd_impossible
  · exact bnd_lean
  · exact bnd_without
  · exact bnd_region_of
  · exact bnd_nothing
  · exact bnd_everywhere
  · exact bnd_polyhedra_of
  · exact bnd_has
  · exact bnd_is_void
  · exact bnd_point_in
  · exact bnd_joined
  · exact bnd_met
  · exact bnd_taken_away
  · exact bnd_turned_out
  · exact bnd_is_covered
  · exact bnd_are_same_regions
  · exact bnd_least_region
  · exact bnd__law_deal
  · exact bnd__law_take
  · exact bnd__law_same
  · exact bnd__law_bool
  · exact bnd__law_ratio
  · exact bnd__law_plus
  · exact bnd__law_mult
  · exact bnd__law_sum
  · exact bnd__law_height
  · exact bnd__law_keeps
  · exact bnd__law_has
  · exact bnd__law_empty_right
  · exact bnd__law_small
  · exact bnd__law_bound
  · exact bnd__law_region
  · exact bnd__law_in
  · exact bnd__law_points
  · exact bnd__law_filled
  · exact bnd__law_all
  · exact bnd__law_covers
  · exact bnd__law_turned
  · exact bnd__law_met
  · exact bnd__law_taken
  · exact bnd__law_lean
  · exact bnd__law_slim
  · exact bnd__law_least
  · exact bnd_law
abbrev R : PySem.W.OpenRow := PySem.W.OpenLaw.row PySem.Challenge.rw_surepilot_k01_whole_regions_are_sets
abbrev hk : PySem.W.Hook := hookC 2 (faOf pfs) (pfs.map dOf) (conB cons)
def ob (s : PySem.W.SharedT) : AlC := obsC 2 (faOf pfs) (pfs.map dOf) (conB cons) (HandSHeadRun.getT s)
theorem ob_eq (s : PySem.W.SharedT) : ob s = hk.obs s.abs := obsC_eq (HandSHeadRun.getT_eq s)
def loose0 : List Str := ["greatest_divisor", "ratio", "added", "opposite", "less", "times", "over", "compare", "blended", "height", "keeps", "has_point", "turned", "scaled", "sum_of", "evened_out", "says_nothing", "is_against", "binds_more", "strongest", "without_quantity", "cheapest", "rows_of", "stages", "is_empty", "empty_paper", "worth_between", "point_paper", "impossible", "lean"]
def loose1 : List Str := ["without", "region_of", "nothing", "everywhere", "polyhedra_of", "has", "is_void", "point_in", "joined", "met", "taken_away", "turned_out", "is_covered", "are_same_regions", "least_region", "_law_deal", "_law_take", "_law_same", "_law_bool", "_law_ratio", "_law_plus", "_law_mult", "_law_sum", "_law_height", "_law_keeps", "_law_has", "_law_empty_right", "_law_small", "_law_bound", "_law_region"]
def loose2 : List Str := ["_law_in", "_law_points", "_law_filled", "_law_all", "_law_covers", "_law_turned", "_law_met", "_law_taken", "_law_lean", "_law_slim", "_law_least", "NOTHING", "ONE"]
def loose : List Str := loose0 ++ loose1 ++ loose2
theorem run0 (w : World) : HandSHeadRun.RunEq R (PySem.W.view R.prog [79]) hk ob 8000 loose w := by
  intro os
  kernel_rfl
end P1
end
section
set_option Elab.async false
set_option linter.all false
set_option maxRecDepth 100000
set_option maxHeartbeats 0
open PySem PySem.W PySem.Calls PyProof.Rows
theorem PySem.Challenge.cw_surepilot_k01_whole_regions_are_sets_holds : PySem.Challenge.rw_surepilot_k01_whole_regions_are_sets.Holds := by
  w_on; o_law
  refine HandSHeadRun.head_any (r := OpenLaw.row PySem.Challenge.rw_surepilot_k01_whole_regions_are_sets) (q := view (OpenLaw.row PySem.Challenge.rw_surepilot_k01_whole_regions_are_sets).prog [79]) (H := P1.hk) (ob := P1.ob) (M := 8000) (loose := P1.loose) (d := HandSHeadRun.topDef (OpenLaw.row PySem.Challenge.rw_surepilot_k01_whole_regions_are_sets).prog 79) (kwd := []) P1.ob_eq
    (by kernel_rfl) (fun s => by kernel_rfl) P1.run0 (by kernel_rfl) (by kernel_rfl) (by kernel_rfl) (by rfl) (by first | assumption | decide +kernel) (by decide +kernel) ⟨rfl, rfl, rfl, rfl, rfl, by decide +kernel⟩ ?hw ?hc
  case hw => w_witness2
  case hc =>
    refine L2.walk_ofE (l := PySem.Challenge.rw_surepilot_k01_whole_regions_are_sets) (n := 63) (k := P1.kk) (x := "script") (CX := L2.CX0) rfl (by decide) (by kernel_rfl) ⟨rfl, by decide, by decide⟩ ?F (fun _ _ _ _ z => z)
    intro w mg fa h Y G hmg0
    obtain ⟨K, KX, c, cx⟩ := Y
    have hmg : mg (P1.p_law.name) = some (.ref fa) := by
      have e : (HandSHeadRun.topDef (OpenLaw.row PySem.Challenge.rw_surepilot_k01_whole_regions_are_sets).prog 79).name = P1.p_law.name := by kernel_rfl
      rw [← e]
      exact hmg0
    obtain ⟨fd, hb, hF⟩ := Py.law_ok (P := (PySem.Challenge.rw_surepilot_k01_whole_regions_are_sets).prog) (w := w) P1.pfs P1.gls P1.Γ P1.kk P1.f_law P1.p_law rfl rfl P1.chk P1.bnd (Py.hg_of KX G cx) KX G hmg c
    exact ⟨K, fd, _, KX, hb, fun H a ns hl _ hS => Py.law_sp P1.law_true H a ns hl hS, hF⟩
end
