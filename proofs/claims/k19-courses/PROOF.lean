import PyProof.Rows.All
import HandS.Dict
import HandS.Iter
import HandS.Conv
import KE.KDictKeyed
import KE.KDictCopyH
import KE.KDictWalk
import KE.KDictList
import HandS.Walk
import HandS.Zip
import KE.GoesEnum
import KE.GoesMore
import KE.DataMinMax
import HandS.Deep
import HandS.ForMost
import HandS.Defaults
import HandS.IsInst
import HandS.Flow
import HandS.Style
import HandS.Wide
import HandS.TupAny
import HandS.WideBits
import Wide.All
import OpenK.AllK
import Wide.FinOn
import KE.KStateDown
import HandS.Ends
import HandS.More
import HandS.Words
import HandS.WordsExc
import HandS.Head0
import HandS.Head1
import HandS.Head2
import HandS.HeadEnd
import HandS.HeadHook1
import HandS.HeadHook2
import PySem.Challenge.RW_surepilot_k19_whole_courses_and_where_le
section
set_option Elab.async false
set_option linter.all false
namespace Py
open PySem L2
/-! ### dicts whose keys are tuples of tuples -/
mutual
inductive NKey (K : PySem.W.Frag) (H : Hp) : NestedKey → V → Prop
  | none : NKey K H .none .non
  | num (i : Int) : NKey K H (.num i) (.int i)
  | text (x : Str) : NKey K H (.text x) (.str x)
  | tup {a : Addr} {vs : List V} {ks : List NestedKey} : SqT K H a vs → NKeys K H ks vs → NKey K H (.tup ks) (.ref a)
inductive NKeys (K : PySem.W.Frag) (H : Hp) : List NestedKey → List V → Prop
  | nil : NKeys K H [] []
  | cons {k : NestedKey} {v : V} {ks : List NestedKey} {vs : List V} : NKey K H k v → NKeys K H ks vs → NKeys K H (k :: ks) (v :: vs)
end
mutual
theorem NKey.is {X : Cx} {pins : List (Addr × Obj)} {σ : L2.St} {H : Hp} {s : Shared} (I : Inv X pins σ H s) : ∀ (k : NestedKey) (v : V) (u : Value), NKey X.K H k v → RelV v u → NestedIs s.heap k u
  | .none, _, u, h, r => by cases h; cases (show u = Value.none from r); exact .none
  | .num i, _, u, h, r => by
    cases h
    obtain ⟨t, rfl⟩ := r
    exact .int i t
  | .text x, _, u, h, r => by
    cases h
    obtain ⟨t, rfl⟩ := r
    exact .text x t
  | .tup ks, _, u, h, r => by
    cases h with
    | tup h1 h2 =>
      rename_i a vs
      cases (show u = Value.ref a from r)
      obtain ⟨its, q1, ⟨o, q2, q3, n, q4⟩, _⟩ := I.tuple h1
      exact .tup q2 q3 q4 (NKeys.are I ks vs its h2 q1)
theorem NKeys.are {X : Cx} {pins : List (Addr × Obj)} {σ : L2.St} {H : Hp} {s : Shared} (I : Inv X pins σ H s) : ∀ (ks : List NestedKey) (vs : List V) (us : List Value), NKeys X.K H ks vs → Vals vs us → NestedAll s.heap ks us
  | [], _, _, h, r => by cases h; cases r; exact .nil
  | k :: ks, _, _, h, r => by
    cases h with
    | cons h1 h2 =>
      cases r with
      | cons r1 r2 => exact .cons (NKey.is I k _ _ h1 r1) (NKeys.are I ks _ _ h2 r2)
end

abbrev NE := NestedKey × Addr × V
abbrev KH : List NE → List (NestedKey × Addr × Value) → Prop := Paired fun p q => p.1 = q.1 ∧ p.2.1 = q.2.1 ∧ RelV p.2.2 q.2.2
def dnP (P : Program) (w : World) (a : Addr) (kvs : List NE) (h : Heap) : Prop := (a == sysModules) = false ∧ kvs.length ≤ sizeLine ∧ ∃ xs, KH kvs xs ∧
  ∃ o es ep, h.get? a = some o ∧ o.ExactDict ∧ o.data = .dict es ep ∧ es.toList = xs.map (entryOfKey (nestedKind P w)) ∧ (xs.map (·.1)).Nodup
def dnO (P : Program) (w : World) (a : Addr) (kvs : List NE) : HO := .ext (dnP P w a kvs)
/-- the value at a key -/
def nAt (kvs : List NE) (k : NestedKey) : Option V := (kvs.find? fun x => decide (x.1 = k)).map (·.2.2)
def nPut (kvs : List NE) (k : NestedKey) (b : Addr) (v : V) : List NE := if (nAt kvs k).isSome then kvs.map fun x => if x.1 = k then (x.1, x.2.1, v) else x else kvs ++ [(k, b, v)]
theorem KH.at_ : ∀ {kvs : List NE} {xs : List (NestedKey × Addr × Value)}, KH kvs xs → ∀ k, RelO (nAt kvs k) ((atKey xs k).map (·.2))
  | _, _, .nil, k => True.intro
  | _, _, .cons (a := p) (b := q) (l₁ := ps) (l₂ := qs) h t, k => by
    by_cases e : p.1 = k
    · have e2 : q.1 = k := h.1 ▸ e
      simp [nAt, atKey, e, e2]
      exact h.2.2
    · have e2 : ¬ q.1 = k := fun z => e (h.1.trans z)
      have := KH.at_ t k
      simpa [nAt, atKey, e, e2] using this
theorem KH.map_ {k : NestedKey} {v : V} {u : Value} (r : RelV v u) : ∀ {kvs : List NE} {xs : List (NestedKey × Addr × Value)}, KH kvs xs → KH (kvs.map fun x => if x.1 = k then (x.1, x.2.1, v) else x) (xs.map (putAt k u))
  | _, _, .nil => .nil
  | _, _, .cons (a := p) (b := q) h t => by
    refine .cons ?_ (KH.map_ r t)
    by_cases e : p.1 = k
    · have e2 : q.1 = k := h.1 ▸ e
      simp only [if_pos e, putAt, if_pos e2]
      exact ⟨h.1, h.2.1, r⟩
    · have e2 : ¬ q.1 = k := fun z => e (h.1.trans z)
      simp only [if_neg e, putAt, if_neg e2]
      exact h
theorem KH.snoc : ∀ {kvs : List NE} {xs : List (NestedKey × Addr × Value)} {p : NE} {q : NestedKey × Addr × Value}, KH kvs xs → (p.1 = q.1 ∧ p.2.1 = q.2.1 ∧ RelV p.2.2 q.2.2) → KH (kvs ++ [p]) (xs ++ [q])
  | _, _, _, _, .nil, h => .cons h .nil
  | _, _, _, _, .cons h t, r => .cons h (KH.snoc t r)
theorem KH.put {k : NestedKey} {b : Addr} {v : V} {u : Value} (r : RelV v u) {kvs : List NE} {xs : List (NestedKey × Addr × Value)} (h : KH kvs xs) : KH (nPut kvs k b v) (storedH xs k b u) := by
  unfold nPut storedH
  have e : (nAt kvs k).isSome = (atKey xs k).isSome := by
    rw [RelO.isSome_eq (h.at_ k), Option.isSome_map]
  rw [e]
  split
  · exact KH.map_ r h
  · exact KH.snoc h ⟨rfl, rfl, r⟩
theorem kh_get : ∀ {kvs : List NE} {xs : List (NestedKey × Addr × Value)} {j : Nat} {p : NE} {q : NestedKey × Addr × Value}, KH kvs xs → kvs[j]? = some p → xs[j]? = some q → RelV p.2.2 q.2.2
  | _, _, 0, _, _, .cons h _, e1, e2 => by cases e1; cases e2; exact h.2.2
  | _, _, j + 1, _, _, .cons _ t, e1, e2 => kh_get t (by simpa using e1) (by simpa using e2)
  | _, _, _, _, _, .nil, e1, _ => by simp at e1
theorem nPut_len (kvs : List NE) (k : NestedKey) (b : Addr) (v : V) : (nPut kvs k b v).length ≤ kvs.length + 1 := by
  unfold nPut
  split <;> simp
section
variable {X : Cx} {pins : List (Addr × Obj)} {σ : L2.St} {H : Hp} {s : Shared} {a b : Addr} {kvs : List NE} {k : NestedKey} {A : Around} {E : Value → Shared → Prop}
theorem dn_of (I : Inv X pins σ H s) (e : H a = some (dnO X.prog X.w a kvs)) (hk : ∀ x ∈ kvs, NKey X.K H x.1 (.ref x.2.1)) (h8 : ∀ x ∈ kvs, x.1.depth ≤ 8) :
    (a == sysModules) = false ∧ kvs.length ≤ sizeLine ∧ ∃ xs, KH kvs xs ∧ s.heap.DictOfH (nestedKind X.prog X.w) a xs := by
  obtain ⟨⟨h1, h2, xs, h3, o, es, ep, h4, h5, h6, h7, h9⟩, _, _⟩ := (show ObjOk X.prog X.w H s.heap a (dnO X.prog X.w a kvs) from I.hok a _ e)
  refine ⟨h1, h2, xs, h3, o, es, ep, h4, h5, h6, h7, ?_, h9⟩
  have all : ∀ {l : List NE} {m : List (NestedKey × Addr × Value)}, KH l m → (∀ x ∈ l, NKey X.K H x.1 (.ref x.2.1)) → (∀ x ∈ l, x.1.depth ≤ 8) → ∀ x ∈ m, (nestedKind X.prog X.w).is s.heap x.1 x.2.1 := by
    intro l m q
    induction q with
    | nil => intro _ _ x hx; exact nomatch hx
    | @cons p q ps qs hq t ih =>
      intro g1 g2 x hx
      rcases List.mem_cons.mp hx with e | hx
      · subst e
        have z := NKey.is I _ _ _ (g1 p (by simp)) (rfl : RelV (.ref p.2.1) (.ref p.2.1))
        rw [hq.1, hq.2.1] at z
        exact ⟨z, by rw [← hq.1]; exact g2 p (by simp)⟩
      · exact ih (fun y hy => g1 y (by simp [hy])) (fun y hy => g2 y (by simp [hy])) x hx
  exact all h3 hk h8
theorem dn_ok {P : Program} {w : World} {H' : Hp} {h' : Heap} {xs : List (NestedKey × Addr × Value)} (h1 : (a == sysModules) = false) (h2 : kvs.length ≤ sizeLine) (h3 : KH kvs xs) (d : h'.DictOfH (nestedKind P w) a xs) : ObjOk P w H' h' a (dnO P w a kvs) := by
  obtain ⟨o, es, ep, h4, h5, h6, h7, _, h9⟩ := d
  exact ⟨⟨h1, h2, xs, h3, o, es, ep, h4, h5, h6, h7, h9⟩, ⟨o, h4⟩, fun g1 g2 ⟨y1, y2, ys, y3, o', es', ep', y4, y5, y6, y7, y9⟩ hg => ⟨y1, y2, ys, y3, o', es', ep', hg _ y4, y5, y6, y7, y9⟩⟩
theorem n_getItem {v : V} {Q : Value → Shared → Prop} (hu : A.in1.units + 8 < cLine) (I : Inv X pins σ H s) (e : H a = some (dnO X.prog X.w a kvs)) (hk : ∀ x ∈ kvs, NKey X.K H x.1 (.ref x.2.1)) (h8 : ∀ x ∈ kvs, x.1.depth ≤ 8)
    (kk : NKey X.K H k (.ref b)) (k8 : k.depth ≤ 8) (g : nAt kvs k = some v) (h : ∀ w' s', Inv X pins σ H s' → RelV v w' → Q w' s') : wpAny (model X.prog X.w) A (getItem (.ref a) (.ref b)) Q E s := by
  obtain ⟨hd, z, xs, rel, dd⟩ := dn_of I e hk h8
  obtain ⟨w', hw, rw'⟩ := RelO.some_of (v := v) (o := (atKey xs k).map (·.2)) (by rw [← g]; exact rel.at_ k)
  obtain ⟨p, hp, hp2⟩ := Option.map_eq_some_iff.mp hw
  refine wpAny_getItem_heap (knd := nestedKind X.prog X.w) hu ⟨NKey.is I _ _ _ kk rfl, k8⟩ dd hp ?_
  rw [hp2]
  exact h w' _ (I.tok _) rw'
theorem n_in {Q : Value → Shared → Prop} (hu : A.in1.units + 8 < cLine) (I : Inv X pins σ H s) (e : H a = some (dnO X.prog X.w a kvs)) (hk : ∀ x ∈ kvs, NKey X.K H x.1 (.ref x.2.1)) (h8 : ∀ x ∈ kvs, x.1.depth ≤ 8)
    (kk : NKey X.K H k (.ref b)) (k8 : k.depth ≤ 8) (h : ∀ s', Inv X pins σ H s' → Q (.bool (nAt kvs k).isSome) s') : wpAny (model X.prog X.w) A (compareOp .In (.ref b) (.ref a)) Q E s := by
  obtain ⟨hd, z, xs, rel, dd⟩ := dn_of I e hk h8
  refine wpAny_in_heap (knd := nestedKind X.prog X.w) hu ⟨NKey.is I _ _ _ kk rfl, k8⟩ hd dd ?_
  have q := RelO.isSome_eq (rel.at_ k)
  rw [Option.isSome_map] at q
  rw [← q]
  exact h _ (I.tok _)
theorem n_notIn {Q : Value → Shared → Prop} (hu : A.in1.units + 8 < cLine) (I : Inv X pins σ H s) (e : H a = some (dnO X.prog X.w a kvs)) (hk : ∀ x ∈ kvs, NKey X.K H x.1 (.ref x.2.1)) (h8 : ∀ x ∈ kvs, x.1.depth ≤ 8)
    (kk : NKey X.K H k (.ref b)) (k8 : k.depth ≤ 8) (h : ∀ s', Inv X pins σ H s' → Q (.bool (!(nAt kvs k).isSome)) s') : wpAny (model X.prog X.w) A (compareOp .NotIn (.ref b) (.ref a)) Q E s := by
  obtain ⟨hd, z, xs, rel, dd⟩ := dn_of I e hk h8
  refine notIn_keyed (knd := nestedKind X.prog X.w) hu ⟨NKey.is I _ _ _ kk rfl, k8⟩ hd ⟨xs, dd, rfl⟩ ?_
  have q := RelO.isSome_eq (rel.at_ k)
  rw [Option.isSome_map] at q
  rw [valueAt_pairsH, Option.isSome_map, ← q]
  exact h _ (I.tok _)
theorem n_setItem {v : V} {r : Value} {Q : Unit → Shared → Prop} (hu : A.in1.units + 8 < cLine) (I : Inv X pins σ H s) (e : H a = some (dnO X.prog X.w a kvs)) (hk : ∀ x ∈ kvs, NKey X.K H x.1 (.ref x.2.1)) (h8 : ∀ x ∈ kvs, x.1.depth ≤ 8)
    (kk : NKey X.K H k (.ref b)) (k8 : k.depth ≤ 8) (hl : kvs.length < sizeLine) (rv : RelV v r) (h : ∀ s', Inv X pins σ (upd H a (dnO X.prog X.w a (nPut kvs k b v))) s' → Q () s') : wpAny (model X.prog X.w) A (setItem (.ref a) (.ref b) r) Q E s := by
  obtain ⟨hd, z, xs, rel, dd⟩ := dn_of I e hk h8
  have hz : xs.length ≤ sizeLine := by rw [← Paired.length rel]; exact z
  have hl' : (nPut kvs k b v).length ≤ sizeLine := by have := nPut_len kvs k b v; omega
  refine wpAny_setItem_heap (knd := nestedKind X.prog X.w) (hsz := hz) hu ⟨NKey.is I _ _ _ kk rfl, k8⟩ dd fun h' dd' hs => h _ ?_
  have he : ∃ q, h'.get? a = some q := let ⟨q, _, _, hq, _⟩ := dd'; ⟨q, hq⟩
  exact d_write I (by rw [e]; exact True.intro) hs he (dn_ok hd hl' (rel.put rv) dd')
end

/-! readings of expressions -/
section
variable {X : Cx} {o i e value : Expr} {pos pos' apos cpos : Pos} {td ty tv : TE}
def NOk (K : PySem.W.Frag) (H : Hp) (kvs : List NE) : Prop := (∀ x ∈ kvs, NKey K H x.1 (.ref x.2.1)) ∧ ∀ x ∈ kvs, x.1.depth ≤ 8
theorem dn_typeIs {pins : List (Addr × Obj)} {σ : L2.St} {H : Hp} {s : Shared} {a : Addr} {kvs : List NE} (I : Inv X pins σ H s) (e : H a = some (dnO X.prog X.w a kvs)) (ok : NOk X.K H kvs) : s.TypeIs (.ref a) "dict" := by
  obtain ⟨_, _, xs, _, dd⟩ := dn_of I e ok.1 ok.2
  exact dd.typeIs
def tNGet (td ty : TE) : TE := fun σ H Q => td σ H fun x H1 => ty σ H1 fun y H2 => ∃ a b kvs k v P w, x = .ref a ∧ y = .ref b ∧ P = X.prog ∧ w = X.w ∧ H2 a = some (dnO P w a kvs) ∧ NOk X.K H2 kvs ∧ NKey X.K H2 k (.ref b) ∧ k.depth ≤ 8 ∧ nAt kvs k = some v ∧ Q v H2
def tNIn (f : Bool → Bool) (ty td : TE) : TE := fun σ H Q => ty σ H fun y H1 => td σ H1 fun x H2 => ∃ a b kvs k P w, x = .ref a ∧ y = .ref b ∧ P = X.prog ∧ w = X.w ∧ H2 a = some (dnO P w a kvs) ∧ NOk X.K H2 kvs ∧ NKey X.K H2 k (.ref b) ∧ k.depth ≤ 8 ∧ Q (.bl (f (nAt kvs k).isSome)) H2
def sNPut (td ty tv : TE) : TS := fun D σ H => tv σ H fun v H1 => td σ H1 fun x H2 => ty σ H2 fun y H3 => ∃ a b kvs k P w, x = .ref a ∧ y = .ref b ∧ P = X.prog ∧ w = X.w ∧ H3 a = some (dnO P w a kvs) ∧ NOk X.K H3 kvs ∧ NKey X.K H3 k (.ref b) ∧ k.depth ≤ 8 ∧ kvs.length < sizeLine ∧ D.nx σ (upd H3 a (dnO P w a (nPut kvs k b v)))
theorem pe_nget (hu : X.A.units + 16 < cLine) (ho : PE X o td) (hi : PE X i ty) (hs : NoSl i) : PE X (.Subscript o i pos) (tNGet (X := X) td ty) := by
  refine ⟨fun pins s σ H Q I h => ?_⟩
  refine subD_of PySem.F.slot_dict_getitem.lookup hs (thn (ho.run pins s σ H _ I h) fun u s1 ⟨x, H1, I1, rx, q1⟩ => thn (hi.run pins s1 σ H1 _ I1 q1) fun iv s2 ⟨y, H2, I2, ry, a, b, kvs, k, v, P, w, ex, ey, eP, ew, e, ok, kk, k8, g, q2⟩ => ?_)
  subst ex ey eP ew
  obtain rfl : u = Value.ref a := rx
  obtain rfl : iv = Value.ref b := ry
  exact ⟨dn_typeIs I2 e ok, n_getItem (by show X.A.units + 1 + 8 < cLine; omega) I2 e ok.1 ok.2 kk k8 g fun w' s3 I3 rw' => ⟨v, H2, I3, rw', q2⟩⟩
theorem pc_nin (hu : X.A.units + 16 < cLine) (hi : PE X i ty) (ho : PE X o td) : PC X .In i o (tNIn (X := X) (fun b => b) ty td) := by
  refine ⟨fun pins s σ H Q I h => ?_⟩
  refine thn (hi.run pins s σ H _ I h) fun iv s1 ⟨y, H1, I1, ry, q1⟩ => thn (ho.run pins s1 σ H1 _ I1 q1) fun u s2 ⟨x, H2, I2, rx, a, b, kvs, k, P, w, ex, ey, eP, ew, e, ok, kk, k8, q2⟩ => ?_
  subst ex ey eP ew
  obtain rfl : u = Value.ref a := rx
  obtain rfl : iv = Value.ref b := ry
  exact n_in (by show X.A.units + 1 + 8 < cLine; omega) I2 e ok.1 ok.2 kk k8 fun s3 I3 => ⟨.bl (nAt kvs k).isSome, H2, I3, rfl, q2⟩
theorem pc_nnotin (hu : X.A.units + 16 < cLine) (hi : PE X i ty) (ho : PE X o td) : PC X .NotIn i o (tNIn (X := X) (fun b => !b) ty td) := by
  refine ⟨fun pins s σ H Q I h => ?_⟩
  refine thn (hi.run pins s σ H _ I h) fun iv s1 ⟨y, H1, I1, ry, q1⟩ => thn (ho.run pins s1 σ H1 _ I1 q1) fun u s2 ⟨x, H2, I2, rx, a, b, kvs, k, P, w, ex, ey, eP, ew, e, ok, kk, k8, q2⟩ => ?_
  subst ex ey eP ew
  obtain rfl : u = Value.ref a := rx
  obtain rfl : iv = Value.ref b := ry
  exact n_notIn (by show X.A.units + 1 + 8 < cLine; omega) I2 e ok.1 ok.2 kk k8 fun s3 I3 => ⟨.bl (!(nAt kvs k).isSome), H2, I3, rfl, q2⟩
theorem ps_nput (hu : X.A.units + 16 < cLine) (ho : PE X o td) (hi : PE X i ty) (hv : PE X value tv) (hs : swapsWith value (some (.Subscript o i pos')) pos.line X.env = pure false) :
    PS X (.Assign [.Subscript o i pos'] value pos) (sNPut (X := X) td ty tv) := by
  refine ⟨fun pins s σ H D I h => ?_⟩
  refine wpAny_Assign_Subscript (thn (hv.run pins s σ H _ I h) fun r s1 ⟨v, H1, I1, rv, q1⟩ => thn (ho.run pins s1 σ H1 _ I1 q1) fun u s2 ⟨x, H2, I2, rx, q2⟩ => thn (hi.run pins s2 σ H2 _ I2 q2) fun iv s3 ⟨y, H3, I3, ry, a, b, kvs, k, P, w, ex, ey, eP, ew, e, ok, kk, k8, hl, q3⟩ => ?_) hs
  subst ex ey eP ew
  obtain rfl : u = Value.ref a := rx
  obtain rfl : iv = Value.ref b := ry
  exact n_setItem (by show X.A.units + 1 + 8 < cLine; omega) I3 e ok.1 ok.2 kk k8 hl rv fun s4 I4 => ⟨σ, _, I4, q3⟩
theorem dn_empty {P : Program} {w : World} {H : Hp} (h : Heap) (hb : sysModules < h.objs.size) : ObjOk P w H (h.push { cls := .type "dict", data := .dict #[] }) h.objs.size (dnO P w h.objs.size []) :=
  dn_ok (xs := []) (beq_eq_false_iff_ne.mpr (Ne.symm (Nat.ne_of_lt hb))) (Nat.zero_le _) .nil (Heap.DictOfH.new h)
def tNNew : TE := fun _ H Q => ∀ p, H p = none → Q (.ref p) (upd H p (dnO X.prog X.w p []))
theorem pe_nnew : PE X (.Dict [] [] pos) (tNNew (X := X)) := ⟨fun pins s σ H Q I h =>
  wpAny_Dict_empty ⟨.ref s.heap.objs.size, _, I.laid (a := s.heap.objs.size) (o := dnO X.prog X.w s.heap.objs.size []) (t' := s.toks) (fun _ _ q => Heap.get?_push_of_some _ q) (Nat.le_refl _) (dn_empty s.heap I.big), rfl, h _ (I.hok.fresh (Nat.le_refl _))⟩⟩
/-! list(d.values()) -/
def nvO (p a : Addr) : HO := .ext (fun h => h.get? p = some { cls := .type "dict_values", data := .fields #[.ref a] })
theorem nvO_ok {P : Program} {w : World} {H : Hp} {h : Heap} {p a : Addr} (e : h.get? p = some { cls := .type "dict_values", data := .fields #[.ref a] }) : ObjOk P w H h p (nvO p a) := ⟨e, ⟨_, e⟩, fun h1 h2 q k => k _ q⟩
def tNVals (td : TE) : TE := fun σ H Q => td σ H fun x H1 => ∃ a kvs P w, x = .ref a ∧ P = X.prog ∧ w = X.w ∧ H1 a = some (dnO P w a kvs) ∧ NOk X.K H1 kvs ∧ ∀ p, H1 p = none → Q (.ref p) (upd H1 p (nvO p a))
theorem pe_nvals (he : PE X e td) (hbase : attributeBase e "values" X.env (eval e X.env) = eval e X.env := by rfl) (hline : (apos.endLine == cpos.line) = true := by rfl) : PE X (.Call (.Attribute e "values" apos) [] [] cpos) (tNVals (X := X) td) := by
  refine ⟨fun pins s σ H R I h => ?_⟩
  refine wpAny_Call_method (T := "dict") (id := "dict.values") hbase rfl hline F.plainAttrs_dict F.slot_dict_values F.type_dict_values (thn (he.run pins s σ H _ I h) fun u s1 ⟨x, H1, I1, rx, a, kvs, P, w, ex, eP, ew, e0, ok, q⟩ => ?_)
  subst ex eP ew
  obtain rfl : u = Value.ref a := rx
  obtain ⟨hd, z, xs, rel, dd⟩ := dn_of I1 e0 ok.1 ok.2
  obtain ⟨es, ep, hraw, hsz, _⟩ := dd.raw
  refine ⟨dd.typeIs, fun b q => ?_, ?_⟩
  · cases q
    obtain ⟨ob, _, _, h1, h2, _⟩ := dd
    exact ⟨ob, h1, h2.2.1⟩
  show wpAny _ _ (callWith cpos (.builtin "dict.values") [.ref a] [] []) _ X.xe s1
  exact method_meetsIn F.slot_dict_values F.entry_dict_values rfl (PySem.evalArgs_none ⟨rfl, dd.typeIs, F.args_dict_values_1 _, _, meets_dict_values_raw a hd, ⟨es, ep, hraw⟩,
    ⟨.ref s1.heap.objs.size, _, I1.laid (t' := s1.toks) (fun b o q => Heap.get?_push_of_some _ q) (Nat.le_refl _) (nvO_ok (Heap.get?_push_size _ rfl)), rfl, q _ (I1.hok.fresh (Nat.le_refl _))⟩⟩)
theorem call_listN (hc : X.calm = true) : CallR X (.type "list") (fun xs H Q => ∃ r a kvs P w, xs = [V.ref r] ∧ P = X.prog ∧ w = X.w ∧ H r = some (nvO r a) ∧ H a = some (dnO P w a kvs) ∧ NOk X.K H kvs ∧ ∀ p, H p = none → Q (.ref p) (upd H p (.lst (kvs.map (·.2.2))))) := by
  intro pins s σ H xs us Q I r h
  obtain ⟨rr, a, kvs, P, w, rfl, eP, ew, hv, e0, ok, q⟩ := h
  subst eP ew
  obtain ⟨u, rfl, rx⟩ := r.one
  cases rx
  obtain ⟨hd, z, xs, rel, dd⟩ := dn_of I e0 ok.1 ok.2
  obtain ⟨es, ep, hraw, hsz, hent⟩ := dd.raw
  have hv' : s.heap.get? rr = some { cls := .type "dict_values", data := .fields #[.ref a] } := (show ObjOk X.prog X.w H s.heap rr (nvO rr a) from I.hok rr _ hv).1
  have hlen : kvs.length = xs.length := Paired.length rel
  refine PySem.W.kdl_call (KdlSrc.rawValues (r := rr) (d := a) (es := es) (ep := ep)) (I.ok.hd hc) ⟨⟨_, hv', rfl, rfl⟩, hraw⟩ (by omega) fun h' tk acc' c' kp e it => ?_
  have hl : acc'.toList.length = es.size := by rw [Array.length_toList, it.1]
  have rv : Vals (kvs.map (·.2.2)) acc'.toList := by
    refine vals_of_at (by rw [List.length_map, hl, hsz, hlen]) fun j x u hx hu => ?_
    rw [List.getElem?_map] at hx
    obtain ⟨ne, hne, rfl⟩ := Option.map_eq_some_iff.mp hx
    obtain ⟨hi, rfl⟩ := it.2 j u (by rw [← Array.getElem?_toList]; exact hu)
    obtain ⟨y, hy, _, hv2, _⟩ := hent j hi
    rw [hv2]
    exact kh_get rel hne hy
  exact ⟨.ref s.heap.objs.size, _, I.laid (t' := tk) (o := .lst (kvs.map (·.2.2))) kp (Nat.le_refl _) ⟨by rw [List.length_map]; omega, acc'.toList, c', rv, by rw [Array.toArray_toList]; exact e⟩, rfl, q _ (I.hok.fresh (Nat.le_refl _))⟩
end

/-! keys without texts: the same in each world -/
mutual
def nNum : NestedKey → Bool
  | .none => true
  | .num _ => true
  | .text _ => false
  | .tup ks => nNums ks
def nNums : List NestedKey → Bool
  | [] => true
  | k :: ks => nNum k && nNums ks
end
mutual
theorem hash_num (w w' : World) : ∀ k : NestedKey, nNum k = true → k.hash w = k.hash w'
  | .none, _ => rfl
  | .num _, _ => rfl
  | .text _, h => by cases h
  | .tup ks, h => by
    rw [nNum] at h
    rw [NestedKey.hash, NestedKey.hash, hashes_num w w' ks h]
theorem hashes_num (w w' : World) : ∀ ks : List NestedKey, nNums ks = true → NestedKey.hashes w ks = NestedKey.hashes w' ks
  | [], _ => rfl
  | k :: ks, h => by
    rw [nNums, Bool.and_eq_true] at h
    rw [NestedKey.hashes, NestedKey.hashes, hash_num w w' k h.1, hashes_num w w' ks h.2]
end
theorem kh_num : ∀ {kvs : List NE} {xs : List (NestedKey × Addr × Value)}, KH kvs xs → (∀ x ∈ kvs, nNum x.1 = true) → ∀ x ∈ xs, nNum x.1 = true
  | _, _, .nil, _ => fun _ h => by cases h
  | _, _, .cons h t, a => fun x hx => by
    rcases List.mem_cons.mp hx with e | hx
    · subst e; rw [← h.1]; exact a _ (by simp)
    · exact kh_num t (fun y hy => a y (by simp [hy])) x hx
theorem dnO_eq {P P' : Program} {w w' : World} {a : Addr} {kvs : List NE} (h : ∀ x ∈ kvs, nNum x.1 = true) : dnO P w a kvs = dnO P' w' a kvs := by
  have key : ∀ (P P' : Program) (w w' : World) h0, dnP P w a kvs h0 → dnP P' w' a kvs h0 := by
    rintro P P' w w' h0 ⟨h1, h2, xs, h3, o, es, ep, h4, h5, h6, h7, h9⟩
    refine ⟨h1, h2, xs, h3, o, es, ep, h4, h5, h6, ?_, h9⟩
    rw [h7]
    refine List.map_congr_left fun x hx => ?_
    show (⟨x.1.hash w, .ref x.2.1, x.2.2⟩ : DictEntry) = ⟨x.1.hash w', .ref x.2.1, x.2.2⟩
    rw [hash_num w w' _ (kh_num h3 h x hx)]
  unfold dnO
  congr 1
  funext h0
  exact propext ⟨key _ _ _ _ h0, key _ _ _ _ h0⟩
end Py
end
section
set_option Elab.async false
set_option linter.all false
set_option maxRecDepth 100000
/-! enumerate over a tuple -/
namespace Py
open PySem L2 PyProof.Rows
set_option maxHeartbeats 1000000 in
theorem meets_enumerate_newT (l : Addr) (items : Array Value) :
    Meets (Builtin.«enumerate.__new__» ⟨[.type "enumerate", .ref l], []⟩) (fun _ R s => s.heap.IsTuple l items ∧
      R (.ok (.ret (.ref (s.heap.push { cls := .type "tuple_iterator", data := .fields #[.ref l, .int 0 0] }).objs.size)))
        { s with heap := (s.heap.push { cls := .type "tuple_iterator", data := .fields #[.ref l, .int 0 0] }).push { cls := .type "enumerate", data := .fields #[.none, .bool false, .ref s.heap.objs.size, rawInt 0, .none, .none] } }) :=
  .of_wp fun prog w A R s h => by
    obtain ⟨hp, g, d, tk, os⟩ := s; obtain ⟨h1, h⟩ := h
    have hsub := sub_enumerate
    have q1 : ∀ {A' : Around} {E : Value → Shared → Prop} {Q : Value → Shared → Prop}, Q (.ref hp.objs.size) ⟨hp.push { cls := .type "tuple_iterator", data := .fields #[.ref l, .int 0 0] }, g, d, tk, os⟩ → wpAny (model prog w) A' (pyIter (.ref l)) Q E ⟨hp, g, d, tk, os⟩ :=
      fun q => wpAny_pyIter_tuple h1 q
    wp_walk using q1
    refine wpAny_stack_any fun st => wpAny_pure ?_
    split
    · rename_i c _ _ _ _ _
      cases (c == Value.type "enumerate")
      · wp_walk using q1
        exact ⟨_, rfl, h⟩
      · wp_walk using q1
        exact ⟨_, rfl, h⟩
    · wp_walk using q1
      exact ⟨_, rfl, h⟩
theorem call_enumerate_tuple {prog : Program} {w : World} {A : Around} {E : Value → Shared → Prop} {s : Shared} {l : Addr} {items : Array Value} {Q : Value → Shared → Prop} (hL : s.heap.IsTuple l items)
    (h : ∀ h', IsEnum h' (s.heap.objs.size + 1) s.heap.objs.size 0 .none → h'.IsTupleIter s.heap.objs.size l 0 → h'.objs.size = s.heap.objs.size + 2 →
      (∀ b o, s.heap.get? b = some o → h'.get? b = some o) → Q (.ref (s.heap.objs.size + 1)) { s with heap := h' }) :
    wpAny (model prog w) A (call (.type "enumerate") [.ref l]) Q E s := by
  refine callType_new F.called_enumerate (by decide) (F.typeCall_enumerate_1 _) (F.newCall_enumerate_1 _) (fun obj => F.args_object_init_2 obj _) F.entry_enumerate_new
    (meets_enumerate_newT l items) ⟨hL, ?_⟩
  have hz : (s.heap.push { cls := .type "tuple_iterator", data := .fields #[.ref l, .int 0 0] }).objs.size = s.heap.objs.size + 1 := Heap.size_push ..
  show _ ∧ _
  rw [hz]
  have he : IsEnum ((s.heap.push { cls := .type "tuple_iterator", data := .fields #[.ref l, .int 0 0] }).push
      { cls := .type "enumerate", data := .fields #[.none, .bool false, .ref s.heap.objs.size, rawInt 0, .none, .none] }) (s.heap.objs.size + 1) s.heap.objs.size 0 .none := by
    have := Heap.get?_push_size (s.heap.push { cls := .type "tuple_iterator", data := .fields #[.ref l, .int 0 0] })
      (o := { cls := .type "enumerate", data := .fields #[.none, .bool false, .ref s.heap.objs.size, rawInt 0, .none, .none] }) rfl
    rw [hz] at this; exact this
  refine ⟨⟨_, he, rfl⟩, h _ he ⟨_, Heap.get?_push_of_some _ (Heap.get?_push_size _ rfl), rfl, rfl⟩ (by rw [Heap.size_push, hz]) fun b o x => Heap.get?_push_of_some _ (Heap.get?_push_of_some _ x)⟩
theorem enum_endT {prog : Program} {w : World} {A : Around} {E : Value → Shared → Prop} {s : Shared} {e it l : Addr} {i : Nat} {items : Array Value} {old : Value} {Q : Option Value → Shared → Prop} (hh : A.handled = none)
    (he : IsEnum s.heap e it i old) (hit : s.heap.IsTupleIter it l i) (hl : s.heap.IsTuple l items) (hx : items[i]? = none)
    (hQ : ∀ h', Heap.ExtBut it s.heap h' → Q none { s with heap := h' }) : wpAny (model prog w) A (pyNext (.ref e)) Q E s := by
  have hT : s.TypeIs (.ref e) "enumerate" := ⟨_, he, rfl⟩
  unfold pyNext
  refine wpAny_bind (wpAny_attempt (wpAny_callSpecial?_slot (name := Str.ofString "__next__") hT F.slot_enumerate_next
    (wpAny_call_entry F.slot_enumerate_next hT F.entry_enumerate_next ?_ (F.args_enumerate_next_1 _))))
  show wpAny _ _ (field (.ref e) 2 >>= _) _ _ _
  refine wpAny_bind (wpAny_field he rfl (x := .ref it) rfl ?_)
  refine wpAny_bind (wpAny_nextOf_tuple_end (A := A.in1) hh hit hl hx fun h' x he' hx' => ?_)
  obtain ⟨o, ho, hc⟩ := hx'
  refine wpAny_bind (wpAny_isInstance (T := "StopIteration") (b := true) ⟨o, ho, hc⟩ isSubtype_stop ?_)
  exact wpAny_pure (hQ _ he')
def IteT (K : PySem.W.Frag) (a : Addr) : It :=
  ⟨fun i H => ∃ (xs : List V) (x : V), SqT K H a xs ∧ xs[i]? = some x, fun i H v H' => ∃ T x, v = .ref T ∧ H T = none ∧ H' = upd H T (.tup [.int (i : Nat), x]) ∧ ∀ xs, SqT K H a xs → xs[i]? = some x, fun i H => ∃ xs : List V, SqT K H a xs ∧ xs.length ≤ i⟩
theorem turn_enumT {P : Program} {w : World} {K : PySem.W.Frag} {elts : List Expr} {kk : Nat} {tpos : Pos} (a e it : Addr) (hat : a ≠ it) (hae : a ≠ e) :
    Turn P w K (.Tuple elts kk tpos) (IteT K a) [e, it] e (fun i h => (∃ old, IsEnum h e it ((i : Nat) : Int) old) ∧ h.IsTupleIter it a i ∧ e ≠ it) where
  mem := by simp
  obj := fun i h st b hb => by
    obtain ⟨⟨old, he⟩, ⟨o, ho, hc, hd⟩, _⟩ := st
    have e' : b = e ∨ b = it := by simpa using hb
    rcases e' with z | z
    · rw [z]; exact ⟨_, he, fun v q => nomatch q⟩
    · rw [z]; exact ⟨o, ho, fun v q => by rw [hd] at q; cases q⟩
  keep := fun i h h' st k => let ⟨⟨old, he⟩, hi, hne⟩ := st; ⟨⟨old, k e (by simp) _ he⟩, hi.at fun o q => k it (by simp) o q, hne⟩
  item := by
    intro X hP hw hK hc i pins s σ H E I hf st hg
    subst hP hw hK
    obtain ⟨⟨old, he⟩, hit, hne⟩ := st
    obtain ⟨xs, x, hq, hx⟩ := hg
    obtain ⟨its, rv, p, hz⟩ := I.tuple hq
    obtain ⟨u, hu, ru⟩ := rv.get hx
    have hel : e < s.heap.objs.size := Heap.lt_size he
    have hil : it < s.heap.objs.size := by obtain ⟨_, q, _⟩ := hit; exact Heap.lt_size q
    have hlt : i < its.toArray.size := by
      have := (List.getElem?_eq_some_iff.mp hu).1
      simpa using this
    refine wpAny_pyNext_enum_itemD (A := X.A) (Draws.tuple (A := X.A.in1) (I.ok.hd hc) it a hat its.toArray) he ⟨hit, p⟩ hlt hne (by simp; exact ⟨hne, fun z => hae z.symm⟩) fun x' h' tk hPx ho hst hT hsz hk => ?_
    obtain rfl : x' = u := by
      have : some x' = some u := by rw [← hPx, ← hu]; simp
      exact Option.some.inj this
    obtain ⟨hit', _⟩ := hst
    refine ⟨_, rfl, wpAny_letOwnedTupleGo_enum (s := { s with heap := h', toks := tk + 1 }) ho fun h'' he' sb => ?_⟩
    have hT2 : h''.get? s.heap.objs.size = some { cls := .type "tuple", data := .seq #[.int i tk, x'] } := (sb.2 _ (Nat.ne_of_gt hel)).trans hT
    have new : ObjOk X.prog X.w (upd H s.heap.objs.size (.tup [.int (i : Nat), x])) h'' s.heap.objs.size (.tup [.int (i : Nat), x]) :=
      ⟨by show 2 ≤ sizeLine; decide, [.int i tk, x'], .cons ⟨_, rfl⟩ (.cons ru .nil), ⟨_, hT2, rfl, _, rfl⟩⟩
    have I1 : Inv X pins σ (upd H s.heap.objs.size (.tup [.int (i : Nat), x])) { s with heap := h'', toks := tk + 1 } :=
      I.turnedNew (ch := [e, it]) (fun b ob hb q => (sb.2 b (fun z => hb (by simp [z]))).trans (hk b ob (fun z => hb (by simp [z])) (fun z => hb (by simp [z])) q)) hf (Nat.le_refl _) new
    refine ⟨.ref s.heap.objs.size, _, I1, rfl, ⟨_, x, rfl, I.hok.fresh (Nat.le_refl _), rfl, fun ys hy => by rw [I.tuple_inj hy hq]; exact hx⟩, ⟨⟨x', ?_⟩, hit'.at fun o q => (sb.2 it (Ne.symm hne)).trans q, hne⟩, fun b hb => ?_⟩
    · have e1 : ((i + 1 : Nat) : Int) = (i : Int) + 1 := by omega
      rw [e1]; exact he'
    · have hb' : b < s.heap.objs.size := by
        have e' : b = e ∨ b = it := by simpa using hb
        rcases e' with z | z
        · rw [z]; exact hel
        · rw [z]; exact hil
      rw [upd_ne (Nat.ne_of_lt hb')]
      exact (hf b hb).1
  done := by
    intro X hP hw hK hc i pins s σ H E I hf st hg
    subst hP hw hK
    obtain ⟨⟨old, he⟩, hit, hne⟩ := st
    obtain ⟨xs, hq, hx⟩ := hg
    obtain ⟨its, rv, p, hz⟩ := I.tuple hq
    obtain ⟨f0, f1, f2, f3, f4, f5⟩ := hf it (by simp)
    have hl := rv.length
    exact enum_endT (I.ok.hd hc) he hit p (by simp; omega) fun h' eb => ⟨rfl, I.turned (t' := s.toks) (fun b o hb q => eb b o hb q) f0 f1 f3 f4 f5⟩
  self := fun A i s Q E st h => let ⟨⟨_, he⟩, _⟩ := st; wpAny_pyIter_enum he h
def iEnumT (K : PySem.W.Frag) (ta : TA) : TI := fun σ H R => ta σ H fun vs H1 => ∃ a xs, vs = [.ref a] ∧ ((SqL K H1 a xs ∧ R (Ite K a) H1) ∨ (SqT K H1 a xs ∧ R (IteT K a) H1))

theorem pi_enumT {X : Cx} {e : Expr} {ta : TA} {p pos tpos : Pos} {elts : List Expr} {kk : Nat} (hg : Gl X "enumerate") (hm : X.mg "enumerate" = none) (ha : PA X [e] ta) (hs : starEach [e] X.env = [(false, eval e X.env)] := by rfl) :
    PI X (.Tuple elts kk tpos) (.Call (.Name "enumerate" p) [e] [] pos) (iEnumT X.K ta) := by
  refine ⟨fun pins s σ H R I h => ?_⟩
  refine Call_ (ld_blt I hg hm boot_enumerate (PyProof.Rows.callWith_type1 (thn (ha.run pos pins s σ H _ I h) fun us s1 ⟨vs, H1, I1, r1, q1⟩ => ?_) hs rfl))
  obtain ⟨a, xs, ex, q1⟩ := q1
  subst ex
  cases r1 with
  | cons r rr =>
    cases rr
    cases r
    have own : ∀ (b : Addr), (b = s1.heap.objs.size + 1 ∨ b = s1.heap.objs.size) → s1.heap.objs.size ≤ b := fun b e' => by
      rcases e' with z | z
      · rw [z]; exact Nat.le_add_right _ _
      · rw [z]; exact Nat.le_refl _
    rcases q1 with ⟨hq, q⟩ | ⟨hq, q⟩
    · obtain ⟨its, rv, p', hz⟩ := I1.list hq
      refine call_enumerate_list p'.isList fun h' he hit hsz hk => wpAny_pyIter_enum he ?_
      have I2 : Inv X pins σ H1 { s1 with heap := h' } := I1.kept (t' := s1.toks) hk
      refine ⟨s1.heap.objs.size + 1, [s1.heap.objs.size + 1, s1.heap.objs.size], _, _, H1, rfl, I2, turn_enum a (s1.heap.objs.size + 1) s1.heap.objs.size, ⟨⟨.none, he⟩, hit, Nat.succ_ne_self _⟩, fun b hb => ?_, q⟩
      have hle := own b (by simpa using hb)
      exact I1.fpOk hle (I1.hok.fresh hle)
    · obtain ⟨its, rv, p', hz⟩ := I1.tuple hq
      have hlt : a < s1.heap.objs.size := p'.lt
      refine call_enumerate_tuple p' fun h' he hit hsz hk => wpAny_pyIter_enum he ?_
      have I2 : Inv X pins σ H1 { s1 with heap := h' } := I1.kept (t' := s1.toks) hk
      refine ⟨s1.heap.objs.size + 1, [s1.heap.objs.size + 1, s1.heap.objs.size], _, _, H1, rfl, I2, turn_enumT a (s1.heap.objs.size + 1) s1.heap.objs.size (Nat.ne_of_lt hlt) (Nat.ne_of_lt (Nat.lt_succ_of_lt hlt)), ⟨⟨.none, he⟩, hit, Nat.succ_ne_self _⟩, fun b hb => ?_, q⟩
      have hle := own b (by simpa using hb)
      exact I1.fpOk hle (I1.hok.fresh hle)
theorem walk_enumT {K : PySem.W.Frag} {a : Addr} {xs : List V} : Walk (IteT K a) xs.length (fun H => SqT K H a xs) (YPair (fun i => some (.int (i : Nat))) (fun i => xs[i]?)) := by
  refine ⟨fun i _ hi q => ⟨xs, xs[i], q, by simp [hi]⟩, fun _ q => ⟨xs, q, Nat.le_refl _⟩, fun i H v H' _ q y => ?_⟩
  obtain ⟨T, x, h1, h2, h3, h4⟩ := y
  exact ⟨T, .int (i : Nat), x, h1, h2, h3, rfl, h4 xs q⟩
end Py
end
section
set_option linter.all false
namespace Py
open PySem L2 PySem.W PyProof.Rows
def ltP (p q : Int × Int) : Bool := decide (p.1 < q.1) || (decide (p.1 = q.1) && decide (p.2 < q.2))
def pD (p : Int × Int) : PyData := .tuple [.int p.1, .int p.2]
theorem dataLt_pair (p q : Int × Int) : dataLt (pD p) (pD q) = ltP p q := by
  have b : ∀ i j : Int, itemOrd.blt (.inl i) (.inl j) = decide (i < j) := fun _ _ => rfl
  show lexLt itemOrd [.inl 1, .inl p.1, .inl 1, .inl p.2, .inl 0] [.inl 1, .inl q.1, .inl 1, .inl q.2, .inl 0] = ltP p q
  unfold ltP
  have c : ∀ i j : Int, itemLt (.inl i) (.inl j) = decide (i < j) := fun _ _ => rfl
  simp only [PyProof.Rows.lexLt, c]
  by_cases h1 : p.1 < q.1
  · simp [h1, c]
  · by_cases h2 : q.1 < p.1
    · have : ¬ p.1 = q.1 := by omega
      simp [h1, h2, this, c]
    · have e : p.1 = q.1 := by omega
      by_cases h3 : p.2 < q.2 <;> simp [e, h3, c]
theorem alike_pair (p q : Int × Int) : alike (pD p) (pD q) = true := by
  simp [pD, alike, alikeAll]

def minP : Int × Int → List (Int × Int) → Int × Int
  | p, ps => ps.foldl (fun a y => if ltP y a then y else a) p
theorem minD_pairs (p : Int × Int) : ∀ ps : List (Int × Int), minD (pD p) (ps.map pD) = pD (minP p ps) := by
  intro ps
  unfold minD minP
  induction ps generalizing p with
  | nil => rfl
  | cons q qs ih =>
    simp only [List.map_cons, List.foldl_cons, dataLt_pair]
    by_cases h : ltP q p
    · simp only [if_pos h]; exact ih q
    · simp only [if_neg h]; exact ih p
theorem pD_inj {p q : Int × Int} (h : pD p = pD q) : p = q := by
  unfold pD at h
  injection h with h
  injection h with h1 h2
  injection h2 with h2 _
  injection h1 with h1
  injection h2 with h2
  exact Prod.ext h1 h2
theorem alikeAll_pairs (ps : List (Int × Int)) : AlikeAll (ps.map pD) := by
  refine ⟨fun x hx y hy => ?_, fun x hx => ?_⟩
  · obtain ⟨p, _, rfl⟩ := List.mem_map.mp hx
    obtain ⟨q, _, rfl⟩ := List.mem_map.mp hy
    exact alike_pair p q
  · obtain ⟨p, _, rfl⟩ := List.mem_map.mp hx
    unfold pD; exact fun h => nomatch h
theorem depth_pairs : ∀ ps : List (Int × Int), PyData.depthAll (ps.map pD) ≤ 3
  | [] => by simp [PyData.depthAll]
  | p :: ps => by
    have := depth_pairs ps
    simp only [List.map_cons, PyData.depthAll, pD, PyData.depth] at this ⊢
    omega
def PairsV (K : PySem.W.Frag) (H : Hp) : List V → List (Int × Int) → Prop := Paired fun v p => ∃ t, v = .ref t ∧ SqT K H t [.int p.1, .int p.2]
theorem pairs_dp {K : PySem.W.Frag} {H : Hp} : ∀ {vs : List V} {ps : List (Int × Int)}, PairsV K H vs ps → DpAll K H vs (ps.map pD)
  | _, _, .nil => .nil
  | _, _, .cons ⟨t, e, h⟩ r => by
    subst e
    exact .cons (.tup h (.cons (.int _) (.cons (.int _) .nil))) (pairs_dp r)
def rMinP (K : PySem.W.Frag) : List V → Hp → VK → Prop := fun vs H Q => ∃ (a : Addr) (xs : List V) (p : Int × Int) (ps : List (Int × Int)), vs = [.ref a] ∧ SqL K H a xs ∧ PairsV K H xs (p :: ps) ∧ ∀ (v : V) (i : Nat), xs[i]? = some v → (p :: ps)[i]? = some (minP p ps) → Q v H
theorem cr_minP {X : Cx} (hc : X.calm = true) (hu : X.A.units + 16 < cLine) : CallR X (.builtin "min") (rMinP X.K) := by
  intro pins s σ H vs us Q I rv h
  obtain ⟨a, xs, p, ps, rfl, hq, hp, q⟩ := h
  obtain ⟨u, rfl, rx⟩ := rv.one
  cases rx
  obtain ⟨its, r1, hpl, hz⟩ := I.list hq
  obtain ⟨as, hr⟩ := Dp.readsAll I _ _ _ (pairs_dp hp) r1
  refine min_list_data (vs := its.toArray) (x := pD p) (xs := ps.map pD) (as := as) (I.ok.hd hc) hpl.isList (by simpa using hr) (alikeAll_pairs (p :: ps)) ?_ fun i v h' tk bs hv hrd hk => ?_
  · have := depth_pairs (p :: ps)
    simp only [List.map_cons] at this
    omega
  · have I1 : Inv X pins σ H { s with heap := h', toks := tk } := I.kept (t' := tk) hk
    have hv' : its[i]? = some v := by simpa using hv
    have hi : i < its.length := (List.getElem?_eq_some_iff.mp hv').1
    have hix : i < xs.length := by rw [r1.length]; exact hi
    have hlen : xs.length = (p :: ps).length := Paired.length hp
    obtain ⟨u', e1, e2⟩ := r1.get (List.getElem?_eq_getElem hix)
    rw [hv'] at e1; cases e1
    refine ⟨xs[i], H, I1, e2, q _ i (List.getElem?_eq_getElem hix) ?_⟩
    have hip : i < (p :: ps).length := by omega
    rw [List.getElem?_eq_getElem hip]
    congr 1
    obtain ⟨bs', r2, _, _, _⟩ := readsAll_atA (vs := its.toArray) (xs := (p :: ps).map pD) (by simpa using hr) i v (by simpa using hv')
    have e3 : ((p :: ps).map pD).getD i .none = pD (p :: ps)[i] := by
      rw [List.getD_eq_getElem?_getD, List.getElem?_map, List.getElem?_eq_getElem hip]
      rfl
    rw [e3] at r2
    rw [minD_pairs] at hrd
    exact pD_inj (PySem.Reads.unique (reads_keeps hk r2) _ _ hrd).1
end Py
end
section
set_option Elab.async false
set_option linter.all false
namespace Py
open PySem L2
/-! ### data, and what stands for it in a heap -/
/-- data: lst a list that stands still, scr one that is locked or written, mr the i-th living list -/
inductive D where
  | non | bl (b : Bool) | int (i : Int) | str (s : Str) | tup (ds : List D) | lst (ds : List D) | scr (ds : List D) | mr (i : Nat)
section
variable (K : PySem.W.Frag) (F : Hp) (ρ : List Addr)
mutual
inductive Dr : V → D → Prop
  | non : Dr .non .non
  | bl (b : Bool) : Dr (.bl b) (.bl b)
  | int (i : Int) : Dr (.int i) (.int i)
  | str (x : Str) : Dr (.str x) (.str x)
  | tup {a : Addr} {xs : List V} {ds : List D} : SqT K F a xs → DrL xs ds → Dr (.ref a) (.tup ds)
  | lst {a : Addr} {xs : List V} {ds : List D} : F a = some (.lst xs) → DrL xs ds → Dr (.ref a) (.lst ds)
  | scr {a : Addr} {xs : List V} {ds : List D} : SqL K F a xs → DrL xs ds → Dr (.ref a) (.scr ds)
  | mr {i : Nat} {a : Addr} : ρ[i]? = some a → Dr (.ref a) (.mr i)
inductive DrL : List V → List D → Prop
  | nil : DrL [] []
  | cons {v : V} {vs : List V} {d : D} {ds : List D} : Dr v d → DrL vs ds → DrL (v :: vs) (d :: ds)
end
end
theorem same_t {K : PySem.W.Frag} {H H' : Hp} {a : Addr} {xs : List V} (e : Same H H') (h : SqT K H a xs) : SqT K H' a xs := by
  rcases h with (h | ⟨o, h⟩) | h
  · exact .inl (.inl (e _ _ h))
  · exact .inl (.inr ⟨o, e _ _ h⟩)
  · exact .inr h
section
variable {K : PySem.W.Frag} {F F' : Hp} {ρ ρ' : List Addr}
mutual
theorem Dr.mono (hF : Same F F') (hρ : ∀ (i : Nat) (a : Addr), ρ[i]? = some a → ρ'[i]? = some a) : ∀ (d : D) (v : V), Dr K F ρ v d → Dr K F' ρ' v d
  | .non, _, h => by cases h; exact .non
  | .bl _, _, h => by cases h; exact .bl _
  | .int _, _, h => by cases h; exact .int _
  | .str _, _, h => by cases h; exact .str _
  | .tup ds, _, h => by
    cases h with
    | tup a b => exact .tup (same_t hF a) (DrL.mono hF hρ ds _ b)
  | .lst ds, _, h => by
    cases h with
    | lst a b => exact .lst (hF _ _ a) (DrL.mono hF hρ ds _ b)
  | .scr ds, _, h => by
    cases h with
    | scr a b => exact .scr (hF.seq a) (DrL.mono hF hρ ds _ b)
  | .mr i, _, h => by
    cases h with
    | mr a => exact .mr (hρ _ _ a)
theorem DrL.mono (hF : Same F F') (hρ : ∀ (i : Nat) (a : Addr), ρ[i]? = some a → ρ'[i]? = some a) : ∀ (ds : List D) (vs : List V), DrL K F ρ vs ds → DrL K F' ρ' vs ds
  | [], _, h => by cases h; exact .nil
  | d :: ds, _, h => by
    cases h with
    | cons a b => exact .cons (Dr.mono hF hρ d _ a) (DrL.mono hF hρ ds _ b)
end
theorem DrL.length : ∀ {vs : List V} {ds : List D}, DrL K F ρ vs ds → vs.length = ds.length
  | [], [], _ => rfl
  | _ :: _, _ :: _, .cons _ t => congrArg (· + 1) (DrL.length t)
theorem DrL.get : ∀ {vs : List V} {ds : List D} {i : Nat} {d : D}, DrL K F ρ vs ds → ds[i]? = some d → ∃ v, vs[i]? = some v ∧ Dr K F ρ v d
  | [], [], _, _, _, e => by simp at e
  | _ :: _, _ :: _, 0, d, .cons a _, e => by simp at e; subst e; exact ⟨_, rfl, a⟩
  | _ :: _, _ :: _, i + 1, d, .cons _ b, e => by
    obtain ⟨v, h1, h2⟩ := DrL.get (i := i) b (by simpa using e)
    exact ⟨v, by simpa using h1, h2⟩
theorem DrL.getV : ∀ {vs : List V} {ds : List D} {i : Nat} {v : V}, DrL K F ρ vs ds → vs[i]? = some v → ∃ d, ds[i]? = some d ∧ Dr K F ρ v d
  | [], [], _, _, _, e => by simp at e
  | _ :: _, _ :: _, 0, d, .cons a _, e => by simp at e; subst e; exact ⟨_, rfl, a⟩
  | _ :: _, _ :: _, i + 1, d, .cons _ b, e => by
    obtain ⟨v, h1, h2⟩ := DrL.getV (i := i) b (by simpa using e)
    exact ⟨v, by simpa using h1, h2⟩
theorem DrL.append : ∀ {vs ws : List V} {ds es : List D}, DrL K F ρ vs ds → DrL K F ρ ws es → DrL K F ρ (vs ++ ws) (ds ++ es)
  | [], _, [], _, _, h => h
  | _ :: _, _, _ :: _, _, .cons a b, h => .cons a (DrL.append b h)
theorem DrL.take : ∀ {vs : List V} {ds : List D} (n : Nat), DrL K F ρ vs ds → DrL K F ρ (vs.take n) (ds.take n)
  | _, _, 0, _ => by simpa using DrL.nil
  | [], [], _ + 1, _ => .nil
  | _ :: _, _ :: _, n + 1, .cons a b => .cons a (DrL.take n b)
theorem DrL.drop : ∀ {vs : List V} {ds : List D} (n : Nat), DrL K F ρ vs ds → DrL K F ρ (vs.drop n) (ds.drop n)
  | _, _, 0, h => h
  | [], [], _ + 1, _ => .nil
  | _ :: _, _ :: _, n + 1, .cons _ b => DrL.drop n b
theorem DrL.set : ∀ {vs : List V} {ds : List D} {v : V} {d : D} (i : Nat), DrL K F ρ vs ds → Dr K F ρ v d → DrL K F ρ (vs.set i v) (ds.set i d)
  | [], [], _, _, 0, _, _ => .nil
  | [], [], _, _, _ + 1, _, _ => .nil
  | _ :: _, _ :: _, _, _, 0, .cons _ b, h => .cons h b
  | _ :: _, _ :: _, _, _, i + 1, .cons a b, h => .cons a (DrL.set i b h)
theorem DrL.ints : ∀ (ns : List Int), DrL K F ρ (ns.map V.int) (ns.map D.int)
  | [] => .nil
  | n :: ns => .cons (.int n) (DrL.ints ns)
end
/-! ### the living lists, the slots -/
abbrev Store := List (List D)
inductive SV where
  | own (ds : List D) | val (d : D) | dct (kvs : List (NestedKey × D))
abbrev Env := List (Option SV)
structure Cells (K : PySem.W.Frag) (F H : Hp) (ρ : List Addr) (μ : Store) : Prop where
  len : ρ.length = μ.length
  nd : ∀ (i j : Nat) (a : Addr), ρ[i]? = some a → ρ[j]? = some a → i = j
  at_ : ∀ (i : Nat) (a : Addr) (ds : List D), ρ[i]? = some a → μ[i]? = some ds → F a = none ∧ ∃ xs, H a = some (.lst xs) ∧ DrL K F ρ xs ds
mutual
theorem NKey.mono {K : PySem.W.Frag} {F F' : Hp} (hF : Same F F') : ∀ (k : NestedKey) (v : V), NKey K F k v → NKey K F' k v
  | .none, _, h => by cases h; exact .none
  | .num _, _, h => by cases h; exact .num _
  | .text _, _, h => by cases h; exact .text _
  | .tup ks, _, h => by
    cases h with
    | tup h1 h2 => exact .tup (same_t hF h1) (NKeys.mono hF ks _ h2)
theorem NKeys.mono {K : PySem.W.Frag} {F F' : Hp} (hF : Same F F') : ∀ (ks : List NestedKey) (vs : List V), NKeys K F ks vs → NKeys K F' ks vs
  | [], _, h => by cases h; exact .nil
  | k :: ks, _, h => by
    cases h with
    | cons h1 h2 => exact .cons (NKey.mono hF k _ h1) (NKeys.mono hF ks _ h2)
end
/-- a dict's entries -/
def KD (K : PySem.W.Frag) (F : Hp) (ρ : List Addr) : List NE → List (NestedKey × D) → Prop := Paired fun p q => p.1 = q.1 ∧ NKey K F p.1 (.ref p.2.1) ∧ p.1.depth ≤ 8 ∧ nNum p.1 = true ∧ Dr K F ρ p.2.2 q.2
theorem KD.mono {K : PySem.W.Frag} {F F' : Hp} {ρ ρ' : List Addr} (hF : Same F F') (hρ : ∀ (i : Nat) (a : Addr), ρ[i]? = some a → ρ'[i]? = some a) : ∀ {ps : List NE} {qs : List (NestedKey × D)}, KD K F ρ ps qs → KD K F' ρ' ps qs
  | _, _, .nil => .nil
  | _, _, .cons ⟨h1, h2, h3, h4, h5⟩ t => .cons ⟨h1, NKey.mono hF _ _ h2, h3, h4, Dr.mono hF hρ _ _ h5⟩ (KD.mono hF hρ t)
theorem KD.num {K : PySem.W.Frag} {F : Hp} {ρ : List Addr} : ∀ {ps : List NE} {qs : List (NestedKey × D)}, KD K F ρ ps qs → ∀ x ∈ ps, nNum x.1 = true
  | _, _, .nil => fun _ h => by cases h
  | _, _, .cons h t => fun x hx => by
    rcases List.mem_cons.mp hx with e | hx
    · subst e; exact h.2.2.2.1
    · exact KD.num t x hx
theorem KD.ok {K : PySem.W.Frag} {F H : Hp} {ρ : List Addr} (fh : Same F H) : ∀ {ps : List NE} {qs : List (NestedKey × D)}, KD K F ρ ps qs → NOk K H ps
  | _, _, .nil => ⟨(fun _ h => by cases h), fun _ h => by cases h⟩
  | _, _, .cons h t => by
    refine ⟨fun x hx => ?_, fun x hx => ?_⟩
    · rcases List.mem_cons.mp hx with e | hx
      · subst e; exact NKey.mono fh _ _ h.2.1
      · exact (KD.ok fh t).1 x hx
    · rcases List.mem_cons.mp hx with e | hx
      · subst e; exact h.2.2.1
      · exact (KD.ok fh t).2 x hx
/-- B: the heap at the def's entry, which own lists stand outside of -/
def SVr (K : PySem.W.Frag) (B F H : Hp) (ρ : List Addr) (v : V) : SV → Prop
  | .val d => Dr K F ρ v d
  | .own ds => ∃ a xs, v = .ref a ∧ H a = some (.lst xs) ∧ DrL K F ρ xs ds ∧ F a = none ∧ a ∉ ρ ∧ B a = none
  | .dct kvs => ∃ a nes P w, v = .ref a ∧ H a = some (dnO P w a nes) ∧ KD K F ρ nes kvs ∧ F a = none ∧ a ∉ ρ ∧ B a = none
structure EnvR (K : PySem.W.Frag) (B F H : Hp) (ρ : List Addr) (σ : L2.St) (env : Env) : Prop where
  len : σ.length = env.length
  at_ : ∀ (i : Nat) (sv : SV), env[i]? = some (some sv) → ∃ v, σ[i]? = some (some v) ∧ SVr K B F H ρ v sv
  apart : ∀ (i j : Nat) (ds es : List D) (a : Addr), env[i]? = some (some (.own ds)) → env[j]? = some (some (.own es)) → σ[i]? = some (some (.ref a)) → σ[j]? = some (some (.ref a)) → i = j
  apd : ∀ (i j : Nat) (ds es : List (NestedKey × D)) (a : Addr), env[i]? = some (some (.dct ds)) → env[j]? = some (some (.dct es)) → σ[i]? = some (some (.ref a)) → σ[j]? = some (some (.ref a)) → i = j
structure Ext (F H : Hp) (ρ : List Addr) (F' H' : Hp) (ρ' : List Addr) : Prop where
  ff : Same F F'
  hh : ∀ a o, H a = some o → a ∉ ρ → H' a = some o
  dm : ∀ a, H a ≠ none → H' a ≠ none
  new : ∀ a, F a = none → F' a ≠ none → H a = none
  rr : ∀ (i : Nat) (a : Addr), ρ[i]? = some a → ρ'[i]? = some a
  rn : ∀ a ∈ ρ', a ∈ ρ ∨ H a = none
structure SR (K : PySem.W.Frag) (B F H : Hp) (ρ : List Addr) (σ : L2.St) (env : Env) (μ : Store) : Prop where
  fh : Same F H
  cells : Cells K F H ρ μ
  env : EnvR K B F H ρ σ env
section
variable {K : PySem.W.Frag} {B F H F' H' F'' H'' : Hp} {ρ ρ' ρ'' : List Addr} {σ : L2.St} {env : Env} {μ μ' : Store}
theorem Ext.refl : Ext F H ρ F H ρ := ⟨Same.refl _, fun _ _ h _ => h, fun _ h => h, fun _ h1 h2 => absurd h1 h2, fun _ _ h => h, fun _ h => .inl h⟩
theorem Ext.trans (a : Ext F H ρ F' H' ρ') (b : Ext F' H' ρ' F'' H'' ρ'') : Ext F H ρ F'' H'' ρ'' where
  ff := a.ff.trans b.ff
  hh := fun x o h n => b.hh x o (a.hh x o h n) fun z => (a.rn x z).elim n fun q => by rw [q] at h; cases h
  dm := fun x h => b.dm x (a.dm x h)
  new := fun x h1 h2 => by
    by_cases q : F' x = none
    · have z := b.new x q h2
      by_cases w : H x = none
      · exact w
      · exact absurd z (a.dm x w)
    · exact a.new x h1 q
  rr := fun i x h => b.rr i x (a.rr i x h)
  rn := fun x h => (b.rn x h).elim (fun z => a.rn x z) fun z => .inr (by
    by_cases w : H x = none
    · exact w
    · exact absurd z (a.dm x w))
theorem Dr.ext {v : V} {d : D} (h : Dr K F ρ v d) (e : Ext F H ρ F' H' ρ') : Dr K F' ρ' v d := Dr.mono e.ff e.rr _ _ h
theorem DrL.ext {v : List V} {d : List D} (h : DrL K F ρ v d) (e : Ext F H ρ F' H' ρ') : DrL K F' ρ' v d := DrL.mono e.ff e.rr _ _ h
theorem SVr.ext {v : V} {sv : SV} (h : SVr K B F H ρ v sv) (e : Ext F H ρ F' H' ρ') : SVr K B F' H' ρ' v sv := by
  cases sv with
  | val d => exact Dr.ext h e
  | own ds =>
    obtain ⟨a, xs, h1, h2, h3, h4, h5, h6⟩ := h
    have hn : H a ≠ none := by rw [h2]; exact fun z => nomatch z
    refine ⟨a, xs, h1, e.hh _ _ h2 h5, h3.ext e, ?_, fun z => (e.rn a z).elim h5 hn, h6⟩
    by_cases q : F' a = none
    · exact q
    · exact absurd (e.new a h4 q) hn
  | dct kvs =>
    obtain ⟨a, nes, P, w, h1, h2, h3, h4, h5, h6⟩ := h
    have hn : H a ≠ none := by rw [h2]; exact fun z => nomatch z
    refine ⟨a, nes, P, w, h1, e.hh _ _ h2 h5, KD.mono e.ff e.rr h3, ?_, fun z => (e.rn a z).elim h5 hn, h6⟩
    by_cases q : F' a = none
    · exact q
    · exact absurd (e.new a h4 q) hn
theorem SR.step (S : SR K B F H ρ σ env μ) (e : Ext F H ρ F' H' ρ') (fh : Same F' H') (c : Cells K F' H' ρ' μ') : SR K B F' H' ρ' σ env μ' :=
  ⟨fh, c, ⟨S.env.len, fun i sv h => let ⟨v, h1, h2⟩ := S.env.at_ i sv h; ⟨v, h1, h2.ext e⟩, S.env.apart, S.env.apd⟩⟩
/-- an extension that leaves all as it was -/
structure PX (F H F' H' : Hp) : Prop where
  ff : Same F F'
  hh : Same H H'
  fh : Same F' H'
  new : ∀ a, F a = none → F' a ≠ none → H a = none
theorem PX.refl (h : Same F H) : PX F H F H := ⟨Same.refl _, Same.refl _, h, fun _ a b => absurd a b⟩
theorem PX.ext (p : PX F H F' H') : Ext F H ρ F' H' ρ := ⟨p.ff, fun a o h _ => p.hh a o h, fun a h => (by
  cases q : H a with
  | none => exact absurd q h
  | some o => rw [p.hh a o q]; exact fun z => nomatch z), p.new, fun _ _ h => h, fun _ h => .inl h⟩
theorem Cells.px (c : Cells K F H ρ μ) (p : PX F H F' H') : Cells K F' H' ρ μ := ⟨c.len, c.nd, fun i a ds h1 h2 => by
  obtain ⟨h3, xs, h4, h5⟩ := c.at_ i a ds h1 h2
  refine ⟨?_, xs, p.hh _ _ h4, DrL.mono p.ff (fun _ _ h => h) _ _ h5⟩
  by_cases q : F' a = none
  · exact q
  · have := p.new a h3 q
    rw [h4] at this; cases this⟩
theorem same_upd' {H : Hp} {p : Addr} {o : HO} (h : H p = none) : Same H (upd H p o) := fun b x e => by
  rw [upd_ne (ne_of_none e h)]; exact e
theorem none_of_same {F H : Hp} {p : Addr} (fh : Same F H) (h : H p = none) : F p = none := fh.free h
theorem PX.new_ (fh : Same F H) {p : Addr} {o : HO} (h : H p = none) : PX F H (upd F p o) (upd H p o) := by
  refine ⟨same_upd' (fh.free h), same_upd' h, fun b x e => ?_, fun a h1 h2 => ?_⟩
  · by_cases q : b = p
    · subst q; rw [upd_same] at e ⊢; exact e
    · rw [upd_ne q] at e ⊢; exact fh _ _ e
  · by_cases q : a = p
    · subst q; exact h
    · rw [upd_ne q] at h2; exact absurd h1 h2
theorem PX.trans (a : PX F H F' H') (b : PX F' H' F'' H'') : PX F H F'' H'' := by
  refine ⟨a.ff.trans b.ff, a.hh.trans b.hh, b.fh, fun x h1 h2 => ?_⟩
  by_cases q : F' x = none
  · have z := b.new x q h2
    exact a.hh.free z
  · exact a.new x h1 q
theorem SR.px (S : SR K B F H ρ σ env μ) (p : PX F H F' H') : SR K B F' H' ρ σ env μ := S.step p.ext p.fh (S.cells.px p)
end
end Py
end
section
set_option Elab.async false
set_option linter.all false
namespace Py
open PySem L2
/-! ### the syntax that is served -/
inductive Ty where
  | int | bool | str | tup | lst
  deriving DecidableEq
inductive Bi where
  | len | abs | max | min | sum | tuple | list | int | minp
  deriving DecidableEq
inductive T where
  | nm (i : Nat) | tp (ts : List T)
mutual
inductive E where
  | slot (i : Nat) | glob (g : Nat) | int (i : Int) | bl (b : Bool) | non | str (s : Str)
  | bin (op : Operator) (a b : E) | neg (a : E) | not (a : E)
  | cmp (op : CmpOp) (a b : E) | isN (a : E) | notN (a : E)
  | and (a : E) (r : Es) | or (a : E) (r : Es)
  | ite (c a b : E)
  | tup (es : Es) | lst (es : Es) | mlst (es : Es)
  | ix (a b : E) | slc (a : E) (lo hi : Eo)
  | call (f : Nat) (e : E) (es : Es)
  | bi (b : Bi) (e : E) (es : Es)
  | isi (e : E) (t : Ty)
  | lc (e : E) (t : T) (it : I) (c : Eo) (vs : List Nat)
  | bor (i : Nat) (e : E)
  | dIn (neg : Bool) (i : Nat) (e : E) | dAt (i : Nat) (e : E) | dVals (i : Nat)
  | chain (op op' : CmpOp) (a b c : E)
  | rngL (e : E) | rev (e : E)
inductive Es where
  | nil | cons (e : E) (es : Es)
inductive Eo where
  | none | some (e : E)
inductive I where
  | seq (e : E) | rng1 (e : E) | rng2 (a b : E) | zip (a b : E) | enum (e : E) | rngD (e : E)
end
inductive S where
  | app (i : Nat) (e : E)
  | expr (e : E)
  | asg (t : T) (e : E)
  | asgN (i : Nat) (e : E)
  | par (i j : Nat) (a b : E)
  | aug (i : Nat) (op : Operator) (e : E)
  | setm (o i e : E)
  | ret (e : E) | retN
  | iff (c : E) (a b : List S)
  | wh (c : E) (b : List S)
  | for (t : T) (it : I) (b : List S)
  | brk | cont | pass
  | frz (i : Nat) (s : S)
  | dNew (i : Nat) | dPut (i : Nat) (k e : E) | ext (i : Nat) (e : E)

/-! ### the values of operations -/
abbrev SZ : Nat := 16777216
abbrev B64 : Int := 18446744073709551616
mutual
def toPy : D → Option PyData
  | .non => some .none
  | .bl b => some (.bool b)
  | .int i => some (.int i)
  | .str s => some (.str s)
  | .tup ds => (toPys ds).map .tuple
  | .lst ds => (toPys ds).map .list
  | .scr ds => (toPys ds).map .list
  | .mr _ => none
def toPys : List D → Option (List PyData)
  | [] => some []
  | d :: ds => (toPy d).bind fun p => (toPys ds).map fun ps => p :: ps
end
def mulOk (i j : Int) : Bool := decide (i.natAbs.log2 + j.natAbs.log2 < 1000000)
def divOk (j : Int) : Bool := decide (0 < j) && decide (j.natAbs.log2 < 9000)
def binS : Operator → D → D → Option D
  | .Add, .int i, .int j => some (.int (i + j))
  | .Sub, .int i, .int j => some (.int (i - j))
  | .Mult, .int i, .int j => if mulOk i j then some (.int (i * j)) else none
  | .FloorDiv, .int i, .int j => if divOk j then some (.int (i / j)) else none
  | .Mod, .int i, .int j => if j != 0 then some (.int (i.fmod j)) else none
  | .Pow, .int i, .int j => if decide (0 ≤ j) && decide (j ≤ 1000000) && decide (i.natAbs < 2 ^ 64) then some (.int (i ^ j.toNat)) else none
  | .RShift, .int i, .int j => if decide (0 ≤ j) then some (.int (i / 2 ^ j.toNat)) else none
  | .BitAnd, .int i, .int j => if decide (0 ≤ i) && decide (j = 1) then some (.int (i % 2)) else none
  | .Add, .tup a, .tup b => if a.length + b.length ≤ SZ then some (.tup (a ++ b)) else none
  | .Add, .lst a, .lst b => if a.length + b.length ≤ SZ then some (.lst (a ++ b)) else none
  | _, _, _ => none
def eqS (a b : D) : Option Bool := (toPy a).bind fun p => (toPy b).bind fun q => if SeqAt.shaped p && SeqAt.shaped q then some (PyData.eqv p q) else none
def inS (a b : D) : Option Bool := (toPy a).bind fun p => (toPy b).bind fun q => match q with
  | .list ps => if SeqAt.shaped p && SeqAt.shaped (.list ps) then some (ps.any fun z => PyData.eqv z p) else none
  | _ => none
def flat : D → Bool
  | .non => true | .bl _ => true | .int _ => true | .str _ => true
  | _ => false
mutual
def noL : D → Bool
  | .non => true | .bl _ => true | .int _ => true | .str _ => true
  | .tup ds => noLs ds
  | .lst _ => false | .scr _ => false | .mr _ => false
def noLs : List D → Bool
  | [] => true
  | d :: ds => noL d && noLs ds
end
def cmpS : CmpOp → D → D → Option Bool
  | .Lt, .int i, .int j => some (decide (i < j))
  | .LtE, .int i, .int j => some (decide (i ≤ j))
  | .Gt, .int i, .int j => some (decide (j < i))
  | .GtE, .int i, .int j => some (decide (j ≤ i))
  | .Eq, a, b => eqS a b
  | .NotEq, a, b => (eqS a b).map not
  | .In, a, b => inS a b
  | .NotIn, a, b => (inS a b).map not
  | .Is, .bl a, .bl b => some (decide (a = b))
  | .IsNot, .bl a, .bl b => some (!decide (a = b))
  | _, _, _ => none
def isNon : D → Bool
  | .non => true
  | _ => false
def truS : D → Option Bool
  | .non => some false
  | .bl b => some b
  | .int i => some (i != 0)
  | .tup ds => some (!ds.isEmpty)
  | .lst ds => some (!ds.isEmpty)
  | _ => none
/-- the items of a list or a tuple -/
def itsS (μ : Store) : D → Option (List D)
  | .tup ds => some ds
  | .lst ds => some ds
  | .scr ds => some ds
  | .mr i => μ[i]?
  | _ => none
/-- the items of a list -/
def lstS (μ : Store) : D → Option (List D)
  | .lst ds => some ds
  | .scr ds => some ds
  | .mr i => μ[i]?
  | _ => none
def ixS (μ : Store) (d : D) : D → Option D
  | .int i => (itsS μ d).bind fun ds => atI ds i
  | _ => none
def cutS (ds : List D) (lo hi : Option Int) : List D := (ds.drop (HT.sIx ds.length 0 lo)).take (HT.sIx ds.length ds.length hi - HT.sIx ds.length 0 lo)
def slcS : D → Option Int → Option Int → Option D
  | .tup ds, lo, hi => some (.tup (cutS ds lo hi))
  | .lst ds, lo, hi => some (.lst (cutS ds lo hi))
  | _, _, _ => none
def asInt : D → Option Int
  | .int i => some i
  | _ => none
def asInts : List D → Option (List Int)
  | [] => some []
  | d :: ds => (asInt d).bind fun i => (asInts ds).map fun is => i :: is
def asPair : D → Option (Int × Int)
  | .tup [.int a, .int b] => some (a, b)
  | _ => none
def asPairs : List D → Option (List (Int × Int))
  | [] => some []
  | d :: ds => (asPair d).bind fun p => (asPairs ds).map fun ps => p :: ps
def maxI : List Int → Int
  | [] => 0
  | [x] => x
  | x :: y :: r => maxI ((if y > x then y else x) :: r)
termination_by l => l.length
def minI : List Int → Int
  | [] => 0
  | [x] => x
  | x :: y :: r => minI ((if y < x then y else x) :: r)
termination_by l => l.length
def biS (μ : Store) : Bi → List D → Option D
  | .len, [d] => (itsS μ d).map fun ds => .int ds.length
  | .abs, [.int i] => some (.int (if i < 0 then -i else i))
  | .max, [.int i, .int j] => some (.int (if j > i then j else i))
  | .min, [.int i, .int j] => some (.int (if j < i then j else i))
  | .max, [d] => (lstS μ d).bind fun ds => (asInts ds).bind fun is => if is.isEmpty then none else some (.int (maxI is))
  | .min, [d] => (lstS μ d).bind fun ds => (asInts ds).bind fun is => if is.isEmpty then none else some (.int (minI is))
  | .sum, [d] => (lstS μ d).bind fun ds => (asInts ds).map fun is => .int is.sum
  | .tuple, [d] => (itsS μ d).map .tup
  | .list, [d] => (itsS μ d).map .lst
  | .int, [.int i] => some (.int i)
  | .int, [.bl b] => some (.int (if b then 1 else 0))
  | .minp, [d] => (lstS μ d).bind fun ds => (asPairs ds).bind fun ps => match ps with
    | [] => none
    | p :: r => some (.tup [.int (minP p r).1, .int (minP p r).2])
  | _, _ => none
def isiS : D → Ty → Option Bool
  | .non, _ => some false
  | .bl _, t => some (t == .bool || t == .int)
  | .int _, t => some (t == .int)
  | .str _, t => some (t == .str)
  | .tup _, t => some (t == .tup)
  | .lst _, t => some (t == .lst)
  | _, _ => none
/-! ### keys of dicts: tuples of numbers and of such tuples -/
mutual
def keyN : D → Option NestedKey
  | .non => some .none
  | .int i => some (.num i)
  | .tup ds => (keyNs ds).map .tup
  | _ => none
def keyNs : List D → Option (List NestedKey)
  | [] => some []
  | d :: ds => (keyN d).bind fun k => (keyNs ds).map fun ks => k :: ks
end
def keyS : D → Option NestedKey
  | .tup ds => (keyN (.tup ds)).bind fun k => if k.depth ≤ 8 then some k else none
  | _ => none
def dAtS (kvs : List (NestedKey × D)) (k : NestedKey) : Option D := (kvs.find? fun x => decide (x.1 = k)).map (·.2)
def dPutS (kvs : List (NestedKey × D)) (k : NestedKey) (d : D) : List (NestedKey × D) := if (dAtS kvs k).isSome then kvs.map fun x => if x.1 = k then (x.1, d) else x else kvs ++ [(k, d)]
/-! ### slots -/
def getD' (env : Env) (i : Nat) : Option (List (NestedKey × D)) := match env[i]? with
  | some (some (.dct kvs)) => some kvs
  | _ => none
def getV (env : Env) (i : Nat) : Option D := match env[i]? with
  | some (some (.val d)) => some d
  | _ => none
def getO (env : Env) (i : Nat) : Option (List D) := match env[i]? with
  | some (some (.own ds)) => some ds
  | _ => none
def setV (env : Env) (i : Nat) (d : D) : Option Env := if i < env.length then some (env.set i (some (.val d))) else none
mutual
def asgT : T → D → Env → Option Env
  | .nm i, d, env => setV env i d
  | .tp ts, .tup ds, env => asgTs ts ds env
  | .tp _, _, _ => none
def asgTs : List T → List D → Env → Option Env
  | [], [], env => some env
  | t :: ts, d :: ds, env => (asgT t d env).bind fun env' => asgTs ts ds env'
  | _, _, _ => none
end
mutual
def tgS : T → List Nat
  | .nm i => [i]
  | .tp ts => tgsS ts
def tgsS : List T → List Nat
  | [] => []
  | t :: ts => tgS t ++ tgsS ts
end
def wipeE (env : Env) : List Nat → Env
  | [] => env
  | v :: vs => (wipeE env vs).set v none
/-! ### walks -/
def zipD (a b : List D) : List D := (a.zip b).map fun p => .tup [p.1, p.2]
def enumD : Nat → List D → List D
  | _, [] => []
  | i, d :: ds => .tup [.int i, d] :: enumD (i + 1) ds
def rangeD (lo : Int) (n : Nat) : List D := (List.range n).map fun i => .int (lo + (i : Nat))
/-- j, j - 1, .., 0 -/
def rangeDn (j : Int) : List D := (List.range (j + 1).toNat).map fun i => .int (j - (i : Nat))
def rngDS (j : Int) : Option (List D) := if decide (-1 ≤ j) && decide (j < 16777215) then some (rangeDn j) else none
def rngS (lo hi : Int) : Option (List D) := if decide (-4611686018427387904 ≤ lo) && decide (lo < 4611686018427387904) && decide (-4611686018427387904 ≤ hi) && decide (hi < 4611686018427387904) && decide ((hi - lo).toNat ≤ SZ) then some (rangeD lo (hi - lo).toNat) else none
/-- [f x for x in ds if c x] -/
def lcS (t : T) (c : Env → Store → Option (Bool × Store)) (f : Env → Store → Option (D × Store)) (env : Env) : List D → Store → Option (List D × Store)
  | [], μ => some ([], μ)
  | d :: ds, μ => (asgT t d env).bind fun env' => (c env' μ).bind fun (b, μ1) =>
    if b then (f env' μ1).bind fun (x, μ2) => (lcS t c f env ds μ2).map fun (xs, μ3) => (x :: xs, μ3) else lcS t c f env ds μ1
def scalS : Store → Bool
  | [] => true
  | ds :: r => ds.all flat && scalS r
/-! ### expressions -/
section
variable (Φ : Nat → List D → Store → Option (D × Store)) (Γ : Nat → Option D)
mutual
def ev : E → Env → Store → Option (D × Store)
  | .slot i, env, μ => (getV env i).map fun d => (d, μ)
  | .glob g, _, μ => (Γ g).map fun d => (d, μ)
  | .int i, _, μ => some (.int i, μ)
  | .bl b, _, μ => some (.bl b, μ)
  | .non, _, μ => some (.non, μ)
  | .str s, _, μ => some (.str s, μ)
  | .bin op a b, env, μ => (ev a env μ).bind fun (x, μ1) => (ev b env μ1).bind fun (y, μ2) => (binS op x y).map fun d => (d, μ2)
  | .neg a, env, μ => (ev a env μ).bind fun (x, μ1) => (asInt x).map fun i => (.int (-i), μ1)
  | .not a, env, μ => (ev a env μ).bind fun (x, μ1) => (truS x).map fun b => (.bl (!b), μ1)
  | .cmp op a b, env, μ => (ev a env μ).bind fun (x, μ1) => (ev b env μ1).bind fun (y, μ2) => (cmpS op x y).map fun d => (.bl d, μ2)
  | .isN a, env, μ => (ev a env μ).map fun (x, μ1) => (.bl (isNon x), μ1)
  | .notN a, env, μ => (ev a env μ).map fun (x, μ1) => (.bl (!isNon x), μ1)
  | .and a r, env, μ => (ev a env μ).bind fun (x, μ1) => evAnd x r env μ1
  | .or a r, env, μ => (ev a env μ).bind fun (x, μ1) => evOr x r env μ1
  | .ite c a b, env, μ => (evT c env μ).bind fun (k, μ1) => if k then ev a env μ1 else ev b env μ1
  | .tup es, env, μ => (evs es env μ).bind fun (ds, μ1) => if ds.length ≤ SZ then some (.tup ds, μ1) else none
  | .lst es, env, μ => (evs es env μ).bind fun (ds, μ1) => if ds.length ≤ SZ then some (.lst ds, μ1) else none
  | .mlst es, env, μ => (evs es env μ).bind fun (ds, μ1) => if ds.length ≤ SZ then some (.mr μ1.length, μ1 ++ [ds]) else none
  | .ix a b, env, μ => (ev a env μ).bind fun (x, μ1) => (ev b env μ1).bind fun (y, μ2) => (ixS μ2 x y).map fun d => (d, μ2)
  | .slc a lo hi, env, μ => (ev a env μ).bind fun (x, μ1) => (evo lo env μ1).bind fun (l, μ2) => (evo hi env μ2).bind fun (h, μ3) => (slcS x l h).map fun d => (d, μ3)
  | .call f e es, env, μ => (ev e env μ).bind fun (x, μ1) => (evs es env μ1).bind fun (xs, μ2) => Φ f (x :: xs) μ2
  | .bi b e es, env, μ => (ev e env μ).bind fun (x, μ1) => (evs es env μ1).bind fun (xs, μ2) => (biS μ2 b (x :: xs)).map fun d => (d, μ2)
  | .isi e t, env, μ => (ev e env μ).bind fun (x, μ1) => (isiS x t).map fun b => (.bl b, μ1)
  | .lc e t it c vs, env, μ => (evI it env μ).bind fun (ds, μ1) => if ds.length ≤ SZ then (lcS t (fun env' μ' => evc c env' μ') (fun env' μ' => ev e env' μ') (wipeE env vs) ds μ1).map fun (xs, μ2) => (.lst xs, μ2) else none
  | .bor i e, env, μ => (getO env i).bind fun ds => (ev e (env.set i (some (.val (.lst ds)))) μ).bind fun (d, μ1) => if noL d && scalS μ1 then some (d, μ1) else none
  | .dIn neg i e, env, μ => (ev e env μ).bind fun (d, μ1) => (getD' env i).bind fun kvs => (keyS d).map fun k => (.bl (if neg then !(dAtS kvs k).isSome else (dAtS kvs k).isSome), μ1)
  | .dAt i e, env, μ => (ev e env μ).bind fun (d, μ1) => (getD' env i).bind fun kvs => (keyS d).bind fun k => (dAtS kvs k).map fun v => (v, μ1)
  | .dVals i, env, μ => (getD' env i).map fun kvs => (.lst (kvs.map (·.2)), μ)
  | .chain op op' a b c, env, μ => (ev a env μ).bind fun (x, μ1) => (ev b env μ1).bind fun (y, μ2) => (cmpS op x y).bind fun k => if k then (ev c env μ2).bind fun (z, μ3) => (cmpS op' y z).map fun k' => (.bl k', μ3) else some (.bl false, μ2)
  | .rngL e, env, μ => (ev e env μ).bind fun (x, μ1) => (asInt x).bind fun j => (rngS 0 j).map fun ds => (.lst ds, μ1)
  | .rev e, env, μ => (ev e env μ).bind fun (x, μ1) => match x with
    | .lst ds => some (.lst ds.reverse, μ1)
    | .scr ds => some (.lst ds.reverse, μ1)
    | _ => none
def evT : E → Env → Store → Option (Bool × Store)
  | .not a, env, μ => (evT a env μ).map fun (b, μ1) => (!b, μ1)
  | .and a r, env, μ => (evT a env μ).bind fun (k, μ1) => if k then evTAnd r env μ1 else some (false, μ1)
  | .or a r, env, μ => (evT a env μ).bind fun (k, μ1) => if k then some (true, μ1) else evTOr r env μ1
  | .ite _ _ _, _, _ => none
  | .bor i e, env, μ => (getO env i).bind fun ds => (evT e (env.set i (some (.val (.lst ds)))) μ).bind fun (d, μ1) => if scalS μ1 then some (d, μ1) else none
  | .cmp op a b, env, μ => (ev a env μ).bind fun (x, μ1) => (ev b env μ1).bind fun (y, μ2) => (cmpS op x y).map fun d => (d, μ2)
  | .isN a, env, μ => (ev a env μ).map fun (x, μ1) => (isNon x, μ1)
  | .notN a, env, μ => (ev a env μ).map fun (x, μ1) => (!isNon x, μ1)
  | .slot i, env, μ => (getV env i).bind fun d => (truS d).map fun k => (k, μ)
  | .call f e es, env, μ => (ev e env μ).bind fun (x, μ1) => (evs es env μ1).bind fun (xs, μ2) => (Φ f (x :: xs) μ2).bind fun (d, μ3) => (truS d).map fun k => (k, μ3)
  | .ix a b, env, μ => (ev a env μ).bind fun (x, μ1) => (ev b env μ1).bind fun (y, μ2) => (ixS μ2 x y).bind fun d => (truS d).map fun k => (k, μ2)
  | .isi e t, env, μ => (ev e env μ).bind fun (x, μ1) => (isiS x t).map fun b => (b, μ1)
  | .bi b e es, env, μ => (ev e env μ).bind fun (x, μ1) => (evs es env μ1).bind fun (xs, μ2) => (biS μ2 b (x :: xs)).bind fun d => (truS d).map fun k => (k, μ2)
  | .dIn neg i e, env, μ => (ev e env μ).bind fun (d, μ1) => (getD' env i).bind fun kvs => (keyS d).map fun k => ((if neg then !(dAtS kvs k).isSome else (dAtS kvs k).isSome), μ1)
  | .chain op op' a b c, env, μ => (ev a env μ).bind fun (x, μ1) => (ev b env μ1).bind fun (y, μ2) => (cmpS op x y).bind fun k => if k then (ev c env μ2).bind fun (z, μ3) => (cmpS op' y z).map fun k' => (k', μ3) else some (false, μ2)
  | _, _, _ => none
def evAnd : D → Es → Env → Store → Option (D × Store)
  | x, .nil, _, μ => some (x, μ)
  | .bl true, .cons e r, env, μ => (ev e env μ).bind fun (y, μ1) => evAnd y r env μ1
  | .bl false, .cons _ _, _, μ => some (.bl false, μ)
  | _, _, _, _ => none
def evOr : D → Es → Env → Store → Option (D × Store)
  | x, .nil, _, μ => some (x, μ)
  | .bl false, .cons e r, env, μ => (ev e env μ).bind fun (y, μ1) => evOr y r env μ1
  | .bl true, .cons _ _, _, μ => some (.bl true, μ)
  | _, _, _, _ => none
def evTAnd : Es → Env → Store → Option (Bool × Store)
  | .nil, _, μ => some (true, μ)
  | .cons e r, env, μ => (evT e env μ).bind fun (k, μ1) => if k then evTAnd r env μ1 else some (false, μ1)
def evTOr : Es → Env → Store → Option (Bool × Store)
  | .nil, _, μ => some (false, μ)
  | .cons e r, env, μ => (evT e env μ).bind fun (k, μ1) => if k then some (true, μ1) else evTOr r env μ1
def evs : Es → Env → Store → Option (List D × Store)
  | .nil, _, μ => some ([], μ)
  | .cons e r, env, μ => (ev e env μ).bind fun (x, μ1) => (evs r env μ1).map fun (xs, μ2) => (x :: xs, μ2)
def evo : Eo → Env → Store → Option (Option Int × Store)
  | .none, _, μ => some (none, μ)
  | .some e, env, μ => (ev e env μ).bind fun (x, μ1) => (asInt x).map fun i => (some i, μ1)
def evc : Eo → Env → Store → Option (Bool × Store)
  | .none, _, μ => some (true, μ)
  | .some e, env, μ => evT e env μ
def evI : I → Env → Store → Option (List D × Store)
  | .seq e, env, μ => (ev e env μ).bind fun (x, μ1) => match x with
    | .tup ds => some (ds, μ1)
    | .lst ds => some (ds, μ1)
    | .scr ds => some (ds, μ1)
    | _ => none
  | .rng1 e, env, μ => (ev e env μ).bind fun (x, μ1) => (asInt x).bind fun j => (rngS 0 j).map fun ds => (ds, μ1)
  | .rng2 a b, env, μ => (ev a env μ).bind fun (x, μ1) => (ev b env μ1).bind fun (y, μ2) => (asInt x).bind fun i => (asInt y).bind fun j => (rngS i j).map fun ds => (ds, μ2)
  | .zip a b, env, μ => (ev a env μ).bind fun (x, μ1) => (ev b env μ1).bind fun (y, μ2) => match x, y with
    | .tup ds, .tup es => some (zipD ds es, μ2)
    | .lst ds, .lst es => some (zipD ds es, μ2)
    | _, _ => none
  | .enum e, env, μ => (ev e env μ).bind fun (x, μ1) => match x with
    | .lst ds => some (enumD 0 ds, μ1)
    | .tup ds => some (enumD 0 ds, μ1)
    | _ => none
  | .rngD e, env, μ => (ev e env μ).bind fun (x, μ1) => (asInt x).bind fun j => (rngDS j).map fun ds => (ds, μ1)
end
/-! ### statements -/
inductive Fl where
  | nx (env : Env) (μ : Store) | rt (d : D) (μ : Store) | bk (env : Env) (μ : Store) | ct (env : Env) (μ : Store)
def forS (t : T) (b : Env → Store → Option Fl) : List D → Env → Store → Option Fl
  | [], env, μ => some (.nx env μ)
  | d :: ds, env, μ => (asgT t d env).bind fun env1 => (b env1 μ).bind fun
    | .nx env' μ' => forS t b ds env' μ'
    | .ct env' μ' => forS t b ds env' μ'
    | .bk env' μ' => some (.nx env' μ')
    | .rt d μ' => some (.rt d μ')
def whN (c : Env → Store → Option (Bool × Store)) (b : Env → Store → Option Fl) : Nat → Env → Store → Option Fl
  | 0, _, _ => none
  | n + 1, env, μ => (c env μ).bind fun (k, μ1) => if k then (b env μ1).bind fun
      | .nx env' μ' => whN c b n env' μ'
      | .ct env' μ' => whN c b n env' μ'
      | .bk env' μ' => some (.nx env' μ')
      | .rt d μ' => some (.rt d μ')
    else some (.nx env μ1)
open Classical in
noncomputable def whS (c : Env → Store → Option (Bool × Store)) (b : Env → Store → Option Fl) (env : Env) (μ : Store) : Option Fl :=
  if h : ∃ n r, whN c b n env μ = some r then some (choose (choose_spec h)) else none
mutual
noncomputable def ex : S → Env → Store → Option Fl
  | .app i e, env, μ => (ev Φ Γ e env μ).bind fun (d, μ1) => (getO env i).bind fun ds => if ds.length < SZ then some (.nx (env.set i (some (.own (ds ++ [d])))) μ1) else none
  | .expr e, env, μ => (ev Φ Γ e env μ).map fun (_, μ1) => .nx env μ1
  | .asg t e, env, μ => (ev Φ Γ e env μ).bind fun (d, μ1) => (asgT t d env).map fun env' => .nx env' μ1
  | .asgN i e, env, μ => (ev Φ Γ e env μ).bind fun (d, μ1) => match d with
    | .lst ds => if i < env.length then some (.nx (env.set i (some (.own ds))) μ1) else none
    | _ => none
  | .par i j a b, env, μ => (ev Φ Γ a env μ).bind fun (x, μ1) => (ev Φ Γ b env μ1).bind fun (y, μ2) => (setV env i x).bind fun env1 => (setV env1 j y).map fun env2 => .nx env2 μ2
  | .aug i op e, env, μ => (getV env i).bind fun x => (ev Φ Γ e env μ).bind fun (y, μ1) => match op, x, y with
    | .Add, .int a, .int b => (setV env i (.int (a + b))).map fun env' => .nx env' μ1
    | .Sub, .int a, .int b => (setV env i (.int (a - b))).map fun env' => .nx env' μ1
    | _, _, _ => none
  | .setm o i e, env, μ => (ev Φ Γ e env μ).bind fun (d, μ1) => (ev Φ Γ o env μ1).bind fun (x, μ2) => (ev Φ Γ i env μ2).bind fun (y, μ3) => match x, y with
    | .mr c, .int k => (μ3[c]?).bind fun ds => (ixN ds.length k).map fun j => .nx env (μ3.set c (ds.set j d))
    | _, _ => none
  | .ret e, env, μ => (ev Φ Γ e env μ).map fun (d, μ1) => .rt d μ1
  | .retN, _, μ => some (.rt .non μ)
  | .iff c a b, env, μ => (evT Φ Γ c env μ).bind fun (k, μ1) => if k then exs a env μ1 else exs b env μ1
  | .wh c b, env, μ => whS (fun env' μ' => evT Φ Γ c env' μ') (fun env' μ' => exs b env' μ') env μ
  | .for t it b, env, μ => (evI Φ Γ it env μ).bind fun (ds, μ1) => forS t (fun env' μ' => exs b env' μ') ds env μ1
  | .brk, env, μ => some (.bk env μ)
  | .cont, env, μ => some (.ct env μ)
  | .pass, env, μ => some (.nx env μ)
  | .frz i s, env, μ => (getO env i).bind fun ds => ex s (env.set i (some (.val (.lst ds)))) μ
  | .ext i e, env, μ => (ev Φ Γ e env μ).bind fun (d, μ1) => (getO env i).bind fun ds => match d with
    | .lst es => if ds.length + es.length ≤ SZ then some (.nx (env.set i (some (.own (ds ++ es)))) μ1) else none
    | _ => none
  | .dNew i, env, μ => if i < env.length then some (.nx (env.set i (some (.dct []))) μ) else none
  | .dPut i k e, env, μ => (ev Φ Γ e env μ).bind fun (d, μ1) => (ev Φ Γ k env μ1).bind fun (y, μ2) => (getD' env i).bind fun kvs => (keyS y).bind fun k' => if kvs.length < SZ then some (.nx (env.set i (some (.dct (dPutS kvs k' d)))) μ2) else none
noncomputable def exs : List S → Env → Store → Option Fl
  | [], env, μ => some (.nx env μ)
  | s :: r, env, μ => (ex s env μ).bind fun
    | .nx env' μ' => exs r env' μ'
    | f => some f
end
end
/-- a def: its parameters' number, its slots' number, its body -/
structure Fn where
  ar : Nat
  sl : Nat
  body : List S
noncomputable def run (fs : List Fn) (Γ : Nat → Option D) : Nat → Nat → List D → Store → Option (D × Store)
  | 0, _, _, _ => none
  | k + 1, f, ds, μ => (fs[f]?).bind fun fn => if ds.length = fn.ar then
      (exs (run fs Γ k) Γ fn.body (ds.map (fun d => some (.val d)) ++ List.replicate (fn.sl - fn.ar) none) μ).bind fun
        | .rt d μ' => some (d, μ')
        | .nx _ μ' => some (.non, μ')
        | _ => none
    else none
end Py
end
section
set_option Elab.async false
set_option linter.all false
set_option maxRecDepth 100000
namespace Py
open PySem L2
section
variable {K : PySem.W.Frag} {B F H F' H' : Hp} {ρ ρ' : List Addr} {σ : L2.St} {env : Env} {μ μ' : Store}
theorem sz : (sizeLine : Nat) = SZ := sizeLine_eq
/-- a rule of two values keeps a function of two data -/
def OpD (K : PySem.W.Frag) (r : R2) (g : D → D → Option D) : Prop := ∀ (F H : Hp) (ρ : List Addr) (x y : V) (dx dy d : D) (Q : VK), Same F H → Dr K F ρ x dx → Dr K F ρ y dy → g dx dy = some d →
  (∀ v F' H', PX F H F' H' → Dr K F' ρ v d → Q v H') → r x y H Q
theorem rdup {a : Addr} {o : HO} (h : H a = none) (fh : Same F H) : F a = none := fh.free h
theorem Dr.up {v : V} {d : D} (p : PX F H F' H') (h : Dr K F ρ v d) : Dr K F' ρ v d := Dr.mono p.ff (fun _ _ h => h) _ _ h
theorem DrL.up {v : List V} {d : List D} (p : PX F H F' H') (h : DrL K F ρ v d) : DrL K F' ρ v d := DrL.mono p.ff (fun _ _ h => h) _ _ h
theorem DrL.nil_iff {xs : List V} {ds : List D} (h : DrL K F ρ xs ds) : xs = [] ↔ ds = [] := by
  cases h <;> simp
/-- a new frozen tuple, a new frozen list -/
theorem new_tup {xs : List V} {ds : List D} {Q : VK} (fh : Same F H) (h : DrL K F ρ xs ds) (q : ∀ v F' H', PX F H F' H' → Dr K F' ρ v (.tup ds) → Q v H') : ∀ p, H p = none → Q (.ref p) (upd H p (.tup xs)) := fun p hp => by
  have P := PX.new_ (o := .tup xs) fh hp
  exact q _ (upd F p (.tup xs)) _ P (.tup (.inl (.inl upd_same)) (h.up P))
theorem new_lst {xs : List V} {ds : List D} {Q : VK} (fh : Same F H) (h : DrL K F ρ xs ds) (q : ∀ v F' H', PX F H F' H' → Dr K F' ρ v (.lst ds) → Q v H') : ∀ p, H p = none → Q (.ref p) (upd H p (.lst xs)) := fun p hp => by
  have P := PX.new_ (o := .lst xs) fh hp
  exact q _ (upd F p (.lst xs)) _ P (.lst upd_same (h.up P))
def opOf (K : PySem.W.Frag) : Operator → R2
  | .Add => fun x y H Q => rI0 (fun i j => .int (i + j)) x y H Q ∨ (rCatA K x y H Q ∨ rCat x y H Q)
  | .Sub => rI0 (fun i j => .int (i - j))
  | .Mult => rI CMulW (fun i j => .int (i * j))
  | .FloorDiv => rI CDivW (fun i j => .int (i / j))
  | .Mod => rI (fun _ j => j ≠ 0) (fun i j => .int (i.fmod j))
  | .Pow => rI CPow (fun i j => .int (i ^ j.toNat))
  | .RShift => rI (fun _ j => 0 ≤ j) fun i j => .int (i / 2 ^ j.toNat)
  | .BitAnd => fun x y H Q => ∃ n : Nat, x = .int (n : Int) ∧ y = .int 1 ∧ Q (.int ((n % 2 : Nat) : Int)) H
  | _ => fun _ _ _ _ => False
theorem op_of (X : Cx) (op : Operator) : OpR X (binaryOp op) (opOf X.K op) := by
  cases op with
  | Add => exact op_add.or (op_catA.or op_cat)
  | Sub => exact op_sub
  | Mult => exact op_mulW
  | FloorDiv => exact op_fdivW
  | Mod => exact op_modN
  | Pow => exact op_pow
  | RShift => exact op_shr
  | BitAnd => exact op_odd
  | _ => exact fun _ _ _ _ _ _ _ _ _ _ _ _ h => False.elim h
theorem mulOk_ok {i j : Int} (h : mulOk i j = true) : CMulW i j := by
  unfold mulOk at h
  have h2 := of_decide_eq_true h
  exact h2
theorem binS_ok (op : Operator) : OpD K (opOf K op) (binS op) := by
  intro F H ρ x y dx dy d Q fh rx ry e q
  unfold binS at e
  split at e
  · cases e; cases rx; cases ry
    exact .inl ⟨_, _, rfl, rfl, q _ F H (.refl fh) (.int _)⟩
  · cases e; cases rx; cases ry
    exact ⟨_, _, rfl, rfl, q _ F H (.refl fh) (.int _)⟩
  · rename_i i j
    split at e
    · cases e; cases rx; cases ry
      exact ⟨_, _, rfl, rfl, mulOk_ok ‹_›, q _ F H (.refl fh) (.int _)⟩
    · cases e
  · rename_i i j
    split at e
    · rename_i h
      cases e; cases rx; cases ry
      unfold divOk at h
      simp only [Bool.and_eq_true, decide_eq_true_eq] at h
      exact ⟨_, _, rfl, rfl, h, q _ F H (.refl fh) (.int _)⟩
    · cases e
  · split at e
    · rename_i h
      cases e; cases rx; cases ry
      exact ⟨_, _, rfl, rfl, by simpa using h, q _ F H (.refl fh) (.int _)⟩
    · cases e
  · split at e
    · rename_i h
      cases e; cases rx; cases ry
      simp only [Bool.and_eq_true, decide_eq_true_eq] at h
      exact ⟨_, _, rfl, rfl, ⟨h.1.1, h.1.2, h.2⟩, q _ F H (.refl fh) (.int _)⟩
    · cases e
  · split at e
    · rename_i h
      cases e; cases rx; cases ry
      exact ⟨_, _, rfl, rfl, of_decide_eq_true h, q _ F H (.refl fh) (.int _)⟩
    · cases e
  · rename_i i j
    split at e
    · rename_i h
      cases e; cases rx; cases ry
      simp only [Bool.and_eq_true, decide_eq_true_eq] at h
      obtain ⟨h1, rfl⟩ := h
      obtain ⟨n, rfl⟩ := Int.eq_ofNat_of_zero_le h1
      exact ⟨n, rfl, rfl, q _ F H (.refl fh) (.int _)⟩
    · cases e
  · rename_i a b
    split at e
    · rename_i h
      cases e
      cases rx with
      | tup r1 r2 =>
        cases ry with
        | tup s1 s2 =>
          have hx := same_t fh r1
          have hy := same_t fh s1
          have l1 := r2.length
          have l2 := s2.length
          refine .inr (.inl ⟨_, _, _, _, rfl, rfl, hx, hy, by rw [sz, l1, l2]; exact h, fun z => ?_, fun _ z => ?_, fun z1 z2 => new_tup fh (r2.append s2) q⟩)
          · have : a = [] := r2.nil_iff.mp z
            subst this
            exact q _ F H (.refl fh) (.tup s1 s2)
          · have : b = [] := s2.nil_iff.mp z
            subst this
            rw [List.append_nil] at q
            exact q _ F H (.refl fh) (.tup r1 r2)
    · cases e
  · rename_i a b
    split at e
    · rename_i h
      cases e
      cases rx with
      | lst r1 r2 =>
        cases ry with
        | lst s1 s2 =>
          have l1 := r2.length
          have l2 := s2.length
          exact .inr (.inr ⟨_, _, _, _, rfl, rfl, fh _ _ r1, fh _ _ s1, by rw [sz, l1, l2]; exact h, new_lst fh (r2.append s2) q⟩)
    · cases e
  · cases e
/-! ### comparisons -/
mutual
theorem toPy_ok (fh : Same F H) : ∀ (d : D) (v : V) (p : PyData), Dr K F ρ v d → toPy d = some p → Dp K H v p
  | .non, _, _, h, e => by cases h; cases e; exact .non
  | .bl _, _, _, h, e => by cases h; cases e; exact .bl _
  | .int _, _, _, h, e => by cases h; cases e; exact .int _
  | .str _, _, _, h, e => by cases h; cases e; exact .str _
  | .tup ds, _, p, h, e => by
    cases h with
    | tup a b =>
      unfold toPy at e
      obtain ⟨ps, h1, h2⟩ := Option.map_eq_some_iff.mp e
      subst h2
      exact .tup (same_t fh a) (toPys_ok fh ds _ _ b h1)
  | .lst ds, _, p, h, e => by
    cases h with
    | lst a b =>
      unfold toPy at e
      obtain ⟨ps, h1, h2⟩ := Option.map_eq_some_iff.mp e
      subst h2
      exact .lst (.inl (.inl (fh _ _ a))) (toPys_ok fh ds _ _ b h1)
  | .scr ds, _, p, h, e => by
    cases h with
    | scr a b =>
      unfold toPy at e
      obtain ⟨ps, h1, h2⟩ := Option.map_eq_some_iff.mp e
      subst h2
      exact .lst (fh.seq a) (toPys_ok fh ds _ _ b h1)
  | .mr _, _, _, h, e => by unfold toPy at e; cases e
theorem toPys_ok (fh : Same F H) : ∀ (ds : List D) (vs : List V) (ps : List PyData), DrL K F ρ vs ds → toPys ds = some ps → DpAll K H vs ps
  | [], _, _, h, e => by cases h; cases e; exact .nil
  | d :: ds, _, ps, h, e => by
    cases h with
    | cons a b =>
      unfold toPys at e
      obtain ⟨p, h1, h2⟩ := Option.bind_eq_some_iff.mp e
      obtain ⟨qs, h3, h4⟩ := Option.map_eq_some_iff.mp h2
      subst h4
      exact .cons (toPy_ok fh d _ _ a h1) (toPys_ok fh ds _ _ b h3)
end
def cmpOf (K : PySem.W.Frag) : CmpOp → R2
  | .Lt => rI0 (fun i j => .bl (decide (i < j)))
  | .LtE => rI0 (fun i j => .bl (decide (i ≤ j)))
  | .Gt => rI0 (fun i j => .bl (decide (j < i)))
  | .GtE => rI0 (fun i j => .bl (decide (j ≤ i)))
  | .Eq => rEqD K
  | .NotEq => rNeD K
  | .In => rInD K
  | .NotIn => rNotInD K
  | .Is => rIsB
  | .IsNot => rNotB
theorem cmp_of (X : Cx) (hu : X.A.units + 65 < cLine) (op : CmpOp) : OpR X (compareOp op) (cmpOf X.K op) := by
  cases op with
  | Lt => exact op_lt
  | LtE => exact op_le
  | Gt => exact op_gt
  | GtE => exact op_ge
  | Eq => exact op_eqD (by omega)
  | NotEq => exact op_neD (by omega)
  | In => exact op_inD hu
  | NotIn => exact op_notInD hu
  | Is => exact op_isBl
  | IsNot => exact op_notBl
theorem eqS_ok (fh : Same F H) {x y : V} {dx dy : D} {b : Bool} (rx : Dr K F ρ x dx) (ry : Dr K F ρ y dy) (e : eqS dx dy = some b) : ∃ p q, Dp K H x p ∧ Dp K H y q ∧ SeqAt.shaped p = true ∧ SeqAt.shaped q = true ∧ PyData.eqv p q = b := by
  unfold eqS at e
  obtain ⟨p, h1, h2⟩ := Option.bind_eq_some_iff.mp e
  obtain ⟨q, h3, h4⟩ := Option.bind_eq_some_iff.mp h2
  split at h4
  · rename_i hs
    cases h4
    simp only [Bool.and_eq_true] at hs
    exact ⟨p, q, toPy_ok fh _ _ _ rx h1, toPy_ok fh _ _ _ ry h3, hs.1, hs.2, rfl⟩
  · cases h4
theorem inS_ok (fh : Same F H) {x y : V} {dx dy : D} {b : Bool} (rx : Dr K F ρ x dx) (ry : Dr K F ρ y dy) (e : inS dx dy = some b) : ∃ p ps, Dp K H x p ∧ Dp K H y (.list ps) ∧ SeqAt.shaped p = true ∧ SeqAt.shaped (.list ps) = true ∧ (ps.any fun z => PyData.eqv z p) = b := by
  unfold inS at e
  obtain ⟨p, h1, h2⟩ := Option.bind_eq_some_iff.mp e
  obtain ⟨q, h3, h4⟩ := Option.bind_eq_some_iff.mp h2
  split at h4
  case h_2 => cases h4
  rename_i ps
  split at h4
  · rename_i hs
    cases h4
    simp only [Bool.and_eq_true] at hs
    exact ⟨p, ps, toPy_ok fh _ _ _ rx h1, toPy_ok fh _ _ _ ry h3, hs.1, hs.2, rfl⟩
  · cases h4
theorem cmpS_ok (op : CmpOp) (fh : Same F H) {x y : V} {dx dy : D} {b : Bool} {Q : VK} (rx : Dr K F ρ x dx) (ry : Dr K F ρ y dy) (e : cmpS op dx dy = some b) (q : Q (.bl b) H) : cmpOf K op x y H Q := by
  unfold cmpS at e
  split at e
  · cases e; cases rx; cases ry; exact ⟨_, _, rfl, rfl, q⟩
  · cases e; cases rx; cases ry; exact ⟨_, _, rfl, rfl, q⟩
  · cases e; cases rx; cases ry; exact ⟨_, _, rfl, rfl, q⟩
  · cases e; cases rx; cases ry; exact ⟨_, _, rfl, rfl, q⟩
  · obtain ⟨p, r, h1, h2, h3, h4, h5⟩ := eqS_ok fh rx ry e
    subst h5
    exact ⟨p, r, h1, h2, h3, h4, q⟩
  · obtain ⟨k, h6, h7⟩ := Option.map_eq_some_iff.mp e
    obtain ⟨p, r, h1, h2, h3, h4, h5⟩ := eqS_ok fh rx ry h6
    subst h5; subst h7
    exact ⟨p, r, h1, h2, h3, h4, q⟩
  · obtain ⟨p, r, h1, h2, h3, h4, h5⟩ := inS_ok fh rx ry e
    subst h5
    exact ⟨p, r, h1, h2, h3, h4, q⟩
  · obtain ⟨k, h6, h7⟩ := Option.map_eq_some_iff.mp e
    obtain ⟨p, r, h1, h2, h3, h4, h5⟩ := inS_ok fh rx ry h6
    subst h5; subst h7
    exact ⟨p, r, h1, h2, h3, h4, q⟩
  · cases e; cases rx; cases ry; exact ⟨_, _, rfl, rfl, q⟩
  · cases e; cases rx; cases ry; exact ⟨_, _, rfl, rfl, q⟩
  · cases e
theorem isNon_ok {x : V} {d : D} (r : Dr K F ρ x d) : decide (x = .non) = isNon d := by
  cases r <;> simp [isNon]
theorem truS_ok (fh : Same F H) {x : V} {d : D} {b : Bool} (r : Dr K F ρ x d) (e : truS d = some b) : TruV K x H b := by
  cases r with
  | non => cases e; exact rfl
  | bl b => cases e; exact rfl
  | int i => cases e; exact rfl
  | tup r1 r2 =>
    cases e
    refine .inr (.inl ⟨_, same_t fh r1, ?_⟩)
    cases r2 <;> rfl
  | lst r1 r2 =>
    cases e
    refine .inl ⟨_, .inl (.inl (fh _ _ r1)), ?_⟩
    cases r2 <;> rfl
  | _ => cases e
/-! ### items -/
theorem itsS_ok (fh : Same F H) (c : Cells K F H ρ μ) {x : V} {d : D} {ds : List D} (r : Dr K F ρ x d) (e : itsS μ d = some ds) : ∃ a xs, x = .ref a ∧ (SqL K H a xs ∨ SqT K H a xs) ∧ DrL K F ρ xs ds ∧ (SqT K H a xs → True) := by
  cases r with
  | tup r1 r2 => cases e; exact ⟨_, _, rfl, .inr (same_t fh r1), r2, fun _ => trivial⟩
  | lst r1 r2 => cases e; exact ⟨_, _, rfl, .inl (.inl (.inl (fh _ _ r1))), r2, fun _ => trivial⟩
  | scr r1 r2 => cases e; exact ⟨_, _, rfl, .inl (fh.seq r1), r2, fun _ => trivial⟩
  | mr h =>
    obtain ⟨_, xs, h1, h2⟩ := c.at_ _ _ _ h e
    exact ⟨_, xs, rfl, .inl (.inl (.inl h1)), h2, fun _ => trivial⟩
  | _ => cases e
theorem atI_ok {xs : List V} {ds : List D} {i : Int} {d : D} (r : DrL K F ρ xs ds) (e : atI ds i = some d) : ∃ v, atI xs i = some v ∧ Dr K F ρ v d := by
  unfold atI at e ⊢
  rw [r.length]
  obtain ⟨j, h1, h2⟩ := Option.bind_eq_some_iff.mp e
  obtain ⟨v, h3, h4⟩ := r.get h2
  exact ⟨v, Option.bind_eq_some_iff.mpr ⟨j, h1, h3⟩, h4⟩
theorem ixS_ok (fh : Same F H) (c : Cells K F H ρ μ) {x y : V} {dx dy d : D} {Q : VK} (rx : Dr K F ρ x dx) (ry : Dr K F ρ y dy) (e : ixS μ dx dy = some d) (q : ∀ v, Dr K F ρ v d → Q v H) : rIx K x y H Q := by
  unfold ixS at e
  split at e
  · obtain ⟨ds, h1, h2⟩ := Option.bind_eq_some_iff.mp e
    cases ry
    obtain ⟨a, xs, rfl, h3, h4, _⟩ := itsS_ok fh c rx h1
    obtain ⟨v, h5, h6⟩ := atI_ok h4 h2
    rcases h3 with h3 | h3
    · exact .inl ⟨_, _, _, v, rfl, rfl, h3, h5, q v h6⟩
    · exact .inr (.inl ⟨_, _, _, v, rfl, rfl, h3, h5, q v h6⟩)
  · cases e
theorem cut_ok {xs : List V} {ds : List D} (r : DrL K F ρ xs ds) (lo hi : Option Int) : DrL K F ρ (cutV xs lo hi) (cutS ds lo hi) := by
  unfold cutV cutS
  rw [r.length]
  exact (r.drop _).take _
def slOf (K : PySem.W.Frag) : V → Option Int → Option Int → Hp → VK → Prop := fun x lo hi H Q => rSlA K x lo hi H Q ∨ rSlL K x lo hi H Q
theorem sl_of (X : Cx) : SlR X (slOf X.K) := sl_tupA.or sl_list
theorem slcS_ok (fh : Same F H) {x : V} {dx d : D} {lo hi : Option Int} {Q : VK} (rx : Dr K F ρ x dx) (e : slcS dx lo hi = some d) (q : ∀ v F' H', PX F H F' H' → Dr K F' ρ v d → Q v H') : slOf K x lo hi H Q := by
  unfold slcS at e
  split at e
  · cases e
    cases rx with
    | tup r1 r2 =>
      refine .inl ⟨_, _, rfl, same_t fh r1, fun z => ?_, fun _ => new_tup fh (cut_ok r2 lo hi) q⟩
      refine q _ F H (.refl fh) (.tup r1 ?_)
      have e : cutS _ lo hi = _ := show cutS _ lo hi = _ from (by
        unfold cutS
        rw [← r2.length, z.1, z.2, List.drop_zero, Nat.sub_zero, r2.length, List.take_length])
      rw [e]
      exact r2
  · cases e
    cases rx with
    | lst r1 r2 => exact .inr ⟨_, _, rfl, .inl (.inl (fh _ _ r1)), new_lst fh (cut_ok r2 lo hi) q⟩
  · cases e
end
end Py
end
section
set_option Elab.async false
set_option linter.all false
set_option maxRecDepth 100000
namespace Py
open PySem L2
def biName : Bi → Str
  | .len => "len" | .abs => "abs" | .max => "max" | .min => "min" | .sum => "sum" | .tuple => "tuple" | .list => "list" | .int => "int" | .minp => "min"
def biOf (K : PySem.W.Frag) : Bi → List V → Hp → VK → Prop
  | .len => fun xs H Q => ∃ p ys, xs = [.ref p] ∧ (SqL K H p ys ∨ SqT K H p ys) ∧ Q (.int ys.length) H
  | .abs => fun xs H Q => ∃ i, xs = [.int i] ∧ Q (.int (if i < 0 then -i else i)) H
  | .max => fun xs H Q => (∃ i j, xs = [.int i, .int j] ∧ Q (.int (if j > i then j else i)) H) ∨ rMax K xs H Q
  | .min => fun xs H Q => (∃ i j, xs = [.int i, .int j] ∧ Q (.int (if j < i then j else i)) H) ∨ rMin K xs H Q
  | .sum => rSum K
  | .tuple => fun xs H Q => ∃ p ys, xs = [.ref p] ∧ ((SqL K H p ys ∧ ∀ l, H l = none → Q (.ref l) (upd H l (.tup ys))) ∨ (SqT K H p ys ∧ Q (.ref p) H))
  | .list => fun xs H Q => ∃ p ys, xs = [.ref p] ∧ (SqL K H p ys ∨ SqT K H p ys) ∧ ∀ l, H l = none → Q (.ref l) (upd H l (.lst ys))
  | .int => fun xs H Q => (∃ i, xs = [.int i] ∧ Q (.int i) H) ∨ ∃ k, xs = [.bl k] ∧ Q (.int (if k then 1 else 0)) H
  | .minp => rMinP K
theorem starEach_cons {e : Expr} {es : List Expr} {env : PySem.Env} (h : ∀ v p, e ≠ .Starred v p) : starEach (e :: es) env = (false, eval e env) :: starEach es env := by
  cases e <;> first | rfl | exact absurd rfl (h _ _)
section
variable {X : Cx} {e : Expr} {es : List Expr} {p pos : Pos} {t : TA}
theorem pe_bi (b : Bi) (hu : X.A.units + 16 < cLine) (hc : X.calm = true) (hg : Gl X (biName b)) (hm : X.mg (biName b) = none) (ha : PA X (e :: es) t) (hs : ∀ v p, e ≠ .Starred v p) (hpl : (backTo pos (starEach es X.env)).any (·.1) = false) :
    PE X (.Call (.Name (biName b) p) (e :: es) [] pos) (tCB (biOf X.K b) t) := by
  cases b with
  | len => exact pe_callB call_len_seq hg hm (by decide +kernel) ha (by decide) (by decide) (starEach_cons hs) hpl
  | abs => exact pe_callB call_abs hg hm (by decide +kernel) ha (by decide) (by decide) (starEach_cons hs) hpl
  | max => exact pe_callB ((call_max2 hc).or (cr_max hc)) hg hm (by decide +kernel) ha (by decide) (by decide) (starEach_cons hs) hpl
  | min => exact pe_callB ((call_min2 hc).or (cr_min hc)) hg hm (by decide +kernel) ha (by decide) (by decide) (starEach_cons hs) hpl
  | minp => exact pe_callB (cr_minP hc hu) hg hm (by decide +kernel) ha (by decide) (by decide) (starEach_cons hs) hpl
  | sum => exact pe_callB (cr_sum hc) hg hm (by decide +kernel) ha (by decide) (by decide) (starEach_cons hs) hpl
  | tuple => exact pe_callTy call_tuple_of hg hm (by decide +kernel) ha (by decide) (by decide) (starEach_cons hs) hpl
  | list => exact pe_callTy call_list_of hg hm (by decide +kernel) ha (by decide) (by decide) (starEach_cons hs) hpl
  | int => exact pe_callTy call_int1 hg hm (by decide +kernel) ha (by decide) (by decide) (starEach_cons hs) hpl
end
section
variable {K : PySem.W.Frag} {B F H F' H' : Hp} {ρ ρ' : List Addr} {σ : L2.St} {env : Env} {μ μ' : Store}
theorem asInts_ok : ∀ {ds : List D} {ns : List Int} {xs : List V}, DrL K F ρ xs ds → asInts ds = some ns → xs = ns.map V.int
  | [], _, _, h, e => by cases h; cases e; rfl
  | d :: ds, ns, _, .cons a b, e => by
    unfold asInts at e
    obtain ⟨i, h1, h2⟩ := Option.bind_eq_some_iff.mp e
    obtain ⟨is, h3, h4⟩ := Option.map_eq_some_iff.mp h2
    subst h4
    rw [asInts_ok b h3]
    unfold asInt at h1
    split at h1
    · cases h1; cases a; rfl
    · cases h1
theorem maxI_mem : ∀ (l : List Int), l ≠ [] → maxI l ∈ l ∧ ∀ y ∈ l, y ≤ maxI l
  | [], h => absurd rfl h
  | [x], _ => by
    rw [maxI]
    exact ⟨by simp, fun y hy => by simp at hy; omega⟩
  | x :: y :: r, _ => by
    rw [maxI]
    obtain ⟨h1, h2⟩ := maxI_mem ((if y > x then y else x) :: r) (by simp)
    generalize maxI ((if y > x then y else x) :: r) = m at h1 h2 ⊢
    constructor
    · rcases List.mem_cons.mp h1 with h | h
      · rw [h]; split <;> simp
      · exact List.mem_cons_of_mem _ (List.mem_cons_of_mem _ h)
    · intro z hz
      have h0 := h2 (if y > x then y else x) (by simp)
      rcases List.mem_cons.mp hz with h | h
      · subst h; split at h0 <;> omega
      · rcases List.mem_cons.mp h with h | h
        · subst h; split at h0 <;> omega
        · exact h2 z (List.mem_cons_of_mem _ h)
termination_by l => l.length
theorem minI_mem : ∀ (l : List Int), l ≠ [] → minI l ∈ l ∧ ∀ y ∈ l, minI l ≤ y
  | [], h => absurd rfl h
  | [x], _ => by
    rw [minI]
    exact ⟨by simp, fun y hy => by simp at hy; omega⟩
  | x :: y :: r, _ => by
    rw [minI]
    obtain ⟨h1, h2⟩ := minI_mem ((if y < x then y else x) :: r) (by simp)
    generalize minI ((if y < x then y else x) :: r) = m at h1 h2 ⊢
    constructor
    · rcases List.mem_cons.mp h1 with h | h
      · rw [h]; split <;> simp
      · exact List.mem_cons_of_mem _ (List.mem_cons_of_mem _ h)
    · intro z hz
      have h0 := h2 (if y < x then y else x) (by simp)
      rcases List.mem_cons.mp hz with h | h
      · subst h; split at h0 <;> omega
      · rcases List.mem_cons.mp h with h | h
        · subst h; split at h0 <;> omega
        · exact h2 z (List.mem_cons_of_mem _ h)
termination_by l => l.length
theorem DrL.two {xs : List V} {d1 d2 : D} (h : DrL K F ρ xs [d1, d2]) : ∃ x y, xs = [x, y] ∧ Dr K F ρ x d1 ∧ Dr K F ρ y d2 := by
  cases h with
  | cons a b => cases b with
    | cons c d => cases d; exact ⟨_, _, rfl, a, c⟩
theorem DrL.one {xs : List V} {d1 : D} (h : DrL K F ρ xs [d1]) : ∃ x, xs = [x] ∧ Dr K F ρ x d1 := by
  cases h with
  | cons a b => cases b; exact ⟨_, rfl, a⟩
theorem lstS_ok (fh : Same F H) (c : Cells K F H ρ μ) {x : V} {d : D} {ds : List D} (r : Dr K F ρ x d) (e : lstS μ d = some ds) : ∃ a xs, x = .ref a ∧ SqL K H a xs ∧ DrL K F ρ xs ds := by
  cases r with
  | lst r1 r2 => cases e; exact ⟨_, _, rfl, .inl (.inl (fh _ _ r1)), r2⟩
  | scr r1 r2 => cases e; exact ⟨_, _, rfl, fh.seq r1, r2⟩
  | mr h =>
    obtain ⟨_, xs, h1, h2⟩ := c.at_ _ _ _ h e
    exact ⟨_, xs, rfl, .inl (.inl h1), h2⟩
  | _ => cases e
theorem asPair_ok {x : V} {d : D} {p : Int × Int} (r : Dr K F ρ x d) (e : asPair d = some p) : (∃ t, x = .ref t ∧ SqT K F t [.int p.1, .int p.2]) ∧ d = .tup [.int p.1, .int p.2] := by
  unfold asPair at e
  split at e
  · cases e
    cases r with
    | tup r1 r2 =>
      cases r2 with
      | cons a b => cases a; cases b with | cons a b => cases a; cases b; exact ⟨⟨_, rfl, r1⟩, rfl⟩
  · cases e
theorem asPairs_ok (fh : Same F H) : ∀ {xs : List V} {ds : List D} {ps : List (Int × Int)}, DrL K F ρ xs ds → asPairs ds = some ps → PairsV K H xs ps ∧ ds = ps.map fun p => .tup [.int p.1, .int p.2]
  | _, [], _, r, e => by cases r; cases e; exact ⟨.nil, rfl⟩
  | _, d :: ds, _, r, e => by
    cases r with
    | cons a b =>
      rw [asPairs] at e
      obtain ⟨p, e1, e2⟩ := Option.bind_eq_some_iff.mp e
      obtain ⟨ps, e3, e4⟩ := Option.map_eq_some_iff.mp e2
      subst e4
      obtain ⟨⟨t, h1, h2⟩, h3⟩ := asPair_ok a e1
      obtain ⟨h4, h5⟩ := asPairs_ok fh b e3
      subst h3 h5
      exact ⟨.cons ⟨t, h1, same_t fh h2⟩ h4, rfl⟩
theorem biS_ok (b : Bi) (fh : Same F H) (c : Cells K F H ρ μ) {xs : List V} {ds : List D} {d : D} {Q : VK} (r : DrL K F ρ xs ds) (e : biS μ b ds = some d) (q : ∀ v F' H', PX F H F' H' → Dr K F' ρ v d → Q v H') : biOf K b xs H Q := by
  unfold biS at e
  split at e
  · obtain ⟨es, h1, h2⟩ := Option.map_eq_some_iff.mp e
    subst h2
    obtain ⟨x, rfl, rx⟩ := r.one
    obtain ⟨a, ys, rfl, h3, h4, _⟩ := itsS_ok fh c rx h1
    exact ⟨a, ys, rfl, h3, q _ F H (.refl fh) (by rw [h4.length]; exact .int _)⟩
  · cases e
    obtain ⟨x, rfl, rx⟩ := r.one
    cases rx
    exact ⟨_, rfl, q _ F H (.refl fh) (.int _)⟩
  · cases e
    obtain ⟨x, y, rfl, rx, ry⟩ := r.two
    cases rx; cases ry
    exact .inl ⟨_, _, rfl, q _ F H (.refl fh) (.int _)⟩
  · cases e
    obtain ⟨x, y, rfl, rx, ry⟩ := r.two
    cases rx; cases ry
    exact .inl ⟨_, _, rfl, q _ F H (.refl fh) (.int _)⟩
  · obtain ⟨es, h1, h2⟩ := Option.bind_eq_some_iff.mp e
    obtain ⟨ns, h3, h4⟩ := Option.bind_eq_some_iff.mp h2
    split at h4
    · cases h4
    · rename_i hne
      cases h4
      obtain ⟨x, rfl, rx⟩ := r.one
      obtain ⟨a, ys, rfl, h5, h6⟩ := lstS_ok fh c rx h1
      have e1 := asInts_ok h6 h3
      subst e1
      have ne : ns ≠ [] := fun z => by subst z; exact hne rfl
      obtain ⟨m1, m2⟩ := maxI_mem ns ne
      refine .inr ⟨a, ns, rfl, h5, List.length_pos_iff.mpr ne, fun m k1 k2 => ?_⟩
      have : m = maxI ns := by have := m2 m k1; have := k2 _ m1; omega
      rw [this]
      exact q _ F H (.refl fh) (.int _)
  · obtain ⟨es, h1, h2⟩ := Option.bind_eq_some_iff.mp e
    obtain ⟨ns, h3, h4⟩ := Option.bind_eq_some_iff.mp h2
    split at h4
    · cases h4
    · rename_i hne
      cases h4
      obtain ⟨x, rfl, rx⟩ := r.one
      obtain ⟨a, ys, rfl, h5, h6⟩ := lstS_ok fh c rx h1
      have e1 := asInts_ok h6 h3
      subst e1
      have ne : ns ≠ [] := fun z => by subst z; exact hne rfl
      obtain ⟨m1, m2⟩ := minI_mem ns ne
      refine .inr ⟨a, ns, rfl, h5, List.length_pos_iff.mpr ne, fun m k1 k2 => ?_⟩
      have : m = minI ns := by have := m2 m k1; have := k2 _ m1; omega
      rw [this]
      exact q _ F H (.refl fh) (.int _)
  · obtain ⟨es, h1, h2⟩ := Option.bind_eq_some_iff.mp e
    obtain ⟨ns, h3, h4⟩ := Option.map_eq_some_iff.mp h2
    subst h4
    obtain ⟨x, rfl, rx⟩ := r.one
    obtain ⟨a, ys, rfl, h5, h6⟩ := lstS_ok fh c rx h1
    have e1 := asInts_ok h6 h3
    subst e1
    exact ⟨a, ns, rfl, h5, q _ F H (.refl fh) (.int _)⟩
  · rename_i d0
    obtain ⟨es, h1, h2⟩ := Option.map_eq_some_iff.mp e
    subst h2
    obtain ⟨x, rfl, rx⟩ := r.one
    cases rx with
    | tup r1 r2 => cases h1; exact ⟨_, _, rfl, .inr ⟨same_t fh r1, q _ F H (.refl fh) (.tup r1 r2)⟩⟩
    | lst r1 r2 => cases h1; exact ⟨_, _, rfl, .inl ⟨.inl (.inl (fh _ _ r1)), new_tup fh r2 q⟩⟩
    | scr r1 r2 => cases h1; exact ⟨_, _, rfl, .inl ⟨fh.seq r1, new_tup fh r2 q⟩⟩
    | mr h =>
      obtain ⟨_, zs, k1, k2⟩ := c.at_ _ _ _ h h1
      exact ⟨_, _, rfl, .inl ⟨.inl (.inl k1), new_tup fh k2 q⟩⟩
    | _ => cases h1
  · obtain ⟨es, h1, h2⟩ := Option.map_eq_some_iff.mp e
    subst h2
    obtain ⟨x, rfl, rx⟩ := r.one
    obtain ⟨a, ys, rfl, h3, h4, _⟩ := itsS_ok fh c rx h1
    exact ⟨a, ys, rfl, h3, new_lst fh h4 q⟩
  · cases e
    obtain ⟨x, rfl, rx⟩ := r.one
    cases rx
    exact .inl ⟨_, rfl, q _ F H (.refl fh) (.int _)⟩
  · cases e
    obtain ⟨x, rfl, rx⟩ := r.one
    cases rx
    exact .inr ⟨_, rfl, q _ F H (.refl fh) (.int _)⟩
  · obtain ⟨es, h1, h2⟩ := Option.bind_eq_some_iff.mp e
    obtain ⟨ps, h3, h4⟩ := Option.bind_eq_some_iff.mp h2
    split at h4
    · cases h4
    · rename_i p0 r0
      cases h4
      obtain ⟨x, rfl, rx⟩ := r.one
      obtain ⟨a, ys, rfl, h5, h6⟩ := lstS_ok fh c rx h1
      obtain ⟨h7, h8⟩ := asPairs_ok fh h6 h3
      refine ⟨a, ys, p0, r0, rfl, h5, h7, fun v i k1 k2 => ?_⟩
      obtain ⟨dd, k3, k4⟩ := h6.getV k1
      rw [h8, List.getElem?_map, k2] at k3
      cases k3
      exact q _ F H (.refl fh) k4
  · cases e
/-! ### isinstance -/
def tyN : Ty → String
  | .int => "int" | .bool => "bool" | .str => "str" | .tup => "tuple" | .lst => "list"
def tyS : Ty → Str
  | .int => "int" | .bool => "bool" | .str => "str" | .tup => "tuple" | .lst => "list"
def dN : D → String
  | .non => "NoneType" | .bl _ => "bool" | .int _ => "int" | .str _ => "str" | .tup _ => "tuple" | _ => "list"
theorem tyX_ok (fh : Same F H) {x : V} {d : D} (r : Dr K F ρ x d) (h : isiS d .int ≠ none) : TyX K H x (.type (dN d)) := by
  cases r with
  | non => exact .base .non
  | bl b => exact .base (.bl b)
  | int i => exact .base (.int i)
  | str s => exact .base (.str s)
  | tup r1 r2 =>
    rcases r1 with (r1 | ⟨o, r1⟩) | ⟨o, its, n, h1, h2, _⟩
    · exact .base (.tup (fh _ _ r1))
    · exact .fTuple (fh _ _ r1)
    · exact .kTuple h1 h2
  | lst r1 r2 => exact .base (.lst (fh _ _ r1))
  | _ => exact absurd rfl h
theorem kit_ok (d : D) (t : Ty) (b : Bool) (h : isiS d t = some b) : kitB (dN d) (tyN t) = some b := by
  cases d <;> cases t <;> first
    | (cases h; dsimp only [dN, tyN]; decide +kernel)
    | cases h
theorem isiS_ok (fh : Same F H) {x : V} {d : D} {t : Ty} {b : Bool} {Q : VK} (r : Dr K F ρ x d) (e : isiS d t = some b) (q : Q (.bl b) H) : rIsi K [x, .ty (tyN t)] H Q := by
  refine ⟨x, _, .type (dN d), .type (tyN t), b, rfl, .ty _, tyX_ok fh r ?_, kit_ty (kit_ok d t b e), q⟩
  cases d <;> cases t <;> first | (cases e; exact fun z => nomatch z) | cases e
end
end Py
end
section
set_option Elab.async false
set_option linter.all false
set_option maxRecDepth 100000
namespace Py
open PySem L2
/-! ### which text a syntax stands for -/
structure MC where
  N : List Str
  fns : List Str
  gls : List Str
def visB (sc : Scope) (x : Str) : Bool := match sc.names.lookup x with
  | some .local => true | some .cell => true | some .free => true | _ => false
def locB (sc : Scope) (x : Str) : Bool := match sc.names.lookup x with
  | some .local => true | some .cell => true | _ => false
def gloB (sc : Scope) (x : Str) : Bool := match sc.names.lookup x with
  | some .globalImplicit => true | _ => false
def okName (x : Str) : Bool := !(x == ("__debug__" : Str)) && !(x == ("__classdict__" : Str))
mutual
def mT (C : MC) (sc : Scope) : T → Expr → Bool
  | .nm i, .Name x _ => decide (C.N[i]? = some x) && locB sc x
  | .tp ts, .Tuple es _ _ => mTs C sc ts es
  | _, _ => false
def mTs (C : MC) (sc : Scope) : List T → List Expr → Bool
  | [], [] => true
  | t :: ts, e :: es => mT C sc t e && mTs C sc ts es
  | _, _ => false
end
def sliceB : Expr → Bool
  | .Slice .. => true | _ => false
def isTup : Expr → Bool
  | .Tuple .. => true | _ => false
mutual
def mE (C : MC) (sc : Scope) : E → Expr → Bool
  | .slot i, .Name x _ => decide (C.N[i]? = some x) && visB sc x && okName x
  | .glob g, .Name x _ => decide (C.gls[g]? = some x) && gloB sc x && okName x
  | .int i, .Constant (.int j) _ _ => decide (i = j)
  | .bl i, .Constant (.bool j) _ _ => decide (i = j)
  | .non, .Constant .none _ _ => true
  | .str i, .Constant (.str j) _ _ => decide (i = j)
  | .bin op a b, .BinOp x op' y _ => decide (op = op') && mE C sc a x && mE C sc b y
  | .neg a, .UnaryOp .USub x _ => mE C sc a x
  | .cmp op a b, .Compare x [op'] [y] _ => decide (op = op') && mE C sc a x && mE C sc b y
  | .isN a, .Compare x [.Is] [.Constant .none _ _] _ => mE C sc a x
  | .notN a, .Compare x [.IsNot] [.Constant .none _ _] _ => mE C sc a x
  | .not a, .UnaryOp .Not x _ => mE C sc a x
  | .and a r, .BoolOp .And (x :: xs) _ => mE C sc a x && mEs C sc r xs
  | .or a r, .BoolOp .Or (x :: xs) _ => mE C sc a x && mEs C sc r xs
  | .ite c a b, .IfExp z x y _ => mE C sc c z && mE C sc a x && mE C sc b y
  | .tup es, .Tuple xs _ _ => mEs C sc es xs
  | .lst es, .List xs _ => mEs C sc es xs
  | .mlst es, .List xs _ => mEs C sc es xs
  | .ix a b, .Subscript x y _ => mE C sc a x && mE C sc b y
  | .slc a lo hi, .Subscript x (.Slice l h none _) _ => mE C sc a x && mEo C sc lo l && mEo C sc hi h
  | .call f e es, .Call (.Name x _) (y :: ys) [] _ => decide (C.fns[f]? = some x) && gloB sc x && okName x && mE C sc e y && mEs C sc es ys
  | .bi b e es, .Call (.Name x _) (y :: ys) [] _ => decide (x = biName b) && gloB sc x && mE C sc e y && mEs C sc es ys
  | .isi e t, .Call (.Name x _) [y, .Name z _] [] _ => decide (x = ("isinstance" : Str)) && gloB sc x && mE C sc e y && decide (z = tyS t) && gloB sc z
  | .lc e t it c vs, .ListComp x [⟨tg, iter, ifs, a⟩] scope _ => decide (a = 0) && blkC C.N sc scope (vs.map fun i => (C.N.getD i "", i)) && (tgS t).all (fun i => vs.contains i) && mI C sc it iter (isTup tg) && mT C scope t tg && mEc C scope c ifs && mE C scope e x
  | .bor _ e, x => mE C sc e x
  | .dIn neg i e, .Compare x [op] [.Name y _] _ => decide (op = if neg then .NotIn else .In) && decide (C.N[i]? = some y) && visB sc y && okName y && mE C sc e x
  | .dAt i e, .Subscript (.Name y _) x _ => decide (C.N[i]? = some y) && visB sc y && okName y && mE C sc e x
  | .dVals i, .Call (.Name f _) [.Call (.Attribute (.Name y _) m ap) [] [] cp] [] _ => decide (f = ("list" : Str)) && gloB sc f && decide (C.N[i]? = some y) && visB sc y && okName y && decide (m = ("values" : Str)) && (ap.endLine == cp.line)
  | .rngL e, .Call (.Name f _) [.Call (.Name g _) [x] [] _] [] _ => decide (f = ("list" : Str)) && gloB sc f && decide (g = ("range" : Str)) && gloB sc g && mE C sc e x
  | .rev e, .Subscript x (.Slice none none (some (.UnaryOp .USub (.Constant (.int 1) _ _) _)) _) _ => mE C sc e x
  | .chain op op' a b c, .Compare x [o, o'] [y, z] _ => decide (op = o) && decide (op' = o') && mE C sc a x && mE C sc b y && mE C sc c z
  | _, _ => false
def mEs (C : MC) (sc : Scope) : Es → List Expr → Bool
  | .nil, [] => true
  | .cons e es, x :: xs => mE C sc e x && mEs C sc es xs
  | _, _ => false
def mEo (C : MC) (sc : Scope) : Eo → Option Expr → Bool
  | .none, none => true
  | .some e, some x => mE C sc e x
  | _, _ => false
def mEc (C : MC) (sc : Scope) : Eo → List Expr → Bool
  | .none, [] => true
  | .some e, [x] => mE C sc e x
  | _, _ => false
def mI (C : MC) (sc : Scope) : I → Expr → Bool → Bool
  | .seq e, x, _ => mE C sc e x
  | .rng1 e, .Call (.Name f _) [x] [] _, _ => decide (f = ("range" : Str)) && gloB sc f && mE C sc e x
  | .rng2 a b, .Call (.Name f _) [x, y] [] _, _ => decide (f = ("range" : Str)) && gloB sc f && mE C sc a x && mE C sc b y
  | .zip a b, .Call (.Name f _) [x, y] [] _, k => k && decide (f = ("zip" : Str)) && gloB sc f && mE C sc a x && mE C sc b y
  | .rngD e, .Call (.Name f _) [x, .UnaryOp .USub (.Constant (.int 1) _ _) _, .UnaryOp .USub (.Constant (.int 1) _ _) _] [] _, _ => decide (f = ("range" : Str)) && gloB sc f && mE C sc e x
  | .enum a, .Call (.Name f _) [x] [] _, k => k && decide (f = ("enumerate" : Str)) && gloB sc f && mE C sc a x
  | _, _, _ => false
end
theorem mE_nostar {C : MC} {sc : Scope} : ∀ {m : E} {e : Expr}, mE C sc m e = true → (∀ v p, e ≠ .Starred v p) ∧ sliceB e = false := by
  intro m
  induction m using E.rec (motive_2 := fun _ => True) (motive_3 := fun _ => True) (motive_4 := fun _ => True) with
  | bor i e ih => intro x h; rw [mE] at h; exact ih h
  | nil => trivial
  | cons => trivial
  | none => trivial
  | some => trivial
  | seq => trivial
  | rng1 => trivial
  | rng2 => trivial
  | zip => trivial
  | enum => trivial
  | rngD => trivial
  | _ =>
    intro x h
    refine ⟨?_, ?_⟩
    · intro v p z
      subst z
      rw [mE] at h <;> first | cases h | (intros; contradiction)
    · cases x <;> first | rfl | (exfalso; rw [mE] at h <;> first | cases h | (intros; contradiction))
end Py
end
section
set_option Elab.async false
set_option linter.all false
set_option maxRecDepth 100000
namespace Py
open PySem L2
theorem mE_slot {C : MC} {sc : Scope} {e : Expr} {i : Nat} (h : mE C sc (.slot i) e = true) : ∃ x p, e = .Name x p ∧ (C.N[i]? = some x ∧ visB sc x = true) ∧ okName x = true := by
  unfold mE at h
  split at h <;> first | contradiction | skip
  rename_i q; cases q
  try simp only [Bool.and_eq_true, decide_eq_true_eq, Bool.not_eq_true'] at h
  exact ⟨_, _, rfl, h⟩
theorem mE_glob {C : MC} {sc : Scope} {e : Expr} {i : Nat} (h : mE C sc (.glob i) e = true) : ∃ x p, e = .Name x p ∧ (C.gls[i]? = some x ∧ gloB sc x = true) ∧ okName x = true := by
  unfold mE at h
  split at h <;> first | contradiction | skip
  rename_i q; cases q
  try simp only [Bool.and_eq_true, decide_eq_true_eq, Bool.not_eq_true'] at h
  exact ⟨_, _, rfl, h⟩
theorem mE_int {C : MC} {sc : Scope} {e : Expr} {i : Int} (h : mE C sc (.int i) e = true) : ∃ j k p, e = .Constant (.int j) k p ∧ i = j := by
  unfold mE at h
  split at h <;> first | contradiction | skip
  rename_i q; cases q
  try simp only [Bool.and_eq_true, decide_eq_true_eq, Bool.not_eq_true'] at h
  exact ⟨_, _, _, rfl, h⟩
theorem mE_bl {C : MC} {sc : Scope} {e : Expr} {i : Bool} (h : mE C sc (.bl i) e = true) : ∃ j k p, e = .Constant (.bool j) k p ∧ i = j := by
  unfold mE at h
  split at h <;> first | contradiction | skip
  rename_i q; cases q
  try simp only [Bool.and_eq_true, decide_eq_true_eq, Bool.not_eq_true'] at h
  exact ⟨_, _, _, rfl, h⟩
theorem mE_str {C : MC} {sc : Scope} {e : Expr} {i : Str} (h : mE C sc (.str i) e = true) : ∃ j k p, e = .Constant (.str j) k p ∧ i = j := by
  unfold mE at h
  split at h <;> first | contradiction | skip
  rename_i q; cases q
  try simp only [Bool.and_eq_true, decide_eq_true_eq, Bool.not_eq_true'] at h
  exact ⟨_, _, _, rfl, h⟩
theorem mE_bin {C : MC} {sc : Scope} {e : Expr} {op : Operator} {a b : E} (h : mE C sc (.bin op a b) e = true) : ∃ x o y p, e = .BinOp x o y p ∧ (op = o ∧ mE C sc a x = true) ∧ mE C sc b y = true := by
  unfold mE at h
  split at h <;> first | contradiction | skip
  rename_i q; cases q
  try simp only [Bool.and_eq_true, decide_eq_true_eq, Bool.not_eq_true'] at h
  exact ⟨_, _, _, _, rfl, h⟩
theorem mE_neg {C : MC} {sc : Scope} {e : Expr} {a : E} (h : mE C sc (.neg a) e = true) : ∃ x p, e = .UnaryOp .USub x p ∧ mE C sc a x = true := by
  unfold mE at h
  split at h <;> first | contradiction | skip
  rename_i q; cases q
  try simp only [Bool.and_eq_true, decide_eq_true_eq, Bool.not_eq_true'] at h
  exact ⟨_, _, rfl, h⟩
theorem mE_not {C : MC} {sc : Scope} {e : Expr} {a : E} (h : mE C sc (.not a) e = true) : ∃ x p, e = .UnaryOp .Not x p ∧ mE C sc a x = true := by
  unfold mE at h
  split at h <;> first | contradiction | skip
  rename_i q; cases q
  try simp only [Bool.and_eq_true, decide_eq_true_eq, Bool.not_eq_true'] at h
  exact ⟨_, _, rfl, h⟩
theorem mE_cmp {C : MC} {sc : Scope} {e : Expr} {op : CmpOp} {a b : E} (h : mE C sc (.cmp op a b) e = true) : ∃ x o y p, e = .Compare x [o] [y] p ∧ (op = o ∧ mE C sc a x = true) ∧ mE C sc b y = true := by
  unfold mE at h
  split at h <;> first | contradiction | skip
  rename_i q; cases q
  try simp only [Bool.and_eq_true, decide_eq_true_eq, Bool.not_eq_true'] at h
  exact ⟨_, _, _, _, rfl, h⟩
theorem mE_dIn {C : MC} {sc : Scope} {e : Expr} {neg : Bool} {i : Nat} {a : E} (h : mE C sc (.dIn neg i a) e = true) : ∃ x o y p2 p, e = .Compare x [o] [.Name y p2] p ∧ (((o = (if neg then .NotIn else .In) ∧ C.N[i]? = some y) ∧ visB sc y = true) ∧ okName y = true) ∧ mE C sc a x = true := by
  unfold mE at h
  split at h <;> first | contradiction | skip
  rename_i q; cases q
  try simp only [Bool.and_eq_true, decide_eq_true_eq, Bool.not_eq_true'] at h
  exact ⟨_, _, _, _, _, rfl, h⟩
theorem mE_dAt {C : MC} {sc : Scope} {e : Expr} {i : Nat} {a : E} (h : mE C sc (.dAt i a) e = true) : ∃ y p2 x p, e = .Subscript (.Name y p2) x p ∧ ((C.N[i]? = some y ∧ visB sc y = true) ∧ okName y = true) ∧ mE C sc a x = true := by
  unfold mE at h
  split at h <;> first | contradiction | skip
  rename_i q; cases q
  try simp only [Bool.and_eq_true, decide_eq_true_eq, Bool.not_eq_true'] at h
  exact ⟨_, _, _, _, rfl, h⟩
theorem mE_dVals {C : MC} {sc : Scope} {e : Expr} {i : Nat} (h : mE C sc (.dVals i) e = true) : ∃ f p2 y p3 m ap cp p, e = .Call (.Name f p2) [.Call (.Attribute (.Name y p3) m ap) [] [] cp] [] p ∧ (((((f = ("list" : Str) ∧ gloB sc f = true) ∧ C.N[i]? = some y) ∧ visB sc y = true) ∧ okName y = true) ∧ m = ("values" : Str)) ∧ (ap.endLine == cp.line) = true := by
  unfold mE at h
  split at h <;> first | contradiction | skip
  rename_i q; cases q
  try simp only [Bool.and_eq_true, decide_eq_true_eq, Bool.not_eq_true'] at h
  exact ⟨_, _, _, _, _, _, _, _, rfl, h⟩
theorem mE_rngL {C : MC} {sc : Scope} {e : Expr} {a : E} (h : mE C sc (.rngL a) e = true) : ∃ f p2 g p3 x p4 p, e = .Call (.Name f p2) [.Call (.Name g p3) [x] [] p4] [] p ∧ (((f = ("list" : Str) ∧ gloB sc f = true) ∧ g = ("range" : Str)) ∧ gloB sc g = true) ∧ mE C sc a x = true := by
  unfold mE at h
  split at h <;> first | contradiction | skip
  rename_i q; cases q
  try simp only [Bool.and_eq_true, decide_eq_true_eq, Bool.not_eq_true'] at h
  exact ⟨_, _, _, _, _, _, _, rfl, h⟩
theorem mE_rev {C : MC} {sc : Scope} {e : Expr} {a : E} (h : mE C sc (.rev a) e = true) : ∃ x k p1 p2 p3 p, e = .Subscript x (.Slice none none (some (.UnaryOp .USub (.Constant (.int 1) k p1) p2)) p3) p ∧ mE C sc a x = true := by
  unfold mE at h
  split at h <;> first | contradiction | skip
  rename_i q; cases q
  try simp only [Bool.and_eq_true, decide_eq_true_eq, Bool.not_eq_true'] at h
  exact ⟨_, _, _, _, _, _, rfl, h⟩
theorem mE_chain {C : MC} {sc : Scope} {e : Expr} {op op2 : CmpOp} {a b c : E} (h : mE C sc (.chain op op2 a b c) e = true) : ∃ x o o2 y z p, e = .Compare x [o, o2] [y, z] p ∧ (((op = o ∧ op2 = o2) ∧ mE C sc a x = true) ∧ mE C sc b y = true) ∧ mE C sc c z = true := by
  unfold mE at h
  split at h <;> first | contradiction | skip
  rename_i q; cases q
  try simp only [Bool.and_eq_true, decide_eq_true_eq, Bool.not_eq_true'] at h
  exact ⟨_, _, _, _, _, _, rfl, h⟩
theorem mE_isN {C : MC} {sc : Scope} {e : Expr} {a : E} (h : mE C sc (.isN a) e = true) : ∃ x k p2 p, e = .Compare x [.Is] [.Constant .none k p2] p ∧ mE C sc a x = true := by
  unfold mE at h
  split at h <;> first | contradiction | skip
  rename_i q; cases q
  try simp only [Bool.and_eq_true, decide_eq_true_eq, Bool.not_eq_true'] at h
  exact ⟨_, _, _, _, rfl, h⟩
theorem mE_notN {C : MC} {sc : Scope} {e : Expr} {a : E} (h : mE C sc (.notN a) e = true) : ∃ x k p2 p, e = .Compare x [.IsNot] [.Constant .none k p2] p ∧ mE C sc a x = true := by
  unfold mE at h
  split at h <;> first | contradiction | skip
  rename_i q; cases q
  try simp only [Bool.and_eq_true, decide_eq_true_eq, Bool.not_eq_true'] at h
  exact ⟨_, _, _, _, rfl, h⟩
theorem mE_and {C : MC} {sc : Scope} {e : Expr} {a : E} {r : Es} (h : mE C sc (.and a r) e = true) : ∃ x xs p, e = .BoolOp .And (x :: xs) p ∧ mE C sc a x = true ∧ mEs C sc r xs = true := by
  unfold mE at h
  split at h <;> first | contradiction | skip
  rename_i q; cases q
  try simp only [Bool.and_eq_true, decide_eq_true_eq, Bool.not_eq_true'] at h
  exact ⟨_, _, _, rfl, h⟩
theorem mE_or {C : MC} {sc : Scope} {e : Expr} {a : E} {r : Es} (h : mE C sc (.or a r) e = true) : ∃ x xs p, e = .BoolOp .Or (x :: xs) p ∧ mE C sc a x = true ∧ mEs C sc r xs = true := by
  unfold mE at h
  split at h <;> first | contradiction | skip
  rename_i q; cases q
  try simp only [Bool.and_eq_true, decide_eq_true_eq, Bool.not_eq_true'] at h
  exact ⟨_, _, _, rfl, h⟩
theorem mE_ite {C : MC} {sc : Scope} {e : Expr} {c a b : E} (h : mE C sc (.ite c a b) e = true) : ∃ z x y p, e = .IfExp z x y p ∧ (mE C sc c z = true ∧ mE C sc a x = true) ∧ mE C sc b y = true := by
  unfold mE at h
  split at h <;> first | contradiction | skip
  rename_i q; cases q
  try simp only [Bool.and_eq_true, decide_eq_true_eq, Bool.not_eq_true'] at h
  exact ⟨_, _, _, _, rfl, h⟩
theorem mE_tup {C : MC} {sc : Scope} {e : Expr} {es : Es} (h : mE C sc (.tup es) e = true) : ∃ xs k p, e = .Tuple xs k p ∧ mEs C sc es xs = true := by
  unfold mE at h
  split at h <;> first | contradiction | skip
  rename_i q; cases q
  try simp only [Bool.and_eq_true, decide_eq_true_eq, Bool.not_eq_true'] at h
  exact ⟨_, _, _, rfl, h⟩
theorem mE_lst {C : MC} {sc : Scope} {e : Expr} {es : Es} (h : mE C sc (.lst es) e = true) : ∃ xs p, e = .List xs p ∧ mEs C sc es xs = true := by
  unfold mE at h
  split at h <;> first | contradiction | skip
  rename_i q; cases q
  try simp only [Bool.and_eq_true, decide_eq_true_eq, Bool.not_eq_true'] at h
  exact ⟨_, _, rfl, h⟩
theorem mE_mlst {C : MC} {sc : Scope} {e : Expr} {es : Es} (h : mE C sc (.mlst es) e = true) : ∃ xs p, e = .List xs p ∧ mEs C sc es xs = true := by
  unfold mE at h
  split at h <;> first | contradiction | skip
  rename_i q; cases q
  try simp only [Bool.and_eq_true, decide_eq_true_eq, Bool.not_eq_true'] at h
  exact ⟨_, _, rfl, h⟩
theorem mE_ix {C : MC} {sc : Scope} {e : Expr} {a b : E} (h : mE C sc (.ix a b) e = true) : ∃ x y p, e = .Subscript x y p ∧ mE C sc a x = true ∧ mE C sc b y = true := by
  unfold mE at h
  split at h <;> first | contradiction | skip
  rename_i q; cases q
  try simp only [Bool.and_eq_true, decide_eq_true_eq, Bool.not_eq_true'] at h
  exact ⟨_, _, _, rfl, h⟩
theorem mE_slc {C : MC} {sc : Scope} {e : Expr} {a : E} {lo hi : Eo} (h : mE C sc (.slc a lo hi) e = true) : ∃ x l u p2 p, e = .Subscript x (.Slice l u none p2) p ∧ (mE C sc a x = true ∧ mEo C sc lo l = true) ∧ mEo C sc hi u = true := by
  unfold mE at h
  split at h <;> first | contradiction | skip
  rename_i q; cases q
  try simp only [Bool.and_eq_true, decide_eq_true_eq, Bool.not_eq_true'] at h
  exact ⟨_, _, _, _, _, rfl, h⟩
theorem mE_call {C : MC} {sc : Scope} {e : Expr} {f : Nat} {a : E} {es : Es} (h : mE C sc (.call f a es) e = true) : ∃ x p2 y ys p, e = .Call (.Name x p2) (y :: ys) [] p ∧ (((C.fns[f]? = some x ∧ gloB sc x = true) ∧ okName x = true) ∧ mE C sc a y = true) ∧ mEs C sc es ys = true := by
  unfold mE at h
  split at h <;> first | contradiction | skip
  rename_i q; cases q
  try simp only [Bool.and_eq_true, decide_eq_true_eq, Bool.not_eq_true'] at h
  exact ⟨_, _, _, _, _, rfl, h⟩
theorem mE_bi {C : MC} {sc : Scope} {e : Expr} {b : Bi} {a : E} {es : Es} (h : mE C sc (.bi b a es) e = true) : ∃ x p2 y ys p, e = .Call (.Name x p2) (y :: ys) [] p ∧ ((x = biName b ∧ gloB sc x = true) ∧ mE C sc a y = true) ∧ mEs C sc es ys = true := by
  unfold mE at h
  split at h <;> first | contradiction | skip
  rename_i q; cases q
  try simp only [Bool.and_eq_true, decide_eq_true_eq, Bool.not_eq_true'] at h
  exact ⟨_, _, _, _, _, rfl, h⟩
theorem mE_isi {C : MC} {sc : Scope} {e : Expr} {a : E} {t : Ty} (h : mE C sc (.isi a t) e = true) : ∃ x p2 y z p3 p, e = .Call (.Name x p2) [y, .Name z p3] [] p ∧ (((x = ("isinstance" : Str) ∧ gloB sc x = true) ∧ mE C sc a y = true) ∧ z = tyS t) ∧ gloB sc z = true := by
  unfold mE at h
  split at h <;> first | contradiction | skip
  rename_i q; cases q
  try simp only [Bool.and_eq_true, decide_eq_true_eq, Bool.not_eq_true'] at h
  exact ⟨_, _, _, _, _, _, rfl, h⟩
theorem mE_lc {C : MC} {sc : Scope} {e : Expr} {a : E} {t : T} {it : I} {c : Eo} {vs : List Nat} (h : mE C sc (.lc a t it c vs) e = true) : ∃ x tg iter ifs n scope p, e = .ListComp x [⟨tg, iter, ifs, n⟩] scope p ∧ ((((((n = 0 ∧ blkC C.N sc scope (vs.map fun i => (C.N.getD i "", i)) = true) ∧ (tgS t).all (fun i => vs.contains i) = true) ∧ mI C sc it iter (isTup tg) = true) ∧ mT C scope t tg = true) ∧ mEc C scope c ifs = true) ∧ mE C scope a x = true) := by
  unfold mE at h
  split at h <;> first | contradiction | skip
  rename_i q; cases q
  try simp only [Bool.and_eq_true, decide_eq_true_eq, Bool.not_eq_true'] at h
  exact ⟨_, _, _, _, _, _, _, rfl, h⟩
theorem mEs_cons {C : MC} {sc : Scope} {l : List Expr}  {a : E} {es : Es} (h : mEs C sc (.cons a es) l = true) : ∃ y ys, l = y :: ys ∧ mE C sc a y = true ∧ mEs C sc es ys = true := by
  unfold mEs at h
  split at h <;> first | contradiction | skip
  rename_i q; cases q
  try simp only [Bool.and_eq_true, decide_eq_true_eq] at h
  exact ⟨_, _, rfl, h⟩
theorem mEo_some {C : MC} {sc : Scope} {l : Option Expr}  {a : E} (h : mEo C sc (.some a) l = true) : ∃ y, l = some y ∧ mE C sc a y = true := by
  unfold mEo at h
  split at h <;> first | contradiction | skip
  rename_i q; cases q
  try simp only [Bool.and_eq_true, decide_eq_true_eq] at h
  exact ⟨_, rfl, h⟩
theorem mEc_some {C : MC} {sc : Scope} {l : List Expr}  {a : E} (h : mEc C sc (.some a) l = true) : ∃ y, l = [y] ∧ mE C sc a y = true := by
  unfold mEc at h
  split at h <;> first | contradiction | skip
  rename_i q; cases q
  try simp only [Bool.and_eq_true, decide_eq_true_eq] at h
  exact ⟨_, rfl, h⟩
theorem mI_rng1 {C : MC} {sc : Scope} {l : Expr} {k : Bool} {a : E} (h : mI C sc (.rng1 a) l k = true) : ∃ f p2 y p, l = .Call (.Name f p2) [y] [] p ∧ (f = ("range" : Str) ∧ gloB sc f = true) ∧ mE C sc a y = true := by
  unfold mI at h
  split at h <;> first | contradiction | skip
  rename_i q; cases q
  try simp only [Bool.and_eq_true, decide_eq_true_eq] at h
  exact ⟨_, _, _, _, rfl, h⟩
theorem mI_rng2 {C : MC} {sc : Scope} {l : Expr} {k : Bool} {a b : E} (h : mI C sc (.rng2 a b) l k = true) : ∃ f p2 y z p, l = .Call (.Name f p2) [y, z] [] p ∧ ((f = ("range" : Str) ∧ gloB sc f = true) ∧ mE C sc a y = true) ∧ mE C sc b z = true := by
  unfold mI at h
  split at h <;> first | contradiction | skip
  rename_i q; cases q
  try simp only [Bool.and_eq_true, decide_eq_true_eq] at h
  exact ⟨_, _, _, _, _, rfl, h⟩
theorem mI_zip {C : MC} {sc : Scope} {l : Expr} {k : Bool} {a b : E} (h : mI C sc (.zip a b) l k = true) : ∃ f p2 y z p, l = .Call (.Name f p2) [y, z] [] p ∧ (((k = true ∧ f = ("zip" : Str)) ∧ gloB sc f = true) ∧ mE C sc a y = true) ∧ mE C sc b z = true := by
  unfold mI at h
  split at h <;> first | contradiction | skip
  rename_i q; cases q
  try simp only [Bool.and_eq_true, decide_eq_true_eq] at h
  exact ⟨_, _, _, _, _, rfl, h⟩
theorem mI_rngD {C : MC} {sc : Scope} {l : Expr} {k : Bool} {a : E} (h : mI C sc (.rngD a) l k = true) : ∃ f p2 y k1 p3 p4 k2 p5 p6 p, l = .Call (.Name f p2) [y, .UnaryOp .USub (.Constant (.int 1) k1 p3) p4, .UnaryOp .USub (.Constant (.int 1) k2 p5) p6] [] p ∧ (f = ("range" : Str) ∧ gloB sc f = true) ∧ mE C sc a y = true := by
  unfold mI at h
  split at h <;> first | contradiction | skip
  rename_i q; cases q
  try simp only [Bool.and_eq_true, decide_eq_true_eq] at h
  exact ⟨_, _, _, _, _, _, _, _, _, _, rfl, h⟩
theorem mI_enum {C : MC} {sc : Scope} {l : Expr} {k : Bool} {a : E} (h : mI C sc (.enum a) l k = true) : ∃ f p2 y p, l = .Call (.Name f p2) [y] [] p ∧ ((k = true ∧ f = ("enumerate" : Str)) ∧ gloB sc f = true) ∧ mE C sc a y = true := by
  unfold mI at h
  split at h <;> first | contradiction | skip
  rename_i q; cases q
  try simp only [Bool.and_eq_true, decide_eq_true_eq] at h
  exact ⟨_, _, _, _, rfl, h⟩
theorem mI_seq {C : MC} {sc : Scope} {l : Expr} {k : Bool} {a : E} (h : mI C sc (.seq a) l k = true) : mE C sc a l = true := by
  rw [mI] at h; exact h
theorem mE_non {C : MC} {sc : Scope} {e : Expr} (h : mE C sc .non e = true) : ∃ k p, e = .Constant .none k p := by
  unfold mE at h
  split at h <;> first | contradiction | skip
  exact ⟨_, _, rfl⟩
theorem mEs_nil {C : MC} {sc : Scope} {l : List Expr} (h : mEs C sc .nil l = true) : l = [] := by
  unfold mEs at h
  split at h <;> first | contradiction | rfl
theorem mEo_none {C : MC} {sc : Scope} {l : Option Expr} (h : mEo C sc .none l = true) : l = none := by
  unfold mEo at h
  split at h <;> first | contradiction | rfl
theorem mEc_none {C : MC} {sc : Scope} {l : List Expr} (h : mEc C sc .none l = true) : l = [] := by
  unfold mEc at h
  split at h <;> first | contradiction | rfl
theorem mE_bor {C : MC} {sc : Scope} {e : Expr} {i : Nat} {a : E} (h : mE C sc (.bor i a) e = true) : mE C sc a e = true := by
  rw [mE] at h; exact h
end Py
end
section
set_option Elab.async false
set_option linter.all false
set_option maxRecDepth 100000
namespace Py
open PySem L2
abbrev FnS : Type := Nat → List D → Store → Option (D × Store)
abbrev GlS : Type := Nat → Option D
/-- what a def promises, by its function on data -/
def spF (K : PySem.W.Frag) (φ : List D → Store → Option (D × Store)) : Sp := fun vs H Q _ => ∃ F ρ μ ds d μ', Same F H ∧ Cells K F H ρ μ ∧ DrL K F ρ vs ds ∧ φ ds μ = some (d, μ') ∧
  ∀ v F' H' ρ', Ext F H ρ F' H' ρ' → Same F' H' → Cells K F' H' ρ' μ' → Dr K F' ρ' v d → Q v H'
def biAll : List Str := ["len", "abs", "max", "min", "sum", "tuple", "list", "int", "range", "zip", "enumerate", "isinstance", "bool", "str"]
/-- where the text is served -/
structure CG (C : MC) (Φ : FnS) (Γ : GlS) (k : Nat) (X : Cx) (sc : Scope) : Prop where
  hN : X.N = C.N
  nd : X.N.Nodup
  calm : X.calm = true
  room : Room k X.A
  loc : ∀ x, sc.names.lookup x = some .local → X.env.scope.names.lookup x = some .local
  cel : ∀ x, sc.names.lookup x = some .cell → X.env.scope.names.lookup x = some .cell
  fre : ∀ x, sc.names.lookup x = some .free → X.env.scope.names.lookup x = some .cell ∨ X.env.scope.names.lookup x = some .free
  glo : ∀ x, sc.names.lookup x = some .globalImplicit → X.env.scope.names.lookup x = some .globalImplicit
  kind : X.env.scope.kind = .function
  cfn : ∀ x, sc.names.lookup x = some .cell → X.fn x = true
  fns : ∀ f x, C.fns[f]? = some x → ∃ fa fd ps, X.mg x = some (.ref fa) ∧ PySem.W.keepIn X.K (.ref fa) = true ∧ FnOk X.prog X.w X.K X.mg X.base CX0 k fa fd ps (spF X.K (Φ f)) ∧ Binds X.K fd ps []
  gls : ∀ g x d, C.gls[g]? = some x → Γ g = some d → ∃ v u, X.mg x = some u ∧ RelV v u ∧ ∀ F ρ, Dr X.K F ρ v d
  bis : ∀ x ∈ biAll, X.mg x = none
section
variable {C : MC} {Φ : FnS} {Γ : GlS} {k : Nat} {X : Cx} {sc : Scope}
theorem CG.vis (G : CG C Φ Γ k X sc) {x : Str} (h : visB sc x = true) : Vis X.env.scope x := by
  unfold visB at h
  split at h
  · exact .inl (G.loc _ ‹_›)
  · exact .inr (.inl (G.cel _ ‹_›))
  · exact .inr (G.fre _ ‹_›)
  · cases h
theorem CG.locv (G : CG C Φ Γ k X sc) {x : Str} (h : locB sc x = true) : Loc X.env.scope x ∧ (X.fn x = true ∨ X.env.scope.names.lookup x = some .local) := by
  unfold locB at h
  split at h
  · exact ⟨.inl (G.loc _ ‹_›), .inr (G.loc _ ‹_›)⟩
  · exact ⟨.inr (G.cel _ ‹_›), .inl (G.cfn _ ‹_›)⟩
  · cases h
theorem CG.gl (G : CG C Φ Γ k X sc) {x : Str} (h : gloB sc x = true) : Gl X x := by
  unfold gloB at h
  split at h
  · exact G.glo _ ‹_›
  · cases h
theorem CG.bi (G : CG C Φ Γ k X sc) {x : Str} (h : x ∈ biAll) : X.mg x = none := G.bis x h
theorem okName_1 {x : Str} (h : okName x = true) : (x == ("__debug__" : Str)) = false := by
  unfold okName at h
  simp only [Bool.and_eq_true, Bool.not_eq_true'] at h
  exact h.1
theorem okName_2 {x : Str} (h : okName x = true) : (x == ("__classdict__" : Str)) = false := by
  unfold okName at h
  simp only [Bool.and_eq_true, Bool.not_eq_true'] at h
  exact h.2
theorem lookup_free {sc : Scope} : ∀ {names : List (Str × NameKind)} {x : Str}, names.lookup x = some .free →
    (names.map fun (n, k) => if (k == NameKind.free && sc.kind == .function && sc.names.lookup n == some .cell) then (n, NameKind.cell) else (n, k)).lookup x = some .cell ∨
    (names.map fun (n, k) => if (k == NameKind.free && sc.kind == .function && sc.names.lookup n == some .cell) then (n, NameKind.cell) else (n, k)).lookup x = some .free
  | [], _, h => by simp at h
  | (n, k₀) :: r, x, h => by
    have ih := @lookup_free sc r x
    show List.lookup x ((if (k₀ == NameKind.free && sc.kind == .function && sc.names.lookup n == some .cell) = true then (n, NameKind.cell) else (n, k₀)) :: (r.map _)) = some _ ∨ List.lookup x ((if (k₀ == NameKind.free && sc.kind == .function && sc.names.lookup n == some .cell) = true then (n, NameKind.cell) else (n, k₀)) :: (r.map _)) = some _
    cases hx : x == n with
    | true =>
      simp only [List.lookup_cons, hx] at h
      cases h
      by_cases hc : (NameKind.free == NameKind.free && sc.kind == .function && sc.names.lookup n == some .cell) = true
      · rw [if_pos hc]; left; simp only [List.lookup_cons, hx]
      · rw [if_neg hc]; right; simp only [List.lookup_cons, hx]
    | false =>
      simp only [List.lookup_cons, hx] at h
      by_cases hc : (k₀ == NameKind.free && sc.kind == .function && sc.names.lookup n == some .cell) = true
      · rw [if_pos hc]; simp only [List.lookup_cons, hx]; exact ih h
      · rw [if_neg hc]; simp only [List.lookup_cons, hx]; exact ih h
theorem CG.blk (G : CG C Φ Γ k X sc) {scope : Scope} (hk : scope.kind = .function) (s : Shared) (H : Hp) (Cc : Addr) (cl : List (Str × Addr)) (fp : List Addr) : CG C Φ Γ k (X.blk s H scope (compEnvC scope cl Cc X.env) fp) scope where
  hN := G.hN
  nd := G.nd
  calm := G.calm
  room := G.room
  loc := fun x h => lookup_relS_keep (by decide) h
  cel := fun x h => lookup_relS_keep (by decide) h
  fre := fun x h => lookup_free h
  glo := fun x h => lookup_relS_keep (by decide) h
  kind := hk
  cfn := fun x h => by
    show (scope.names.lookup x == some .cell) = true
    rw [h]; rfl
  fns := G.fns
  gls := G.gls
  bis := G.bis
theorem CG.blkOk (G : CG C Φ Γ k X sc) {scope : Scope} {own : List (Str × Nat)} (h : blkC C.N sc scope own = true) : BlkOk X.N X.env.scope scope own := by
  have b := blkOk_by h
  refine ⟨b.kind, b.uniq, by rw [G.hN]; exact b.ix, fun y hy e => ?_, by rw [G.hN]; exact b.own⟩
  rcases b.free y hy e with q | q
  · exact .inl (G.cel _ q)
  · exact G.fre _ q
end
/-! ### readings by data -/
def RE {α β : Type} (rel : Hp → List Addr → α → β → Prop) (K : PySem.W.Frag) (f : Env → Store → Option (β × Store)) (σ : L2.St) (H : Hp) (Q : α → Hp → Prop) : Prop :=
  ∃ B F ρ env μ d μ', SR K B F H ρ σ env μ ∧ f env μ = some (d, μ') ∧ ∀ v F' H' ρ', Ext F H ρ F' H' ρ' → Same F' H' → Cells K F' H' ρ' μ' → rel F' ρ' v d → Q v H'
section
variable (K : PySem.W.Frag) (Φ : FnS) (Γ : GlS)
def tE (e : E) : TE := RE (fun F ρ v d => Dr K F ρ v d) K (ev Φ Γ e)
def tT (e : E) : TT := RE (fun _ _ (a b : Bool) => a = b) K (evT Φ Γ e)
def tEs (e : Es) : TA := RE (fun F ρ v d => DrL K F ρ v d) K (evs Φ Γ e)
def tO (e : Eo) : TO := RE (fun _ _ (a b : Option Int) => a = b) K (evo Φ Γ e)
def tC (e : Eo) : TT := RE (fun _ _ (a b : Bool) => a = b) K (evc Φ Γ e)
end
theorem PE.imp {X : Cx} {e : Expr} {t t' : TE} (h : PE X e t) (w : ∀ σ H Q, t' σ H Q → t σ H Q) : PE X e t' := ⟨fun pins s σ H Q I q => h.run pins s σ H Q I (w σ H Q q)⟩
theorem PT.imp {X : Cx} {e : Expr} {t t' : TT} (h : PT X e t) (w : ∀ σ H Q, t' σ H Q → t σ H Q) : PT X e t' := ⟨fun pins s σ H Q I q => h.run pins s σ H Q I (w σ H Q q)⟩
theorem PW.imp {X : Cx} {e : Expr} {t t' : TT} (h : PW X e t) (w : ∀ σ H Q, t' σ H Q → t σ H Q) : PW X e t' := ⟨fun wh pins s σ H Q I q => h.run wh pins s σ H Q I (w σ H Q q)⟩
theorem PA.imp {X : Cx} {e : List Expr} {t t' : TA} (h : PA X e t) (w : ∀ σ H Q, t' σ H Q → t σ H Q) : PA X e t' := ⟨fun pos pins s σ H Q I q => h.run pos pins s σ H Q I (w σ H Q q)⟩
theorem PO.imp {X : Cx} {e : Option Expr} {t t' : TO} (h : PO X e t) (w : ∀ σ H Q, t' σ H Q → t σ H Q) : PO X e t' := ⟨fun pins s σ H Q I q => h.run pins s σ H Q I (w σ H Q q)⟩
theorem PTs.imp {X : Cx} {e : List Expr} {t t' : TT} (h : PTs X e t) (w : ∀ σ H Q, t' σ H Q → t σ H Q) : PTs X e t' := ⟨fun pins s σ H Q I q => h.run pins s σ H Q I (w σ H Q q)⟩
section
variable {K : PySem.W.Frag} {B F H : Hp} {ρ : List Addr} {σ : L2.St} {env : Env} {μ μ1 μ2 : Store}
/-- one part, and what follows -/
theorem RE.go {α β : Type} {rel : Hp → List Addr → α → β → Prop} {f : Env → Store → Option (β × Store)} {x : β} {R : α → Hp → Prop} (S : SR K B F H ρ σ env μ) (h : f env μ = some (x, μ1))
    (k : ∀ v F1 H1 ρ1, Ext F H ρ F1 H1 ρ1 → SR K B F1 H1 ρ1 σ env μ1 → rel F1 ρ1 v x → R v H1) : RE rel K f σ H R :=
  ⟨B, F, ρ, env, μ, x, μ1, S, h, fun v F1 H1 ρ1 e1 s1 c1 r1 => k v F1 H1 ρ1 e1 (S.step e1 s1 c1) r1⟩
end
/-- the end of an operation that lays new things -/
theorem fin_px {K : PySem.W.Frag} {F H F1 H1 : Hp} {ρ ρ1 : List Addr} {μ : Store} {d : D} {Q : VK} (post : ∀ v F' H' ρ', Ext F H ρ F' H' ρ' → Same F' H' → Cells K F' H' ρ' μ → Dr K F' ρ' v d → Q v H')
    (e : Ext F H ρ F1 H1 ρ1) (c : Cells K F1 H1 ρ1 μ) : ∀ v F' H', PX F1 H1 F' H' → Dr K F' ρ1 v d → Q v H' := fun v F' H' p r => post v F' H' ρ1 (e.trans p.ext) p.fh (c.px p) r
end Py
end
section
set_option Elab.async false
set_option linter.all false
set_option maxRecDepth 100000
namespace Py
open PySem L2 RZ
/-! ### what is walked -/
def SrcOk (K : PySem.W.Frag) (F : Hp) (ρ : List Addr) (J : It) (ds : List D) : Prop := ∃ (G : Hp → Prop) (Y : Nat → Hp → V → Hp → Prop), Walk J ds.length G Y ∧ (∀ F1 H, Same F F1 → Same F1 H → G H) ∧
  ∀ i x H H' F1, i < ds.length → Same F F1 → Same F1 H → Y i H x H' → ∃ F2 d, PX F1 H F2 H' ∧ ds[i]? = some d ∧ ∀ ρ1, (∀ (j : Nat) (a : Addr), ρ[j]? = some a → ρ1[j]? = some a) → Dr K F2 ρ1 x d
def tI (K : PySem.W.Frag) (Φ : FnS) (Γ : GlS) (it : I) : TI := RE (fun F ρ J ds => SrcOk K F ρ J ds) K (evI Φ Γ it)
theorem PI.imp {X : Cx} {tg e : Expr} {t t' : TI} (h : PI X tg e t) (w : ∀ σ H Q, t' σ H Q → t σ H Q) : PI X tg e t' := ⟨fun pins s σ H Q I q => h.run pins s σ H Q I (w σ H Q q)⟩
section
variable {K : PySem.W.Frag} {F H : Hp} {ρ : List Addr} {a b : Addr} {xs ys : List V} {ds es : List D}
theorem src_at (r : DrL K F ρ xs ds) {i : Nat} {x : V} {H H' F1 : Hp} (hF : Same F F1) (fh : Same F1 H) (y : YAt xs i H x H') :
    ∃ F2 d, PX F1 H F2 H' ∧ ds[i]? = some d ∧ ∀ ρ1, (∀ (j : Nat) (a : Addr), ρ[j]? = some a → ρ1[j]? = some a) → Dr K F2 ρ1 x d := by
  obtain ⟨rfl, e⟩ := y
  obtain ⟨d, h1, h2⟩ := r.getV e
  exact ⟨F1, d, .refl fh, h1, fun ρ1 hp => Dr.mono hF hp _ _ h2⟩
theorem src_list (h : SqL K F a xs) (r : DrL K F ρ xs ds) : SrcOk K F ρ (Itl K a) ds := by
  refine ⟨fun H => SqL K H a xs, YAt xs, ?_, fun F1 H h1 h2 => h2.seq (h1.seq h), fun i x H H' F1 _ hF fh y => src_at r hF fh y⟩
  rw [← r.length]
  exact walk_list
theorem src_tup (h : SqT K F a xs) (r : DrL K F ρ xs ds) : SrcOk K F ρ (Itt K a) ds := by
  refine ⟨fun H => SqT K H a xs, YAt xs, ?_, fun F1 H h1 h2 => same_t h2 (same_t h1 h), fun i x H H' F1 _ hF fh y => src_at r hF fh y⟩
  rw [← r.length]
  exact walk_tup
theorem src_range {lo : Int} {n : Nat} : SrcOk K F ρ (Itr lo n) (rangeD lo n) := by
  have hl : (rangeD lo n).length = n := by unfold rangeD; simp
  refine ⟨fun _ => True, YFn fun i => .int (lo + i), ?_, fun _ _ _ _ => trivial, fun i x H H' F1 hi hF fh y => ?_⟩
  · rw [hl]; exact walk_range
  · obtain ⟨rfl, rfl⟩ := y
    rw [hl] at hi
    refine ⟨F1, .int (lo + i), .refl fh, ?_, fun _ _ => .int _⟩
    unfold rangeD
    simp [hi]
theorem zipD_len (ds es : List D) : (zipD ds es).length = min ds.length es.length := by unfold zipD; simp
theorem zipD_get {ds es : List D} {i : Nat} {x y : D} (h1 : ds[i]? = some x) (h2 : es[i]? = some y) : (zipD ds es)[i]? = some (.tup [x, y]) := by
  unfold zipD
  rw [List.getElem?_map, (List.getElem?_zip_eq_some (z := (x, y))).mpr ⟨h1, h2⟩]
  rfl
theorem src_pair (r : DrL K F ρ xs ds) (r' : DrL K F ρ ys es) {i : Nat} {x : V} {H H' F1 : Hp} (hF : Same F F1) (fh : Same F1 H) (y : YPair (fun i => xs[i]?) (fun i => ys[i]?) i H x H') :
    ∃ F2 d, PX F1 H F2 H' ∧ (zipD ds es)[i]? = some d ∧ ∀ ρ1, (∀ (j : Nat) (a : Addr), ρ[j]? = some a → ρ1[j]? = some a) → Dr K F2 ρ1 x d := by
  obtain ⟨T, v, w, rfl, h1, rfl, h2, h3⟩ := y
  obtain ⟨d, h4, h5⟩ := r.getV h2
  obtain ⟨e, h6, h7⟩ := r'.getV h3
  have P := PX.new_ (o := .tup [v, w]) fh h1
  refine ⟨_, .tup [d, e], P, zipD_get h4 h6, fun ρ1 hp => .tup (.inl (.inl upd_same)) (.cons ?_ (.cons ?_ .nil))⟩
  · exact Dr.mono (hF.trans P.ff) hp _ _ h5
  · exact Dr.mono (hF.trans P.ff) hp _ _ h7
theorem walk_zipT {n : Nat} (hn : n = min xs.length ys.length) : Walk (ItzT K a b) n (fun H => SqT K H a xs ∧ SqT K H b ys) (YPair (fun i => xs[i]?) (fun i => ys[i]?)) := by
  subst hn
  refine ⟨fun i _ hi q => ?_, fun _ q => ⟨xs, ys, q.1, q.2, by omega⟩, fun i H v H' _ q y => ?_⟩
  · have h1 : i < xs.length := by omega
    have h2 : i < ys.length := by omega
    exact ⟨xs, ys, xs[i], ys[i], q.1, q.2, by simp [h1], by simp [h2]⟩
  · obtain ⟨T, x, z, h1, h2, h3, h4, h5⟩ := y
    exact ⟨T, x, z, h1, h2, h3, h4 xs q.1, h5 ys q.2⟩
theorem src_zipL (h : SqL K F a xs) (h' : SqL K F b ys) (r : DrL K F ρ xs ds) (r' : DrL K F ρ ys es) : SrcOk K F ρ (Itz K a b) (zipD ds es) := by
  refine ⟨fun H => SqL K H a xs ∧ SqL K H b ys, YPair (fun i => xs[i]?) (fun i => ys[i]?), ?_, fun F1 H h1 h2 => ⟨h2.seq (h1.seq h), h2.seq (h1.seq h')⟩, fun i x H H' F1 _ hF fh y => src_pair r r' hF fh y⟩
  exact walk_zip (by rw [zipD_len, r.length, r'.length])
theorem src_zipT (h : SqT K F a xs) (h' : SqT K F b ys) (r : DrL K F ρ xs ds) (r' : DrL K F ρ ys es) : SrcOk K F ρ (ItzT K a b) (zipD ds es) := by
  refine ⟨fun H => SqT K H a xs ∧ SqT K H b ys, YPair (fun i => xs[i]?) (fun i => ys[i]?), ?_, fun F1 H h1 h2 => ⟨same_t h2 (same_t h1 h), same_t h2 (same_t h1 h')⟩, fun i x H H' F1 _ hF fh y => src_pair r r' hF fh y⟩
  exact walk_zipT (by rw [zipD_len, r.length, r'.length])
theorem enumD_len : ∀ (k : Nat) (ds : List D), (enumD k ds).length = ds.length
  | _, [] => rfl
  | k, d :: ds => by show (enumD (k + 1) ds).length + 1 = _; rw [enumD_len]; rfl
theorem enumD_get : ∀ {k : Nat} {ds : List D} {i : Nat} {d : D}, ds[i]? = some d → (enumD k ds)[i]? = some (.tup [.int ((k + i : Nat) : Int), d])
  | k, [], i, _, h => by simp at h
  | k, e :: ds, 0, _, h => by simp at h; subst h; rfl
  | k, e :: ds, i + 1, d, h => by
    have h' : ds[i]? = some d := by simpa using h
    have := enumD_get (k := k + 1) h'
    show (enumD (k + 1) ds)[i]? = _
    rw [this, show k + 1 + i = k + (i + 1) by omega]
theorem src_rngD {j : Int} : SrcOk K F ρ (Itc j (-1) (j - -1).toNat) (rangeDn j) := by
  have hl : (rangeDn j).length = (j - -1).toNat := by unfold rangeDn; simp
  refine ⟨fun _ => True, YFn fun i => .int (j + (i : Nat) * (-1)), ?_, fun _ _ _ _ => trivial, fun i x H H' F1 hi hF fh y => ?_⟩
  · rw [hl]; exact walk_rangeC
  · obtain ⟨rfl, rfl⟩ := y
    rw [hl] at hi
    refine ⟨F1, .int (j + (i : Nat) * (-1)), .refl fh, ?_, fun _ _ => .int _⟩
    unfold rangeDn
    have h1 : i < (j + 1).toNat := by omega
    rw [List.getElem?_map, List.getElem?_range h1]
    show some (D.int (j - (i : Nat))) = _
    rw [show j + (i : Int) * (-1) = j - (i : Nat) by omega]
theorem src_enumT (h : SqT K F a xs) (r : DrL K F ρ xs ds) : SrcOk K F ρ (IteT K a) (enumD 0 ds) := by
  refine ⟨fun H => SqT K H a xs, YPair (fun i => some (.int (i : Nat))) (fun i => xs[i]?), ?_, fun F1 H h1 h2 => same_t h2 (same_t h1 h), fun i x H H' F1 _ hF fh y => ?_⟩
  · rw [enumD_len, ← r.length]
    exact walk_enumT
  · obtain ⟨T, v, w, rfl, h1, rfl, h2, h3⟩ := y
    cases h2
    obtain ⟨e, h6, h7⟩ := r.getV h3
    have P := PX.new_ (o := .tup [.int (i : Nat), w]) fh h1
    refine ⟨_, .tup [.int (i : Nat), e], P, by have := enumD_get (k := 0) h6; rwa [Nat.zero_add] at this, fun ρ1 hp => .tup (.inl (.inl upd_same)) (.cons (.int _) (.cons ?_ .nil))⟩
    exact Dr.mono (hF.trans P.ff) hp _ _ h7
theorem src_enum (h : SqL K F a xs) (r : DrL K F ρ xs ds) : SrcOk K F ρ (Ite K a) (enumD 0 ds) := by
  refine ⟨fun H => SqL K H a xs, YPair (fun i => some (.int (i : Nat))) (fun i => xs[i]?), ?_, fun F1 H h1 h2 => h2.seq (h1.seq h), fun i x H H' F1 _ hF fh y => ?_⟩
  · rw [enumD_len, ← r.length]
    exact walk_enum
  · obtain ⟨T, v, w, rfl, h1, rfl, h2, h3⟩ := y
    cases h2
    obtain ⟨e, h6, h7⟩ := r.getV h3
    have P := PX.new_ (o := .tup [.int (i : Nat), w]) fh h1
    refine ⟨_, .tup [.int (i : Nat), e], P, by have := enumD_get (k := 0) h6; rwa [Nat.zero_add] at this, fun ρ1 hp => .tup (.inl (.inl upd_same)) (.cons (.int _) (.cons ?_ .nil))⟩
    exact Dr.mono (hF.trans P.ff) hp _ _ h7
end
/-! ### slots stored -/
section
variable {K : PySem.W.Frag} {B F H : Hp} {ρ : List Addr} {σ σ' : L2.St} {env env' : Env} {μ : Store}
theorem getV_eq {i : Nat} {d : D} (h : getV env i = some d) : env[i]? = some (some (.val d)) := by
  unfold getV at h
  split at h
  · cases h; assumption
  · cases h
theorem getO_eq {i : Nat} {ds : List D} (h : getO env i = some ds) : env[i]? = some (some (.own ds)) := by
  unfold getO at h
  split at h
  · cases h; assumption
  · cases h
theorem getD_eq {i : Nat} {ds : List (NestedKey × D)} (h : getD' env i = some ds) : env[i]? = some (some (.dct ds)) := by
  unfold getD' at h
  split at h
  · cases h; assumption
  · cases h
/-- a slot gets a value; whatever it was -/
theorem EnvR.setV (E : EnvR K B F H ρ σ env) {i : Nat} {v : V} {d : D} (r : Dr K F ρ v d) : EnvR K B F H ρ (σ.set i (some v)) (env.set i (some (.val d))) := by
  refine ⟨by rw [List.length_set, List.length_set]; exact E.len, fun j sv h => ?_, fun j l es fs a h1 h2 h3 h4 => ?_, fun j l es fs a h1 h2 h3 h4 => ?_⟩
  · by_cases q : i = j
    · subst q
      have hl : i < env.length := by
        by_cases hl : i < env.length
        · exact hl
        · rw [List.getElem?_eq_none (by rw [List.length_set]; omega)] at h; cases h
      rw [List.getElem?_set_self hl] at h
      cases h
      exact ⟨v, List.getElem?_set_self (by rw [E.len]; exact hl), r⟩
    · rw [List.getElem?_set_ne q] at h
      obtain ⟨w, h1, h2⟩ := E.at_ j sv h
      exact ⟨w, by rw [List.getElem?_set_ne q]; exact h1, h2⟩
  · have own_ne : ∀ {j : Nat} {es : List D}, (env.set i (some (.val d)))[j]? = some (some (.own es)) → i ≠ j := fun {j es} h q => by
      subst q
      by_cases hl : i < env.length
      · rw [List.getElem?_set_self hl] at h; cases h
      · rw [List.getElem?_eq_none (by rw [List.length_set]; omega)] at h; cases h
    have n1 := own_ne h1
    have n2 := own_ne h2
    rw [List.getElem?_set_ne n1] at h1 h3
    rw [List.getElem?_set_ne n2] at h2 h4
    exact E.apart j l es fs a h1 h2 h3 h4
  · have own_ne : ∀ {j : Nat} {es : List (NestedKey × D)}, (env.set i (some (.val d)))[j]? = some (some (.dct es)) → i ≠ j := fun {j es} h q => by
      subst q
      by_cases hl : i < env.length
      · rw [List.getElem?_set_self hl] at h; cases h
      · rw [List.getElem?_eq_none (by rw [List.length_set]; omega)] at h; cases h
    have n1 := own_ne h1
    have n2 := own_ne h2
    rw [List.getElem?_set_ne n1] at h1 h3
    rw [List.getElem?_set_ne n2] at h2 h4
    exact E.apd j l es fs a h1 h2 h3 h4
/-- a slot is forgotten -/
theorem EnvR.setN (E : EnvR K B F H ρ σ env) {i : Nat} : EnvR K B F H ρ (σ.set i none) (env.set i none) := by
  have ne : ∀ {j : Nat} {sv : SV}, (env.set i none)[j]? = some (some sv) → i ≠ j := fun {j es} h q => by
    subst q
    by_cases hl : i < env.length
    · rw [List.getElem?_set_self hl] at h; cases h
    · rw [List.getElem?_eq_none (by rw [List.length_set]; omega)] at h; cases h
  refine ⟨by rw [List.length_set, List.length_set]; exact E.len, fun j sv h => ?_, fun j l es fs a h1 h2 h3 h4 => ?_, fun j l es fs a h1 h2 h3 h4 => ?_⟩
  · have q := ne h
    rw [List.getElem?_set_ne q] at h ⊢
    exact E.at_ j sv h
  · have n1 := ne h1
    have n2 := ne h2
    rw [List.getElem?_set_ne n1] at h1 h3
    rw [List.getElem?_set_ne n2] at h2 h4
    exact E.apart j l es fs a h1 h2 h3 h4
  · have n1 := ne h1
    have n2 := ne h2
    rw [List.getElem?_set_ne n1] at h1 h3
    rw [List.getElem?_set_ne n2] at h2 h4
    exact E.apd j l es fs a h1 h2 h3 h4
theorem EnvR.wipe (E : EnvR K B F H ρ σ env) : ∀ vs : List Nat, EnvR K B F H ρ (L2.wipe σ vs) (wipeE env vs)
  | [] => E
  | v :: vs => (EnvR.wipe E vs).setN
theorem SR.setV (S : SR K B F H ρ σ env μ) {i : Nat} {v : V} {d : D} (r : Dr K F ρ v d) : SR K B F H ρ (σ.set i (some v)) (env.set i (some (.val d))) μ := ⟨S.fh, S.cells, S.env.setV r⟩
theorem SR.wipe (S : SR K B F H ρ σ env μ) (vs : List Nat) : SR K B F H ρ (L2.wipe σ vs) (wipeE env vs) μ := ⟨S.fh, S.cells, S.env.wipe vs⟩
/-- two slot lists that agree outside of vs are alike when wiped -/
theorem wipe_get (σ : L2.St) (j : Nat) : ∀ vs : List Nat, (L2.wipe σ vs)[j]? = if j ∈ vs ∧ j < σ.length then some none else σ[j]?
  | [] => by simp [L2.wipe]
  | v :: vs => by
    show ((L2.wipe σ vs).set v none)[j]? = _
    have ih := wipe_get σ j vs
    have hl := wipe_length σ vs
    by_cases q : v = j
    · subst q
      by_cases hj : v < σ.length
      · rw [List.getElem?_set_self (by rw [hl]; exact hj), if_pos ⟨List.mem_cons_self, hj⟩]
      · rw [List.getElem?_eq_none (by rw [List.length_set, hl]; omega), if_neg (fun z => hj z.2), List.getElem?_eq_none (by omega)]
    · rw [List.getElem?_set_ne q, ih]
      have : (j ∈ v :: vs ∧ j < σ.length) ↔ (j ∈ vs ∧ j < σ.length) := by
        simp only [List.mem_cons]
        constructor
        · rintro ⟨h | h, h2⟩
          · exact absurd h.symm q
          · exact ⟨h, h2⟩
        · rintro ⟨h, h2⟩; exact ⟨.inr h, h2⟩
      simp only [this]
theorem wipe_same {vs : List Nat} (hl : σ'.length = σ.length) (h : ∀ j, j ∉ vs → σ'[j]? = σ[j]?) : L2.wipe σ' vs = L2.wipe σ vs := by
  apply List.ext_getElem?
  intro j
  rw [wipe_get, wipe_get, hl]
  by_cases q : j ∈ vs
  · by_cases q2 : j < σ.length
    · rw [if_pos ⟨q, q2⟩, if_pos ⟨q, q2⟩]
    · rw [if_neg (fun z => q2 z.2), if_neg (fun z => q2 z.2), List.getElem?_eq_none (by omega), List.getElem?_eq_none (by omega)]
  · rw [if_neg (fun z => q z.1), if_neg (fun z => q z.1)]
    exact h j q
theorem wipe_idem (σ : L2.St) (vs : List Nat) : L2.wipe (L2.wipe σ vs) vs = L2.wipe σ vs := wipe_same (wipe_length σ vs) fun j hj => by rw [wipe_get, if_neg (fun z => hj z.1)]
end
/-! ### targets -/
def gT (K : PySem.W.Frag) (t : T) : TG := fun v σ H Q => ∃ B F ρ env μ d env', SR K B F H ρ σ env μ ∧ Dr K F ρ v d ∧ asgT t d env = some env' ∧
  ∀ σ', SR K B F H ρ σ' env' μ → σ'.length = σ.length → (∀ j, j ∉ tgS t → σ'[j]? = σ[j]?) → Q σ' H
def gTs (K : PySem.W.Frag) (t : List T) : TGs := fun vs σ H Q => ∃ B F ρ env μ ds env', SR K B F H ρ σ env μ ∧ DrL K F ρ vs ds ∧ asgTs t ds env = some env' ∧
  ∀ σ', SR K B F H ρ σ' env' μ → σ'.length = σ.length → (∀ j, j ∉ tgsS t → σ'[j]? = σ[j]?) → Q σ' H
theorem PG.imp {X : Cx} {e : Expr} {t t' : TG} (h : PG X e t) (w : ∀ v σ H Q, t' v σ H Q → t v σ H Q) : PG X e t' := ⟨fun pins s σ H v u Q I r q => h.run pins s σ H v u Q I r (w v σ H Q q)⟩
theorem PGs.imp {X : Cx} {e : List Expr} {t t' : TGs} (h : PGs X e t) (w : ∀ v σ H Q, t' v σ H Q → t v σ H Q) : PGs X e t' := ⟨fun pins s σ H v u Q I r q => h.run pins s σ H v u Q I r (w v σ H Q q)⟩
theorem mT_form {C : MC} {sc : Scope} {t : T} {e : Expr} (h : mT C sc t e = true) : (∃ x p, e = .Name x p) ∨ ∃ es k p, e = .Tuple es k p := by
  unfold mT at h
  split at h
  · exact .inl ⟨_, _, rfl⟩
  · exact .inr ⟨_, _, _, rfl⟩
  · cases h
theorem assignEach_cons {e : Expr} {es : List Expr} {env : PySem.Env} (h : ∀ v p, e ≠ .Starred v p) : assignEach (e :: es) env = (false, assign e env) :: assignEach es env := by
  cases e <;> first | rfl | exact absurd rfl (h _ _)
theorem mT_nostar {C : MC} {sc : Scope} {t : T} {e : Expr} (h : mT C sc t e = true) : ∀ v p, e ≠ .Starred v p := by
  rcases mT_form h with ⟨x, p, rfl⟩ | ⟨es, k, p, rfl⟩ <;> exact fun v p z => nomatch z
theorem assignEach_plain {C : MC} {sc : Scope} {env : PySem.Env} : ∀ {ts : List T} {es : List Expr}, mTs C sc ts es = true → (assignEach es env).length = ts.length ∧ (assignEach es env).findIdx? (·.1) = none ∧ es.length = ts.length
  | [], [], _ => ⟨rfl, rfl, rfl⟩
  | t :: ts, e :: es, h => by
    rw [mTs, Bool.and_eq_true] at h
    obtain ⟨h1, h2, h3⟩ := assignEach_plain (env := env) h.2
    rw [assignEach_cons (mT_nostar h.1)]
    refine ⟨by simp [h1], ?_, by simp [h3]⟩
    rw [List.findIdx?_cons]
    simp [h2]
  | [], _ :: _, h => by rw [mTs] at h <;> first | cases h | (intros; contradiction)
  | _ :: _, [], h => by rw [mTs] at h <;> first | cases h | (intros; contradiction)
section
variable {C : MC} {Φ : FnS} {Γ : GlS} {k : Nat} {X : Cx} {sc : Scope}
mutual
theorem pgT (G : CG C Φ Γ k X sc) : ∀ (t : T) (e : Expr), mT C sc t e = true → PG X e (gT X.K t)
  | .nm i, e, h => by
    unfold mT at h
    split at h <;> first | contradiction | skip
    rename_i q; cases q
    simp only [Bool.and_eq_true, decide_eq_true_eq] at h
    obtain ⟨h1, h2⟩ := h
    obtain ⟨l1, l2⟩ := G.locv h2
    refine PG.imp (pg_name G.nd (by rw [G.hN]; exact h1) l1 l2) fun v σ H Q q => ?_
    obtain ⟨B, F, ρ, env, μ, d, env', S, r, ha, q⟩ := q
    unfold asgT Py.setV at ha
    split at ha
    · cases ha
      exact q _ (S.setV r) (by rw [List.length_set]) fun j hj => List.getElem?_set_ne (fun z => hj (by rw [tgS]; simp [z]))
    · cases ha
  | .tp ts, e, h => by
    unfold mT at h
    split at h <;> first | contradiction | skip
    rename_i q; cases q
    obtain ⟨p1, p2, p3⟩ := assignEach_plain (env := X.env) h
    refine PG.imp (pg_tup (n := ts.length) G.calm (pgTs G ts _ h) p1 p2) fun v σ H Q q => ?_
    obtain ⟨B, F, ρ, env, μ, d, env', S, r, ha, q⟩ := q
    cases r with
    | tup r1 r2 =>
      rw [asgT] at ha
      refine ⟨_, _, rfl, same_t S.fh r1, ?_, B, F, ρ, env, μ, _, env', S, r2, ha, fun σ' S' hl hj => q σ' S' hl fun j h => hj j (by rw [tgS] at h; exact h)⟩
      have : ∀ {ts : List T} {ds : List D} {env env' : Env}, asgTs ts ds env = some env' → ds.length = ts.length := by
        intro ts
        induction ts with
        | nil => intro ds env env' h; cases ds with
          | nil => rfl
          | cons d ds => rw [asgTs] at h <;> first | cases h | (intros; contradiction)
        | cons t ts ih => intro ds env env' h; cases ds with
          | nil => rw [asgTs] at h <;> first | cases h | (intros; contradiction)
          | cons d ds =>
            rw [asgTs] at h
            obtain ⟨e1, _, h2⟩ := Option.bind_eq_some_iff.mp h
            rw [List.length_cons, List.length_cons, ih h2]
      rw [r2.length]
      exact this ha
    | _ => rw [asgT] at ha <;> first | cases ha | (intros; contradiction)
theorem pgTs (G : CG C Φ Γ k X sc) : ∀ (t : List T) (e : List Expr), mTs C sc t e = true → PGs X e (gTs X.K t)
  | [], [], _ => PGs.imp pgs_nil fun v σ H Q q => by
    obtain ⟨B, F, ρ, env, μ, ds, env', S, r, ha, q⟩ := q
    cases ds with
    | cons d ds => rw [asgTs] at ha <;> first | cases ha | (intros; contradiction)
    | nil =>
      cases r
      rw [asgTs] at ha
      cases ha
      exact ⟨rfl, q σ S rfl fun _ _ => rfl⟩
  | t :: ts, e :: es, h => by
    rw [mTs, Bool.and_eq_true] at h
    refine PGs.imp (pgs_cons (pgT G t e h.1) (pgTs G ts es h.2) (by rw [assignEach_cons (mT_nostar h.1)]; rfl)) fun v σ H Q q => ?_
    obtain ⟨B, F, ρ, env, μ, ds, env', S, r, ha, q⟩ := q
    cases r with
    | nil => rw [asgTs] at ha <;> first | cases ha | (intros; contradiction)
    | cons r1 r2 =>
      rw [asgTs] at ha
      obtain ⟨env1, h1, h2⟩ := Option.bind_eq_some_iff.mp ha
      refine ⟨_, _, rfl, B, F, ρ, env, μ, _, env1, S, r1, h1, fun σ1 S1 l1 j1 => ⟨B, F, ρ, env1, μ, _, env', S1, r2, h2, fun σ2 S2 l2 j2 => q σ2 S2 (l2.trans l1) fun j hj => ?_⟩⟩
      rw [tgsS, List.mem_append] at hj
      exact (j2 j fun z => hj (.inr z)).trans (j1 j fun z => hj (.inl z))
  | [], _ :: _, h => by rw [mTs] at h <;> first | cases h | (intros; contradiction)
  | _ :: _, [], h => by rw [mTs] at h <;> first | cases h | (intros; contradiction)
end
end
end Py
end
section
set_option Elab.async false
set_option linter.all false
set_option maxRecDepth 100000
namespace Py
open PySem L2 RZ
section
variable {C : MC} {Φ : FnS} {Γ : GlS} {k : Nat} {X : Cx} {sc : Scope}
theorem s_slot {i : Nat} {x : Str} {p : Pos} (G : CG C Φ Γ k X sc) (h1 : C.N[i]? = some x) (h2 : visB sc x = true) (h3 : okName x = true) : PE X (.Name x p) (tE X.K Φ Γ (.slot i)) := by
  refine PE.imp (pe_var (i := i) (by rw [G.hN]; exact h1) (G.vis h2) (okName_1 h3) (okName_2 h3)) fun σ H Q q => ?_
  obtain ⟨B, F, ρ, env, μ, d, μ', S, he, q⟩ := q
  rw [ev] at he
  obtain ⟨d', h4, h5⟩ := Option.map_eq_some_iff.mp he
  cases h5
  obtain ⟨v, h6, h7⟩ := S.env.at_ _ _ (getV_eq h4)
  exact ⟨v, h6, q v F H ρ .refl S.fh S.cells h7⟩
theorem s_glob {i : Nat} {x : Str} {p : Pos} (G : CG C Φ Γ k X sc) (h1 : C.gls[i]? = some x) (h2 : gloB sc x = true) (h3 : okName x = true) : PE X (.Name x p) (tE X.K Φ Γ (.glob i)) := by
  refine ⟨fun pins s σ H Q I q => ?_⟩
  obtain ⟨B, F, ρ, env, μ, d, μ', S, he, q⟩ := q
  rw [ev] at he
  obtain ⟨d', h4, h5⟩ := Option.map_eq_some_iff.mp he
  cases h5
  obtain ⟨v, u, h6, h7, h8⟩ := G.gls _ _ _ h1 h4
  exact (pe_glob (G.gl h2) h6 h7 (okName_1 h3)).run pins s σ H Q I (q v F H ρ .refl S.fh S.cells (h8 F ρ))
theorem s_int {i : Int} {n : Nat} {p : Pos} : PE X (.Constant (.int i) n p) (tE X.K Φ Γ (.int i)) := PE.imp pe_int fun σ H Q q => by
  obtain ⟨B, F, ρ, env, μ, d, μ', S, he, q⟩ := q
  rw [ev] at he; cases he
  exact q _ F H ρ .refl S.fh S.cells (.int _)
theorem s_bl {i : Bool} {n : Nat} {p : Pos} : PE X (.Constant (.bool i) n p) (tE X.K Φ Γ (.bl i)) := PE.imp pe_bl fun σ H Q q => by
  obtain ⟨B, F, ρ, env, μ, d, μ', S, he, q⟩ := q
  rw [ev] at he; cases he
  exact q _ F H ρ .refl S.fh S.cells (.bl _)
theorem s_non {n : Nat} {p : Pos} : PE X (.Constant .none n p) (tE X.K Φ Γ .non) := PE.imp pe_non fun σ H Q q => by
  obtain ⟨B, F, ρ, env, μ, d, μ', S, he, q⟩ := q
  rw [ev] at he; cases he
  exact q _ F H ρ .refl S.fh S.cells .non
theorem s_str {i : Str} {n : Nat} {p : Pos} : PE X (.Constant (.str i) n p) (tE X.K Φ Γ (.str i)) := PE.imp pe_str fun σ H Q q => by
  obtain ⟨B, F, ρ, env, μ, d, μ', S, he, q⟩ := q
  rw [ev] at he; cases he
  exact q _ F H ρ .refl S.fh S.cells (.str _)
theorem s_bin {a b : E} {x y : Expr} {op : Operator} {p : Pos} (ha : PE X x (tE X.K Φ Γ a)) (hb : PE X y (tE X.K Φ Γ b)) : PE X (.BinOp x op y p) (tE X.K Φ Γ (.bin op a b)) := by
  refine PE.imp (pe_op (op_of X op) ha hb) fun σ H Q q => ?_
  obtain ⟨B, F, ρ, env, μ, d, μ', S, he, q⟩ := q
  rw [ev] at he
  obtain ⟨⟨dx, μ1⟩, h1, h2⟩ := Option.bind_eq_some_iff.mp he
  obtain ⟨⟨dy, μ2⟩, h3, h4⟩ := Option.bind_eq_some_iff.mp h2
  obtain ⟨d', h5, h6⟩ := Option.map_eq_some_iff.mp h4
  cases h6
  refine RE.go S h1 fun v F1 H1 ρ1 e1 S1 r1 => RE.go S1 h3 fun w F2 H2 ρ2 e2 S2 r2 => ?_
  exact binS_ok op F2 H2 ρ2 v w dx dy _ Q S2.fh (r1.ext e2) r2 h5 (fin_px q (e1.trans e2) S2.cells)
theorem s_neg {a : E} {x : Expr} {p : Pos} (ha : PE X x (tE X.K Φ Γ a)) : PE X (.UnaryOp .USub x p) (tE X.K Φ Γ (.neg a)) := by
  refine PE.imp (pe_un un_neg ha) fun σ H Q q => ?_
  obtain ⟨B, F, ρ, env, μ, d, μ', S, he, q⟩ := q
  rw [ev] at he
  obtain ⟨⟨dx, μ1⟩, h1, h2⟩ := Option.bind_eq_some_iff.mp he
  obtain ⟨d', h5, h6⟩ := Option.map_eq_some_iff.mp h2
  cases h6
  refine RE.go S h1 fun v F1 H1 ρ1 e1 S1 r1 => ?_
  unfold asInt at h5
  split at h5
  · cases h5; cases r1
    exact ⟨_, rfl, q _ F1 H1 ρ1 e1 S1.fh S1.cells (.int _)⟩
  · cases h5
theorem s_not {a : E} {x : Expr} {p : Pos} (ha : PE X x (tE X.K Φ Γ a)) : PE X (.UnaryOp .Not x p) (tE X.K Φ Γ (.not a)) := by
  refine ⟨fun pins s σ H Q I q => ?_⟩
  obtain ⟨B, F, ρ, env, μ, d, μ', S, he, q⟩ := q
  rw [ev] at he
  obtain ⟨⟨dx, μ1⟩, h1, h2⟩ := Option.bind_eq_some_iff.mp he
  obtain ⟨b, h5, h6⟩ := Option.map_eq_some_iff.mp h2
  cases h6
  refine PyProof.Rows.UnaryOp_ (thn (ha.run pins s σ H _ I (RE.go (R := fun v H1 => TruV X.K v H1 b ∧ Q (.bl (!b)) H1) S h1 fun v F1 H1 ρ1 e1 S1 r1 => ⟨truS_ok S1.fh r1 h5, q _ F1 H1 ρ1 e1 S1.fh S1.cells (.bl _)⟩)) ?_)
  rintro u s1 ⟨v, H1, I1, r1, h7, h8⟩
  refine PyProof.Rows.not_of (thn (tru_ok pins s1 σ H1 v u (fun c H2 => Q (.bl (!c)) H2) I1 r1 ⟨b, h7, h8⟩) ?_)
  rintro c s2 ⟨H2, I2, q2⟩
  exact ⟨.bl (!c), H2, I2, rfl, q2⟩
theorem s_cmp {a b : E} {x y : Expr} {op : CmpOp} {p : Pos} (G : CG C Φ Γ k X sc) (hm : behindInMarks op y = false) (ha : PE X x (tE X.K Φ Γ a)) (hb : PE X y (tE X.K Φ Γ b)) : PE X (.Compare x [op] [y] p) (tE X.K Φ Γ (.cmp op a b)) := by
  refine PE.imp (pe_cmpR (cmp_of X (by have := G.room.un; omega) op) ha hb hm) fun σ H Q q => ?_
  obtain ⟨B, F, ρ, env, μ, d, μ', S, he, q⟩ := q
  rw [ev] at he
  obtain ⟨⟨dx, μ1⟩, h1, h2⟩ := Option.bind_eq_some_iff.mp he
  obtain ⟨⟨dy, μ2⟩, h3, h4⟩ := Option.bind_eq_some_iff.mp h2
  obtain ⟨d', h5, h6⟩ := Option.map_eq_some_iff.mp h4
  cases h6
  refine RE.go S h1 fun v F1 H1 ρ1 e1 S1 r1 => RE.go S1 h3 fun w F2 H2 ρ2 e2 S2 r2 => ?_
  exact cmpS_ok op S2.fh (r1.ext e2) r2 h5 (q _ F2 H2 ρ2 (e1.trans e2) S2.fh S2.cells (.bl _))
theorem sT_cmp {a b : E} {x y : Expr} {op : CmpOp} {p : Pos} (G : CG C Φ Γ k X sc) (hm : behindInMarks op y = false) (ha : PE X x (tE X.K Φ Γ a)) (hb : PE X y (tE X.K Φ Γ b)) : PT X (.Compare x [op] [y] p) (tT X.K Φ Γ (.cmp op a b)) := by
  refine PT.imp (pt_cmpR (cmp_of X (by have := G.room.un; omega) op) ha hb hm) fun σ H Q q => ?_
  obtain ⟨B, F, ρ, env, μ, d, μ', S, he, q⟩ := q
  rw [evT] at he
  obtain ⟨⟨dx, μ1⟩, h1, h2⟩ := Option.bind_eq_some_iff.mp he
  obtain ⟨⟨dy, μ2⟩, h3, h4⟩ := Option.bind_eq_some_iff.mp h2
  obtain ⟨d', h5, h6⟩ := Option.map_eq_some_iff.mp h4
  cases h6
  refine RE.go S h1 fun v F1 H1 ρ1 e1 S1 r1 => RE.go S1 h3 fun w F2 H2 ρ2 e2 S2 r2 => ?_
  exact cmpS_ok op S2.fh (r1.ext e2) r2 h5 ⟨_, rfl, q _ F2 H2 ρ2 (e1.trans e2) S2.fh S2.cells rfl⟩
theorem s_isN {a : E} {x : Expr} {n : Nat} {p2 p : Pos} (ha : PE X x (tE X.K Φ Γ a)) : PE X (.Compare x [.Is] [.Constant .none n p2] p) (tE X.K Φ Γ (.isN a)) := by
  refine PE.imp (pe_cmp (pc_isN ha) rfl) fun σ H Q q => ?_
  obtain ⟨B, F, ρ, env, μ, d, μ', S, he, q⟩ := q
  rw [ev] at he
  obtain ⟨⟨dx, μ1⟩, h1, h6⟩ := Option.map_eq_some_iff.mp he
  cases h6
  exact RE.go S h1 fun v F1 H1 ρ1 e1 S1 r1 => q _ F1 H1 ρ1 e1 S1.fh S1.cells (by rw [isNon_ok r1]; exact .bl _)
theorem s_notN {a : E} {x : Expr} {n : Nat} {p2 p : Pos} (ha : PE X x (tE X.K Φ Γ a)) : PE X (.Compare x [.IsNot] [.Constant .none n p2] p) (tE X.K Φ Γ (.notN a)) := by
  refine PE.imp (pe_cmp (pc_notN ha) rfl) fun σ H Q q => ?_
  obtain ⟨B, F, ρ, env, μ, d, μ', S, he, q⟩ := q
  rw [ev] at he
  obtain ⟨⟨dx, μ1⟩, h1, h6⟩ := Option.map_eq_some_iff.mp he
  cases h6
  exact RE.go S h1 fun v F1 H1 ρ1 e1 S1 r1 => q _ F1 H1 ρ1 e1 S1.fh S1.cells (by rw [isNon_ok r1]; exact .bl _)
theorem sT_isN {a : E} {x : Expr} {n : Nat} {p2 p : Pos} (ha : PE X x (tE X.K Φ Γ a)) : PT X (.Compare x [.Is] [.Constant .none n p2] p) (tT X.K Φ Γ (.isN a)) := by
  refine PT.imp (pt_cmp (pc_isN ha) rfl) fun σ H Q q => ?_
  obtain ⟨B, F, ρ, env, μ, d, μ', S, he, q⟩ := q
  rw [evT] at he
  obtain ⟨⟨dx, μ1⟩, h1, h6⟩ := Option.map_eq_some_iff.mp he
  cases h6
  exact RE.go S h1 fun v F1 H1 ρ1 e1 S1 r1 => ⟨_, rfl, q _ F1 H1 ρ1 e1 S1.fh S1.cells (isNon_ok r1)⟩
theorem sT_notN {a : E} {x : Expr} {n : Nat} {p2 p : Pos} (ha : PE X x (tE X.K Φ Γ a)) : PT X (.Compare x [.IsNot] [.Constant .none n p2] p) (tT X.K Φ Γ (.notN a)) := by
  refine PT.imp (pt_cmp (pc_notN ha) rfl) fun σ H Q q => ?_
  obtain ⟨B, F, ρ, env, μ, d, μ', S, he, q⟩ := q
  rw [evT] at he
  obtain ⟨⟨dx, μ1⟩, h1, h6⟩ := Option.map_eq_some_iff.mp he
  cases h6
  exact RE.go S h1 fun v F1 H1 ρ1 e1 S1 r1 => ⟨_, rfl, q _ F1 H1 ρ1 e1 S1.fh S1.cells (by rw [isNon_ok r1])⟩
/-- a value's truth, as a test -/
theorem sT_tru {f : Env → Store → Option (D × Store)} {g : Env → Store → Option (Bool × Store)} {x : Expr} (ha : PE X x (RE (fun F ρ v d => Dr X.K F ρ v d) X.K f)) (he : ∀ whole, isTrue x X.env whole = (do let v ← whole; standAt x.pos; holding [v] (truthy v)))
    (hg : ∀ env μ r, g env μ = some r → ∃ d, f env μ = some (d, r.2) ∧ truS d = some r.1) : PT X x (RE (fun _ _ (a b : Bool) => a = b) X.K g) := by
  refine PT.imp (pt_truth ha he) fun σ H Q q => ?_
  obtain ⟨B, F, ρ, env, μ, d, μ', S, h0, q⟩ := q
  obtain ⟨dx, h1, h2⟩ := hg env μ _ h0
  exact RE.go S h1 fun v F1 H1 ρ1 e1 S1 r1 => ⟨d, truS_ok S1.fh r1 h2, q _ F1 H1 ρ1 e1 S1.fh S1.cells rfl⟩
theorem s_ite {a b c : E} {x y z : Expr} {p : Pos} (hc : PT X z (tT X.K Φ Γ c)) (ha : PE X x (tE X.K Φ Γ a)) (hb : PE X y (tE X.K Φ Γ b)) : PE X (.IfExp z x y p) (tE X.K Φ Γ (.ite c a b)) := by
  refine PE.imp (pe_ifExp hc ha hb) fun σ H Q q => ?_
  obtain ⟨B, F, ρ, env, μ, d, μ', S, he, q⟩ := q
  rw [ev] at he
  obtain ⟨⟨dx, μ1⟩, h1, h2⟩ := Option.bind_eq_some_iff.mp he
  refine RE.go S h1 fun v F1 H1 ρ1 e1 S1 r1 => ?_
  cases r1
  cases dx with
  | true => exact iteT (RE.go S1 h2 fun w F2 H2 ρ2 e2 S2 r2 => q w F2 H2 ρ2 (e1.trans e2) S2.fh S2.cells r2)
  | false => exact iteF (RE.go S1 h2 fun w F2 H2 ρ2 e2 S2 r2 => q w F2 H2 ρ2 (e1.trans e2) S2.fh S2.cells r2)
theorem s_tup {es : Es} {xs : List Expr} {n : Nat} {p : Pos} (ha : PA X xs (tEs X.K Φ Γ es)) : PE X (.Tuple xs n p) (tE X.K Φ Γ (.tup es)) := by
  refine PE.imp (pe_tup ha) fun σ H Q q => ?_
  obtain ⟨B, F, ρ, env, μ, d, μ', S, he, q⟩ := q
  rw [ev] at he
  obtain ⟨⟨ds, μ1⟩, h1, h2⟩ := Option.bind_eq_some_iff.mp he
  dsimp only at h2
  split at h2
  · rename_i hz
    cases h2
    exact RE.go S h1 fun v F1 H1 ρ1 e1 S1 r1 => ⟨by rw [sz, r1.length]; exact hz, new_tup S1.fh r1 (fin_px q e1 S1.cells)⟩
  · cases h2
theorem s_lst {es : Es} {xs : List Expr} {p : Pos} (ha : PA X xs (tEs X.K Φ Γ es)) : PE X (.List xs p) (tE X.K Φ Γ (.lst es)) := by
  refine PE.imp (pe_lst ha) fun σ H Q q => ?_
  obtain ⟨B, F, ρ, env, μ, d, μ', S, he, q⟩ := q
  rw [ev] at he
  obtain ⟨⟨ds, μ1⟩, h1, h2⟩ := Option.bind_eq_some_iff.mp he
  dsimp only at h2
  split at h2
  · rename_i hz
    cases h2
    exact RE.go S h1 fun v F1 H1 ρ1 e1 S1 r1 => ⟨by rw [sz, r1.length]; exact hz, new_lst S1.fh r1 (fin_px q e1 S1.cells)⟩
  · cases h2
theorem new_cell {K : PySem.W.Frag} {F H : Hp} {ρ : List Addr} {μ : Store} {xs : List V} {ds : List D} {p : Addr} (fh : Same F H) (c : Cells K F H ρ μ) (r : DrL K F ρ xs ds) (hp : H p = none) :
    Ext F H ρ F (upd H p (.lst xs)) (ρ ++ [p]) ∧ Same F (upd H p (.lst xs)) ∧ Cells K F (upd H p (.lst xs)) (ρ ++ [p]) (μ ++ [ds]) := by
  have fp : F p = none := fh.free hp
  have hup : ∀ (i : Nat) (a : Addr), ρ[i]? = some a → (ρ ++ [p])[i]? = some a := fun i a h => by
    rw [List.getElem?_append_left (List.getElem?_eq_some_iff.mp h).1]; exact h
  have hne : ∀ (i : Nat) (a : Addr), ρ[i]? = some a → a ≠ p := fun i a h z => by
    have hi := (List.getElem?_eq_some_iff.mp h).1
    rw [c.len] at hi
    obtain ⟨_, ys, h2, _⟩ := c.at_ i a μ[i] h (List.getElem?_eq_getElem hi)
    rw [z, hp] at h2; cases h2
  have hcase : ∀ (i : Nat) (a : Addr), (ρ ++ [p])[i]? = some a → ρ[i]? = some a ∨ (i = ρ.length ∧ a = p) := fun i a h => by
    by_cases hi : i < ρ.length
    · rw [List.getElem?_append_left hi] at h; exact .inl h
    · rw [List.getElem?_append_right (by omega)] at h
      have : i - ρ.length = 0 := by
        by_cases q : i - ρ.length = 0
        · exact q
        · rw [List.getElem?_eq_none (by simp; omega)] at h; cases h
      rw [this] at h
      simp at h
      exact .inr ⟨by omega, h.symm⟩
  refine ⟨⟨Same.refl _, fun a o h _ => by rw [upd_ne (ne_of_none h hp)]; exact h, fun a h => ?_, fun a h1 h2 => absurd h1 h2, hup, fun a h => ?_⟩, fh.trans (same_upd' hp), ⟨by simp [c.len], fun i j a h1 h2 => ?_, fun i a es h1 h2 => ?_⟩⟩
  · by_cases q : a = p
    · subst q; exact absurd hp h
    · rw [upd_ne q]; exact h
  · rcases List.mem_append.mp h with h | h
    · exact .inl h
    · simp at h; subst h; exact .inr hp
  · rcases hcase i a h1 with q1 | ⟨q1, q2⟩
    · rcases hcase j a h2 with q3 | ⟨q3, q4⟩
      · exact c.nd i j a q1 q3
      · exact absurd q4 (hne i a q1)
    · rcases hcase j a h2 with q3 | ⟨q3, q4⟩
      · exact absurd q2 (hne j a q3)
      · omega
  · rcases hcase i a h1 with q1 | ⟨q1, q2⟩
    · have hi := (List.getElem?_eq_some_iff.mp q1).1
      rw [List.getElem?_append_left (by rw [← c.len]; exact hi)] at h2
      obtain ⟨z1, ys, z2, z3⟩ := c.at_ i a es q1 h2
      exact ⟨z1, ys, by rw [upd_ne (hne i a q1)]; exact z2, DrL.mono (Same.refl _) hup _ _ z3⟩
    · subst q2
      rw [List.getElem?_append_right (by rw [← c.len]; omega), q1, c.len, Nat.sub_self] at h2
      simp at h2
      subst h2
      exact ⟨fp, xs, upd_same, DrL.mono (Same.refl _) hup _ _ r⟩
theorem s_mlst {es : Es} {xs : List Expr} {p : Pos} (ha : PA X xs (tEs X.K Φ Γ es)) : PE X (.List xs p) (tE X.K Φ Γ (.mlst es)) := by
  refine PE.imp (pe_lst ha) fun σ H Q q => ?_
  obtain ⟨B, F, ρ, env, μ, d, μ', S, he, q⟩ := q
  rw [ev] at he
  obtain ⟨⟨ds, μ1⟩, h1, h2⟩ := Option.bind_eq_some_iff.mp he
  dsimp only at h2
  split at h2
  · rename_i hz
    cases h2
    refine RE.go S h1 fun v F1 H1 ρ1 e1 S1 r1 => ⟨by rw [sz, r1.length]; exact hz, fun p hp => ?_⟩
    obtain ⟨n1, n2, n3⟩ := new_cell S1.fh S1.cells r1 hp
    refine q _ _ _ _ (e1.trans n1) n2 n3 (.mr ?_)
    rw [← S1.cells.len, List.getElem?_append_right (Nat.le_refl _), Nat.sub_self]
    rfl
  · cases h2
theorem plainIx_of {b : Expr} (h : sliceB b = false) : PlainIx b := by
  cases b <;> first | exact fun _ _ => rfl | cases h
theorem s_ix {a b : E} {x y : Expr} {p : Pos} (hs : sliceB y = false) (ha : PE X x (tE X.K Φ Γ a)) (hb : PE X y (tE X.K Φ Γ b)) : PE X (.Subscript x y p) (tE X.K Φ Γ (.ix a b)) := by
  refine PE.imp (pe_ix ix_seq ha hb (plainIx_of hs)) fun σ H Q q => ?_
  obtain ⟨B, F, ρ, env, μ, d, μ', S, he, q⟩ := q
  rw [ev] at he
  obtain ⟨⟨dx, μ1⟩, h1, h2⟩ := Option.bind_eq_some_iff.mp he
  obtain ⟨⟨dy, μ2⟩, h3, h4⟩ := Option.bind_eq_some_iff.mp h2
  obtain ⟨d', h5, h6⟩ := Option.map_eq_some_iff.mp h4
  cases h6
  refine RE.go S h1 fun v F1 H1 ρ1 e1 S1 r1 => RE.go S1 h3 fun w F2 H2 ρ2 e2 S2 r2 => ?_
  exact ixS_ok S2.fh S2.cells (r1.ext e2) r2 h5 fun u r => q u F2 H2 ρ2 (e1.trans e2) S2.fh S2.cells r
theorem s_slc {a : E} {lo hi : Eo} {x : Expr} {l h : Option Expr} {p2 p : Pos} (ha : PE X x (tE X.K Φ Γ a)) (hl : PO X l (tO X.K Φ Γ lo)) (hh : PO X h (tO X.K Φ Γ hi)) : PE X (.Subscript x (.Slice l h none p2) p) (tE X.K Φ Γ (.slc a lo hi)) := by
  refine PE.imp (pe_slice (sl_of X) ha hl hh) fun σ H Q q => ?_
  obtain ⟨B, F, ρ, env, μ, d, μ', S, he, q⟩ := q
  rw [ev] at he
  obtain ⟨⟨dx, μ1⟩, h1, h2⟩ := Option.bind_eq_some_iff.mp he
  obtain ⟨⟨dl, μ2⟩, h3, h4⟩ := Option.bind_eq_some_iff.mp h2
  obtain ⟨⟨dh, μ3⟩, h5, h6⟩ := Option.bind_eq_some_iff.mp h4
  obtain ⟨d', h7, h8⟩ := Option.map_eq_some_iff.mp h6
  cases h8
  refine RE.go S h1 fun v F1 H1 ρ1 e1 S1 r1 => RE.go S1 h3 fun w F2 H2 ρ2 e2 S2 r2 => RE.go S2 h5 fun w' F3 H3 ρ3 e3 S3 r3 => ?_
  cases r2; cases r3
  exact slcS_ok S3.fh ((r1.ext e2).ext e3) h7 (fin_px q ((e1.trans e2).trans e3) S3.cells)
/-- an argument list without stars -/
theorem spliced_plain {env : PySem.Env} {pos : Pos} : ∀ {es : List Expr}, (∀ e ∈ es, ∀ v p, e ≠ .Starred v p) → (backTo pos (starEach es env)).any (·.1) = false
  | [], _ => rfl
  | e :: es, h => by
    rw [starEach_cons (h e List.mem_cons_self)]
    have ih := spliced_plain (env := env) (pos := pos) (es := es) fun e' he => h e' (List.mem_cons_of_mem _ he)
    show (false || (backTo pos (starEach es env)).any (·.1)) = false
    rw [Bool.false_or]
    exact ih
theorem mEs_nostar {C : MC} {sc : Scope} : ∀ {ms : Es} {es : List Expr}, mEs C sc ms es = true → ∀ e ∈ es, ∀ v p, e ≠ .Starred v p
  | .nil, es, h, e, he => by rw [mEs_nil h] at he; cases he
  | .cons m ms, es, h, e, he => by
    obtain ⟨y, ys, rfl, h1, h2⟩ := mEs_cons h
    rcases List.mem_cons.mp he with rfl | he
    · exact (mE_nostar h1).1
    · exact mEs_nostar h2 e he
theorem s_call {f : Nat} {a : E} {es : Es} {x : Str} {y : Expr} {ys : List Expr} {p2 p : Pos} (G : CG C Φ Γ k X sc) (h1 : C.fns[f]? = some x) (h2 : gloB sc x = true) (h3 : okName x = true)
    (ha : PA X (y :: ys) (tEs X.K Φ Γ (.cons a es))) (n1 : ∀ v p, y ≠ .Starred v p) (n2 : ∀ e ∈ ys, ∀ v p, e ≠ .Starred v p) : PE X (.Call (.Name x p2) (y :: ys) [] p) (tE X.K Φ Γ (.call f a es)) := by
  obtain ⟨fa, fd, ps, g1, g2, g3, g4⟩ := G.fns f x h1
  refine PE.imp (pe_call g3 G.room (G.gl h2) g1 g2 g4 .nil pass0 ha (okName_1 h3) (starEach_cons n1) (spliced_plain n2)) fun σ H Q q => ?_
  obtain ⟨B, F, ρ, env, μ, d, μ', S, he, q⟩ := q
  rw [ev] at he
  obtain ⟨⟨dx, μ1⟩, h1, h2⟩ := Option.bind_eq_some_iff.mp he
  obtain ⟨⟨dl, μ2⟩, h3, h4⟩ := Option.bind_eq_some_iff.mp h2
  have h5 : evs Φ Γ (.cons a es) env μ = some (dx :: dl, μ2) := by
    rw [evs, h1]
    show Option.map _ (evs Φ Γ es env μ1) = _
    rw [h3]
    rfl
  refine RE.go S h5 fun v F1 H1 ρ1 e1 S1 r1 => ⟨F1, ρ1, μ2, dx :: dl, d, μ', S1.fh, S1.cells, by rw [List.append_nil]; exact r1, h4, fun w F2 H2 ρ2 e2 s2 c2 r2 => q w F2 H2 ρ2 (e1.trans e2) s2 c2 r2⟩
theorem s_bi {b : Bi} {a : E} {es : Es} {y : Expr} {ys : List Expr} {p2 p : Pos} (G : CG C Φ Γ k X sc) (h2 : gloB sc (biName b) = true)
    (ha : PA X (y :: ys) (tEs X.K Φ Γ (.cons a es))) (n1 : ∀ v p, y ≠ .Starred v p) (n2 : ∀ e ∈ ys, ∀ v p, e ≠ .Starred v p) : PE X (.Call (.Name (biName b) p2) (y :: ys) [] p) (tE X.K Φ Γ (.bi b a es)) := by
  refine PE.imp (pe_bi b (by have := G.room.un; omega) G.calm (G.gl h2) (G.bi (by cases b <;> decide +kernel)) ha n1 (spliced_plain n2)) fun σ H Q q => ?_
  obtain ⟨B, F, ρ, env, μ, d, μ', S, he, q⟩ := q
  rw [ev] at he
  obtain ⟨⟨dx, μ1⟩, h1, h2⟩ := Option.bind_eq_some_iff.mp he
  obtain ⟨⟨dl, μ2⟩, h3, h4⟩ := Option.bind_eq_some_iff.mp h2
  obtain ⟨d', h7, h8⟩ := Option.map_eq_some_iff.mp h4
  cases h8
  have h5 : evs Φ Γ (.cons a es) env μ = some (dx :: dl, μ') := by
    rw [evs, h1]
    show Option.map _ (evs Φ Γ es env μ1) = _
    rw [h3]
    rfl
  exact RE.go S h5 fun v F1 H1 ρ1 e1 S1 r1 => biS_ok b S1.fh S1.cells r1 h7 (fin_px q e1 S1.cells)
theorem s_isi {a : E} {t : Ty} {y : Expr} {p3 p2 p : Pos} (G : CG C Φ Γ k X sc) (h1 : gloB sc "isinstance" = true) (h2 : gloB sc (tyS t) = true) (ha : PE X y (tE X.K Φ Γ a)) (n1 : ∀ v p, y ≠ .Starred v p) :
    PE X (.Call (.Name "isinstance" p2) [y, .Name (tyS t) p3] [] p) (tE X.K Φ Γ (.isi a t)) := by
  have ht : PE X (.Name (tyS t) p3) (L2.tC (.ty (tyN t))) := by
    refine pe_bltn (u := .type (tyN t)) (G.gl h2) (G.bi (by cases t <;> decide +kernel)) (by cases t <;> decide +kernel) rfl (by cases t <;> decide +kernel) (by cases t <;> decide +kernel)
  refine PE.imp (pe_callB call_isi (G.gl h1) (G.bi (by decide +kernel)) (by decide +kernel) (pa_cons ha (pa_cons ht pa_nil (starEach_cons (fun _ _ z => nomatch z))) (starEach_cons n1)) (by decide) (by decide) (starEach_cons n1) (spliced_plain (by simp))) fun σ H Q q => ?_
  obtain ⟨B, F, ρ, env, μ, d, μ', S, he, q⟩ := q
  rw [ev] at he
  obtain ⟨⟨dx, μ1⟩, h1, h2⟩ := Option.bind_eq_some_iff.mp he
  obtain ⟨d', h7, h8⟩ := Option.map_eq_some_iff.mp h2
  cases h8
  exact RE.go S h1 fun v F1 H1 ρ1 e1 S1 r1 => isiS_ok S1.fh r1 h7 (q _ F1 H1 ρ1 e1 S1.fh S1.cells (.bl _))
end
end Py
end
section
set_option Elab.async false
set_option linter.all false
set_option maxRecDepth 100000
set_option maxHeartbeats 4000000
namespace Py
open PySem L2 RZ
section
variable {K : PySem.W.Frag} {F : Hp} {ρ : List Addr}
mutual
theorem keyN_ok : ∀ (d : D) (v : V) (k : NestedKey), Dr K F ρ v d → keyN d = some k → NKey K F k v ∧ nNum k = true
  | .non, _, k, h, e => by cases h; cases e; exact ⟨.none, rfl⟩
  | .int i, _, k, h, e => by cases h; cases e; exact ⟨.num i, rfl⟩
  | .tup ds, _, k, h, e => by
    cases h with
    | tup h1 h2 =>
      rw [keyN] at e
      obtain ⟨ks, e1, e2⟩ := Option.map_eq_some_iff.mp e
      subst e2
      obtain ⟨g1, g2⟩ := keyNs_ok ds _ ks h2 e1
      exact ⟨.tup h1 g1, by rw [nNum]; exact g2⟩
  | .bl _, _, _, _, e => by unfold keyN at e; cases e
  | .str _, _, _, _, e => by unfold keyN at e; cases e
  | .lst _, _, _, _, e => by unfold keyN at e; cases e
  | .scr _, _, _, _, e => by unfold keyN at e; cases e
  | .mr _, _, _, _, e => by unfold keyN at e; cases e
theorem keyNs_ok : ∀ (ds : List D) (vs : List V) (ks : List NestedKey), DrL K F ρ vs ds → keyNs ds = some ks → NKeys K F ks vs ∧ nNums ks = true
  | [], _, ks, h, e => by cases h; cases e; exact ⟨.nil, rfl⟩
  | d :: ds, _, ks, h, e => by
    cases h with
    | cons h1 h2 =>
      rw [keyNs] at e
      obtain ⟨k, e1, e2⟩ := Option.bind_eq_some_iff.mp e
      obtain ⟨ks', e3, e4⟩ := Option.map_eq_some_iff.mp e2
      subst e4
      obtain ⟨g1, g2⟩ := keyN_ok d _ k h1 e1
      obtain ⟨g3, g4⟩ := keyNs_ok ds _ ks' h2 e3
      exact ⟨.cons g1 g3, by rw [nNums, g2, g4]; rfl⟩
end
theorem keyS_ok {d : D} {v : V} {k : NestedKey} (h : Dr K F ρ v d) (e : keyS d = some k) : ∃ b, v = .ref b ∧ NKey K F k (.ref b) ∧ k.depth ≤ 8 ∧ nNum k = true := by
  unfold keyS at e
  split at e
  · obtain ⟨k', e1, e2⟩ := Option.bind_eq_some_iff.mp e
    split at e2
    · cases e2
      obtain ⟨g1, g2⟩ := keyN_ok _ _ _ h e1
      cases h with
      | tup h1 h2 => exact ⟨_, rfl, g1, ‹_›, g2⟩
    · cases e2
  · cases e
theorem kd_at : ∀ {ps : List NE} {qs : List (NestedKey × D)}, KD K F ρ ps qs → ∀ k, (nAt ps k).isSome = (dAtS qs k).isSome ∧ ∀ d, dAtS qs k = some d → ∃ v, nAt ps k = some v ∧ Dr K F ρ v d
  | _, _, .nil, k => ⟨rfl, fun d h => by cases h⟩
  | _, _, .cons (a := p) (b := q) h t, k => by
    by_cases e : p.1 = k
    · have e2 : q.1 = k := h.1 ▸ e
      refine ⟨by simp [nAt, dAtS, e, e2], fun d hd => ?_⟩
      simp only [dAtS, List.find?_cons, e2, decide_true, Option.map_some, Option.some.injEq] at hd
      subst hd
      exact ⟨p.2.2, by simp [nAt, e], h.2.2.2.2⟩
    · have e2 : ¬ q.1 = k := fun z => e (h.1.trans z)
      have ih := kd_at t k
      simpa [nAt, dAtS, e, e2] using ih
theorem kd_len : ∀ {ps : List NE} {qs : List (NestedKey × D)}, KD K F ρ ps qs → ps.length = qs.length
  | _, _, .nil => rfl
  | _, _, .cons _ t => by simp [kd_len t]
theorem kd_vals : ∀ {ps : List NE} {qs : List (NestedKey × D)}, KD K F ρ ps qs → DrL K F ρ (ps.map (·.2.2)) (qs.map (·.2))
  | _, _, .nil => .nil
  | _, _, .cons h t => .cons h.2.2.2.2 (kd_vals t)
theorem kd_map {k : NestedKey} {v : V} {d : D} (r : Dr K F ρ v d) : ∀ {ps : List NE} {qs : List (NestedKey × D)}, KD K F ρ ps qs → KD K F ρ (ps.map fun x => if x.1 = k then (x.1, x.2.1, v) else x) (qs.map fun x => if x.1 = k then (x.1, d) else x)
  | _, _, .nil => .nil
  | _, _, .cons (a := p) (b := q) h t => by
    refine .cons ?_ (kd_map r t)
    by_cases e : p.1 = k
    · have e2 : q.1 = k := h.1 ▸ e
      simp only [if_pos e, if_pos e2]
      exact ⟨h.1, h.2.1, h.2.2.1, h.2.2.2.1, r⟩
    · have e2 : ¬ q.1 = k := fun z => e (h.1.trans z)
      simp only [if_neg e, if_neg e2]
      exact h
theorem kd_snoc {p : NE} {q : NestedKey × D} (r : p.1 = q.1 ∧ NKey K F p.1 (.ref p.2.1) ∧ p.1.depth ≤ 8 ∧ nNum p.1 = true ∧ Dr K F ρ p.2.2 q.2) : ∀ {ps : List NE} {qs : List (NestedKey × D)}, KD K F ρ ps qs → KD K F ρ (ps ++ [p]) (qs ++ [q])
  | _, _, .nil => .cons r .nil
  | _, _, .cons h t => .cons h (kd_snoc r t)
theorem kd_put {ps : List NE} {qs : List (NestedKey × D)} {k : NestedKey} {b : Addr} {v : V} {d : D} (h : KD K F ρ ps qs) (kk : NKey K F k (.ref b)) (k8 : k.depth ≤ 8) (kn : nNum k = true) (r : Dr K F ρ v d) : KD K F ρ (nPut ps k b v) (dPutS qs k d) := by
  unfold nPut dPutS
  rw [(kd_at h k).1]
  split
  · exact kd_map r h
  · exact kd_snoc ⟨rfl, kk, k8, kn, r⟩ h
end
section
variable {C : MC} {Φ : FnS} {Γ : GlS} {k : Nat} {X : Cx} {sc : Scope}
theorem s_chain {a b c : E} {x y z : Expr} {op op' : CmpOp} {p : Pos} (G : CG C Φ Γ k X sc) (hm : lastMarks [op, op'] [y, z] = false) (ha : PE X x (tE X.K Φ Γ a)) (hb : PE X y (tE X.K Φ Γ b)) (hc : PE X z (tE X.K Φ Γ c)) : PE X (.Compare x [op, op'] [y, z] p) (tE X.K Φ Γ (.chain op op' a b c)) := by
  refine PE.imp (pe_chain (cmp_of X (by have := G.room.un; omega) op) (cmp_of X (by have := G.room.un; omega) op') ha hb hc hm) fun σ H Q q => ?_
  obtain ⟨B, F, ρ, env, μ, d, μ', S, he, q⟩ := q
  rw [ev] at he
  obtain ⟨⟨dx, μ1⟩, h1, h2⟩ := Option.bind_eq_some_iff.mp he
  obtain ⟨⟨dy, μ2⟩, h3, h4⟩ := Option.bind_eq_some_iff.mp h2
  obtain ⟨d', h5, h6⟩ := Option.bind_eq_some_iff.mp h4
  refine RE.go S h1 fun v F1 H1 ρ1 e1 S1 r1 => RE.go S1 h3 fun w F2 H2 ρ2 e2 S2 r2 => ?_
  refine cmpS_ok op S2.fh (r1.ext e2) r2 h5 ⟨d', rfl, ?_⟩
  cases d' with
  | true =>
    rw [if_pos rfl] at h6 ⊢
    obtain ⟨⟨dz, μ3⟩, h7, h8⟩ := Option.bind_eq_some_iff.mp h6
    obtain ⟨d2, h9, h10⟩ := Option.map_eq_some_iff.mp h8
    cases h10
    refine RE.go S2 h7 fun u F3 H3 ρ3 e3 S3 r3 => ?_
    exact cmpS_ok op' S3.fh (r2.ext e3) r3 h9 (q _ F3 H3 ρ3 ((e1.trans e2).trans e3) S3.fh S3.cells (.bl _))
  | false =>
    rw [if_neg Bool.false_ne_true] at h6 ⊢
    cases h6
    exact q _ F2 H2 ρ2 (e1.trans e2) S2.fh S2.cells (.bl _)
theorem sT_chain {a b c : E} {x y z : Expr} {op op' : CmpOp} {p : Pos} (G : CG C Φ Γ k X sc) (hm : lastMarks [op, op'] [y, z] = false) (ha : PE X x (tE X.K Φ Γ a)) (hb : PE X y (tE X.K Φ Γ b)) (hc : PE X z (tE X.K Φ Γ c)) : PT X (.Compare x [op, op'] [y, z] p) (tT X.K Φ Γ (.chain op op' a b c)) := by
  refine PT.imp (pt_chain (cmp_of X (by have := G.room.un; omega) op) (cmp_of X (by have := G.room.un; omega) op') ha hb hc hm) fun σ H Q q => ?_
  obtain ⟨B, F, ρ, env, μ, d, μ', S, he, q⟩ := q
  rw [evT] at he
  obtain ⟨⟨dx, μ1⟩, h1, h2⟩ := Option.bind_eq_some_iff.mp he
  obtain ⟨⟨dy, μ2⟩, h3, h4⟩ := Option.bind_eq_some_iff.mp h2
  obtain ⟨d', h5, h6⟩ := Option.bind_eq_some_iff.mp h4
  refine RE.go S h1 fun v F1 H1 ρ1 e1 S1 r1 => RE.go S1 h3 fun w F2 H2 ρ2 e2 S2 r2 => ?_
  refine cmpS_ok op S2.fh (r1.ext e2) r2 h5 ⟨d', rfl, ?_⟩
  cases d' with
  | true =>
    rw [if_pos rfl] at h6 ⊢
    obtain ⟨⟨dz, μ3⟩, h7, h8⟩ := Option.bind_eq_some_iff.mp h6
    obtain ⟨d2, h9, h10⟩ := Option.map_eq_some_iff.mp h8
    cases h10
    refine RE.go S2 h7 fun u F3 H3 ρ3 e3 S3 r3 => ?_
    exact cmpS_ok op' S3.fh (r2.ext e3) r3 h9 ⟨_, rfl, q _ F3 H3 ρ3 ((e1.trans e2).trans e3) S3.fh S3.cells rfl⟩
  | false =>
    rw [if_neg Bool.false_ne_true] at h6 ⊢
    cases h6
    exact ⟨_, rfl, q _ F2 H2 ρ2 (e1.trans e2) S2.fh S2.cells rfl⟩
/-- the dict at a slot -/
theorem dct_at {B F H : Hp} {ρ : List Addr} {σ : L2.St} {env : Env} {μ : Store} {i : Nat} {kvs : List (NestedKey × D)} (S : SR X.K B F H ρ σ env μ) (h : getD' env i = some kvs) :
    ∃ a nes, σ[i]? = some (some (.ref a)) ∧ H a = some (dnO X.prog X.w a nes) ∧ NOk X.K H nes ∧ KD X.K F ρ nes kvs ∧ F a = none ∧ a ∉ ρ ∧ B a = none := by
  obtain ⟨v, h1, a, nes, P, w, rfl, h2, h3, h4, h5, h6⟩ := S.env.at_ _ _ (getD_eq h)
  exact ⟨a, nes, h1, by rw [h2, dnO_eq (P' := X.prog) (w' := X.w) h3.num], h3.ok S.fh, h3, h4, h5, h6⟩
theorem s_dAt {i : Nat} {a : E} {y : Str} {x : Expr} {p2 p : Pos} (G : CG C Φ Γ k X sc) (h1 : C.N[i]? = some y) (h2 : visB sc y = true) (h3 : okName y = true) (hs : sliceB x = false) (ha : PE X x (tE X.K Φ Γ a)) : PE X (.Subscript (.Name y p2) x p) (tE X.K Φ Γ (.dAt i a)) := by
  have hv : PE X (.Name y p2) (tVar i) := pe_var (by rw [G.hN]; exact h1) (G.vis h2) (okName_1 h3) (okName_2 h3)
  refine PE.imp (pe_nget (by have := G.room.un; omega) hv ha (by cases x <;> first | exact fun _ _ => rfl | cases hs)) fun σ H Q q => ?_
  obtain ⟨B, F, ρ, env, μ, d, μ', S, he, q⟩ := q
  rw [ev] at he
  obtain ⟨⟨dx, μ1⟩, g1, g2⟩ := Option.bind_eq_some_iff.mp he
  obtain ⟨kvs, g3, g4⟩ := Option.bind_eq_some_iff.mp g2
  obtain ⟨kk, g5, g6⟩ := Option.bind_eq_some_iff.mp g4
  obtain ⟨dv, g7, g8⟩ := Option.map_eq_some_iff.mp g6
  cases g8
  obtain ⟨a0, nes0, j1, _⟩ := dct_at S g3
  refine ⟨_, j1, RE.go S g1 fun v F1 H1 ρ1 e1 S1 r1 => ?_⟩
  obtain ⟨a1, nes, k1, k2, k3, k4, _⟩ := dct_at S1 g3
  rw [j1] at k1; cases k1
  obtain ⟨b, rfl, m1, m2, m3⟩ := keyS_ok r1 g5
  obtain ⟨vv, m4, m5⟩ := (kd_at k4 kk).2 _ g7
  exact ⟨_, b, nes, kk, vv, _, _, rfl, rfl, rfl, rfl, k2, k3, NKey.mono S1.fh _ _ m1, m2, m4, q vv F1 H1 ρ1 e1 S1.fh S1.cells m5⟩
theorem s_dIn {neg : Bool} {i : Nat} {a : E} {y : Str} {x : Expr} {p2 p : Pos} (G : CG C Φ Γ k X sc) (h1 : C.N[i]? = some y) (h2 : visB sc y = true) (h3 : okName y = true) (ha : PE X x (tE X.K Φ Γ a)) : PE X (.Compare x [if neg then .NotIn else .In] [.Name y p2] p) (tE X.K Φ Γ (.dIn neg i a)) := by
  have hv : PE X (.Name y p2) (tVar i) := pe_var (by rw [G.hN]; exact h1) (G.vis h2) (okName_1 h3) (okName_2 h3)
  have hc : PC X (if neg then .NotIn else .In) x (.Name y p2) (tNIn (X := X) (fun b => if neg then !b else b) (tE X.K Φ Γ a) (tVar i)) := by
    cases neg with
    | true => exact pc_nnotin (by have := G.room.un; omega) ha hv
    | false => exact pc_nin (by have := G.room.un; omega) ha hv
  refine PE.imp (pe_cmp hc (by cases neg <;> rfl)) fun σ H Q q => ?_
  obtain ⟨B, F, ρ, env, μ, d, μ', S, he, q⟩ := q
  rw [ev] at he
  obtain ⟨⟨dx, μ1⟩, g1, g2⟩ := Option.bind_eq_some_iff.mp he
  obtain ⟨kvs, g3, g4⟩ := Option.bind_eq_some_iff.mp g2
  obtain ⟨kk, g5, g6⟩ := Option.map_eq_some_iff.mp g4
  cases g6
  refine RE.go S g1 fun v F1 H1 ρ1 e1 S1 r1 => ?_
  obtain ⟨a1, nes, k1, k2, k3, k4, _⟩ := dct_at S1 g3
  obtain ⟨b, rfl, m1, m2, m3⟩ := keyS_ok r1 g5
  refine ⟨_, k1, _, b, nes, kk, _, _, rfl, rfl, rfl, rfl, k2, k3, NKey.mono S1.fh _ _ m1, m2, ?_⟩
  rw [(kd_at k4 kk).1]
  exact q _ F1 H1 ρ1 e1 S1.fh S1.cells (.bl _)
theorem sT_dIn {neg : Bool} {i : Nat} {a : E} {y : Str} {x : Expr} {p2 p : Pos} (G : CG C Φ Γ k X sc) (h1 : C.N[i]? = some y) (h2 : visB sc y = true) (h3 : okName y = true) (ha : PE X x (tE X.K Φ Γ a)) : PT X (.Compare x [if neg then .NotIn else .In] [.Name y p2] p) (tT X.K Φ Γ (.dIn neg i a)) := by
  have hv : PE X (.Name y p2) (tVar i) := pe_var (by rw [G.hN]; exact h1) (G.vis h2) (okName_1 h3) (okName_2 h3)
  have hc : PC X (if neg then .NotIn else .In) x (.Name y p2) (tNIn (X := X) (fun b => if neg then !b else b) (tE X.K Φ Γ a) (tVar i)) := by
    cases neg with
    | true => exact pc_nnotin (by have := G.room.un; omega) ha hv
    | false => exact pc_nin (by have := G.room.un; omega) ha hv
  refine PT.imp (pt_cmp hc (by cases neg <;> rfl)) fun σ H Q q => ?_
  obtain ⟨B, F, ρ, env, μ, d, μ', S, he, q⟩ := q
  rw [evT] at he
  obtain ⟨⟨dx, μ1⟩, g1, g2⟩ := Option.bind_eq_some_iff.mp he
  obtain ⟨kvs, g3, g4⟩ := Option.bind_eq_some_iff.mp g2
  obtain ⟨kk, g5, g6⟩ := Option.map_eq_some_iff.mp g4
  cases g6
  refine RE.go S g1 fun v F1 H1 ρ1 e1 S1 r1 => ?_
  obtain ⟨a1, nes, k1, k2, k3, k4, _⟩ := dct_at S1 g3
  obtain ⟨b, rfl, m1, m2, m3⟩ := keyS_ok r1 g5
  refine ⟨_, k1, _, b, nes, kk, _, _, rfl, rfl, rfl, rfl, k2, k3, NKey.mono S1.fh _ _ m1, m2, _, rfl, ?_⟩
  rw [(kd_at k4 kk).1]
  exact q _ F1 H1 ρ1 e1 S1.fh S1.cells rfl
theorem s_dVals {i : Nat} {y : Str} {p2 p3 ap cp p : Pos} (G : CG C Φ Γ k X sc) (hg : gloB sc "list" = true) (h1 : C.N[i]? = some y) (h2 : visB sc y = true) (h3 : okName y = true) (hl : (ap.endLine == cp.line) = true) : PE X (.Call (.Name "list" p2) [.Call (.Attribute (.Name y p3) "values" ap) [] [] cp] [] p) (tE X.K Φ Γ (.dVals i)) := by
  have hv : PE X (.Name y p3) (tVar i) := pe_var (by rw [G.hN]; exact h1) (G.vis h2) (okName_1 h3) (okName_2 h3)
  have hw := pe_nvals (cpos := cp) hv rfl hl
  refine PE.imp (pe_callTy (call_listN G.calm) (G.gl hg) (G.bi (by decide +kernel)) rfl (pa_cons hw pa_nil rfl)) fun σ H Q q => ?_
  obtain ⟨B, F, ρ, env, μ, d, μ', S, he, q⟩ := q
  rw [ev] at he
  obtain ⟨kvs, g3, g4⟩ := Option.map_eq_some_iff.mp he
  cases g4
  obtain ⟨a1, nes, k1, k2, k3, k4, k5, k6, k7⟩ := dct_at S g3
  refine ⟨_, k1, a1, nes, _, _, rfl, rfl, rfl, k2, k3, fun r hr => ?_⟩
  have na : a1 ≠ r := ne_of_none k2 hr
  refine ⟨r, a1, nes, _, _, rfl, rfl, rfl, upd_same, by rw [upd_ne na]; exact k2, ⟨fun x hx => NKey.mono (same_upd' hr) _ _ (k3.1 x hx), k3.2⟩, fun p' hp' => ?_⟩
  have P1 := PX.new_ (o := nvO r a1) S.fh hr
  exact new_lst P1.fh (DrL.mono P1.ff (fun _ _ h => h) _ _ (kd_vals k4)) (fin_px q P1.ext (S.cells.px P1)) p' hp'
theorem rngS_eq {lo hi : Int} {ds : List D} (h : rngS lo hi = some ds) : (-(2 ^ 62) ≤ lo ∧ lo < 2 ^ 62 ∧ -(2 ^ 62) ≤ hi ∧ hi < 2 ^ 62) ∧ (hi - lo).toNat ≤ SZ ∧ ds = rangeD lo (hi - lo).toNat := by
  unfold rngS at h
  split at h
  · rename_i q
    cases h
    simp only [Bool.and_eq_true, decide_eq_true_eq] at q
    exact ⟨⟨by omega, by omega, by omega, by omega⟩, q.2, rfl⟩
  · cases h
theorem asInt_eq {d : D} {i : Int} (h : asInt d = some i) : d = .int i := by
  unfold asInt at h
  split at h
  · cases h; rfl
  · cases h
theorem rgV_dr {K : PySem.W.Frag} {F : Hp} {ρ : List Addr} {lo hi : Int} : DrL K F ρ (rgV lo hi) (rangeD lo (hi - lo).toNat) := by
  unfold rgV rangeD
  generalize List.range (hi - lo).toNat = l
  induction l with
  | nil => exact .nil
  | cons x xs ih => exact .cons (.int _) ih
theorem s_rngL {a : E} {x : Expr} {p2 p3 p4 p : Pos} (G : CG C Φ Γ k X sc) (hg : gloB sc "list" = true) (hr : gloB sc "range" = true) (ha : PE X x (tE X.K Φ Γ a)) (n1 : ∀ v p, x ≠ .Starred v p) : PE X (.Call (.Name "list" p2) [.Call (.Name "range" p3) [x] [] p4] [] p) (tE X.K Φ Γ (.rngL a)) := by
  refine PE.imp (pe_listRg G.calm (G.gl hg) (G.bi (by decide +kernel)) (prg_1 (G.gl hr) (G.bi (by decide +kernel)) ha (starEach_cons n1)) rfl) fun σ H Q q => ?_
  obtain ⟨B, F, ρ, env, μ, d, μ', S, he, q⟩ := q
  rw [ev] at he
  obtain ⟨⟨dx, μ1⟩, h1, h2⟩ := Option.bind_eq_some_iff.mp he
  obtain ⟨j, h3, h4⟩ := Option.bind_eq_some_iff.mp h2
  obtain ⟨es, h5, h6⟩ := Option.map_eq_some_iff.mp h4
  cases h6
  refine RE.go S h1 fun v F1 H1 ρ1 e1 S1 r1 => ?_
  have e0 := asInt_eq h3
  subst e0
  cases r1
  obtain ⟨⟨b1, b2, b3, b4⟩, b5, e2⟩ := rngS_eq h5
  subst e2
  refine ⟨j, rfl, ⟨b1, b2, b3, b4, by have : SZ = 2 ^ 24 := rfl; omega⟩, ?_⟩
  exact new_lst S1.fh rgV_dr (fin_px q e1 S1.cells)
theorem drl_rev {K : PySem.W.Frag} {F : Hp} {ρ : List Addr} : ∀ {xs : List V} {ds : List D}, DrL K F ρ xs ds → DrL K F ρ xs.reverse ds.reverse
  | _, _, .nil => .nil
  | _, _, .cons h t => by
    rw [List.reverse_cons, List.reverse_cons]
    exact (drl_rev t).append (.cons h .nil)
theorem s_rev {a : E} {x : Expr} {n : Nat} {p1 p2 p3 p : Pos} (ha : PE X x (tE X.K Φ Γ a)) : PE X (.Subscript x (.Slice none none (some (.UnaryOp .USub (.Constant (.int 1) n p1) p2)) p3) p) (tE X.K Φ Γ (.rev a)) := by
  refine PE.imp (pe_revL ha) fun σ H Q q => ?_
  obtain ⟨B, F, ρ, env, μ, d, μ', S, he, q⟩ := q
  rw [ev] at he
  obtain ⟨⟨dx, μ1⟩, h1, h2⟩ := Option.bind_eq_some_iff.mp he
  refine RE.go S h1 fun v F1 H1 ρ1 e1 S1 r1 => ?_
  dsimp only at h2
  split at h2
  · cases h2
    cases r1 with
    | lst u1 u2 => exact ⟨_, _, rfl, .inl (.inl (S1.fh _ _ u1)), new_lst S1.fh (drl_rev u2) (fin_px q e1 S1.cells)⟩
  · cases h2
    cases r1 with
    | scr u1 u2 => exact ⟨_, _, rfl, S1.fh.seq u1, new_lst S1.fh (drl_rev u2) (fin_px q e1 S1.cells)⟩
  · cases h2
end
end Py
end
section
set_option Elab.async false
set_option linter.all false
set_option maxRecDepth 100000
namespace Py
open PySem L2 RZ
/-! ### and, or -/
def tAnd (K : PySem.W.Frag) (Φ : FnS) (Γ : GlS) (a : E) (r : Es) : TE := RE (fun F ρ v d => Dr K F ρ v d) K (fun env μ => (ev Φ Γ a env μ).bind fun p => evAnd Φ Γ p.1 r env p.2)
def tOr (K : PySem.W.Frag) (Φ : FnS) (Γ : GlS) (a : E) (r : Es) : TE := RE (fun F ρ v d => Dr K F ρ v d) K (fun env μ => (ev Φ Γ a env μ).bind fun p => evOr Φ Γ p.1 r env p.2)
def tTAnd (K : PySem.W.Frag) (Φ : FnS) (Γ : GlS) (a : E) (r : Es) : TT := RE (fun _ _ (a b : Bool) => a = b) K (fun env μ => (evT Φ Γ a env μ).bind fun p => if p.1 then evTAnd Φ Γ r env p.2 else some (false, p.2))
def tTOr (K : PySem.W.Frag) (Φ : FnS) (Γ : GlS) (a : E) (r : Es) : TT := RE (fun _ _ (a b : Bool) => a = b) K (fun env μ => (evT Φ Γ a env μ).bind fun p => if p.1 then some (true, p.2) else evTOr Φ Γ r env p.2)
section
variable {C : MC} {Φ : FnS} {Γ : GlS} {k : Nat} {X : Cx} {sc : Scope} {a b : E} {r : Es} {x y : Expr} {ys : List Expr} {p : Pos}
theorem s_and1 (ha : PE X x (tE X.K Φ Γ a)) : PE X (.BoolOp .And [x] p) (tAnd X.K Φ Γ a .nil) := by
  refine PE.imp (pe_one ha) fun σ H Q q => ?_
  obtain ⟨B, F, ρ, env, μ, d, μ', S, he, q⟩ := q
  obtain ⟨⟨dx, μ1⟩, h1, h2⟩ := Option.bind_eq_some_iff.mp he
  simp only [evAnd] at h2
  cases h2
  exact ⟨B, F, ρ, env, μ, _, _, S, h1, q⟩
theorem s_and2 (ha : PE X x (tE X.K Φ Γ a)) (hb : PE X (.BoolOp .And (y :: ys) p) (tAnd X.K Φ Γ b r)) : PE X (.BoolOp .And (x :: y :: ys) p) (tAnd X.K Φ Γ a (.cons b r)) := by
  refine PE.imp (pe_and ha hb) fun σ H Q q => ?_
  obtain ⟨B, F, ρ, env, μ, d, μ', S, he, q⟩ := q
  obtain ⟨⟨dx, μ1⟩, h1, h2⟩ := Option.bind_eq_some_iff.mp he
  refine RE.go S h1 fun v F1 H1 ρ1 e1 S1 r1 => ?_
  dsimp only at h2
  unfold evAnd at h2
  split at h2
  · contradiction
  · rename_i _ _ _ _ _ _ q1
    cases q1
    cases r1
    obtain ⟨⟨dy, μ2⟩, h3, h4⟩ := Option.bind_eq_some_iff.mp h2
    refine ⟨true, rfl, iteT ⟨B, F1, ρ1, _, _, d, μ', S1, ?_, fun w F2 H2 ρ2 e2 s2 c2 r2 => q w F2 H2 ρ2 (e1.trans e2) s2 c2 r2⟩⟩
    dsimp only; rw [h3]; exact h4
  · cases h2
    cases r1
    exact ⟨false, rfl, iteF (q _ F1 H1 ρ1 e1 S1.fh S1.cells (.bl _))⟩
  · cases h2
theorem s_or1 (ha : PE X x (tE X.K Φ Γ a)) : PE X (.BoolOp .Or [x] p) (tOr X.K Φ Γ a .nil) := by
  refine PE.imp (pe_one ha) fun σ H Q q => ?_
  obtain ⟨B, F, ρ, env, μ, d, μ', S, he, q⟩ := q
  obtain ⟨⟨dx, μ1⟩, h1, h2⟩ := Option.bind_eq_some_iff.mp he
  simp only [evOr] at h2
  cases h2
  exact ⟨B, F, ρ, env, μ, _, _, S, h1, q⟩
theorem s_or2 (ha : PE X x (tE X.K Φ Γ a)) (hb : PE X (.BoolOp .Or (y :: ys) p) (tOr X.K Φ Γ b r)) : PE X (.BoolOp .Or (x :: y :: ys) p) (tOr X.K Φ Γ a (.cons b r)) := by
  refine PE.imp (pe_or ha hb) fun σ H Q q => ?_
  obtain ⟨B, F, ρ, env, μ, d, μ', S, he, q⟩ := q
  obtain ⟨⟨dx, μ1⟩, h1, h2⟩ := Option.bind_eq_some_iff.mp he
  refine RE.go S h1 fun v F1 H1 ρ1 e1 S1 r1 => ?_
  dsimp only at h2
  unfold evOr at h2
  split at h2
  · contradiction
  · rename_i _ _ _ _ _ _ q1
    cases q1
    cases r1
    obtain ⟨⟨dy, μ2⟩, h3, h4⟩ := Option.bind_eq_some_iff.mp h2
    refine ⟨false, rfl, iteF ⟨B, F1, ρ1, _, _, d, μ', S1, ?_, fun w F2 H2 ρ2 e2 s2 c2 r2 => q w F2 H2 ρ2 (e1.trans e2) s2 c2 r2⟩⟩
    dsimp only; rw [h3]; exact h4
  · cases h2
    cases r1
    exact ⟨true, rfl, iteT (q _ F1 H1 ρ1 e1 S1.fh S1.cells (.bl _))⟩
  · cases h2
theorem sT_and1 (ha : PT X x (tT X.K Φ Γ a)) : PW X (.BoolOp .And [x] p) (tTAnd X.K Φ Γ a .nil) := by
  refine PW.imp (pw_and1 ha) fun σ H Q q => ?_
  obtain ⟨B, F, ρ, env, μ, d, μ', S, he, q⟩ := q
  obtain ⟨⟨dx, μ1⟩, h1, h2⟩ := Option.bind_eq_some_iff.mp he
  refine ⟨B, F, ρ, env, μ, _, _, S, h1, fun w F2 H2 ρ2 e2 s2 c2 r2 => ?_⟩
  dsimp only at h2
  cases dx with
  | true => rw [if_pos rfl, evTAnd] at h2; cases h2; exact q w F2 H2 ρ2 e2 s2 c2 r2
  | false => rw [if_neg Bool.false_ne_true] at h2; cases h2; exact q w F2 H2 ρ2 e2 s2 c2 r2
theorem sT_and2 (ha : PT X x (tT X.K Φ Γ a)) (hb : PW X (.BoolOp .And (y :: ys) p) (tTAnd X.K Φ Γ b r)) : PW X (.BoolOp .And (x :: y :: ys) p) (tTAnd X.K Φ Γ a (.cons b r)) := by
  refine PW.imp (pw_and ha hb) fun σ H Q q => ?_
  obtain ⟨B, F, ρ, env, μ, d, μ', S, he, q⟩ := q
  obtain ⟨⟨dx, μ1⟩, h1, h2⟩ := Option.bind_eq_some_iff.mp he
  refine RE.go S h1 fun v F1 H1 ρ1 e1 S1 r1 => ?_
  cases r1
  dsimp only at h2
  cases dx with
  | true =>
    rw [if_pos rfl, evTAnd] at h2
    exact iteT ⟨B, F1, ρ1, env, μ1, d, μ', S1, h2, fun w F2 H2 ρ2 e2 s2 c2 r2 => q w F2 H2 ρ2 (e1.trans e2) s2 c2 r2⟩
  | false =>
    rw [if_neg Bool.false_ne_true] at h2; cases h2
    exact iteF (q _ F1 H1 ρ1 e1 S1.fh S1.cells rfl)
theorem sT_or1 (ha : PT X x (tT X.K Φ Γ a)) : PW X (.BoolOp .Or [x] p) (tTOr X.K Φ Γ a .nil) := by
  refine PW.imp (pw_or1 ha) fun σ H Q q => ?_
  obtain ⟨B, F, ρ, env, μ, d, μ', S, he, q⟩ := q
  obtain ⟨⟨dx, μ1⟩, h1, h2⟩ := Option.bind_eq_some_iff.mp he
  refine ⟨B, F, ρ, env, μ, _, _, S, h1, fun w F2 H2 ρ2 e2 s2 c2 r2 => ?_⟩
  dsimp only at h2
  cases dx with
  | true => rw [if_pos rfl] at h2; cases h2; exact q w F2 H2 ρ2 e2 s2 c2 r2
  | false => rw [if_neg Bool.false_ne_true, evTOr] at h2; cases h2; exact q w F2 H2 ρ2 e2 s2 c2 r2
theorem sT_or2 (ha : PT X x (tT X.K Φ Γ a)) (hb : PW X (.BoolOp .Or (y :: ys) p) (tTOr X.K Φ Γ b r)) : PW X (.BoolOp .Or (x :: y :: ys) p) (tTOr X.K Φ Γ a (.cons b r)) := by
  refine PW.imp (pw_or ha hb) fun σ H Q q => ?_
  obtain ⟨B, F, ρ, env, μ, d, μ', S, he, q⟩ := q
  obtain ⟨⟨dx, μ1⟩, h1, h2⟩ := Option.bind_eq_some_iff.mp he
  refine RE.go S h1 fun v F1 H1 ρ1 e1 S1 r1 => ?_
  cases r1
  dsimp only at h2
  cases dx with
  | false =>
    rw [if_neg Bool.false_ne_true, evTOr] at h2
    exact iteF ⟨B, F1, ρ1, env, μ1, d, μ', S1, h2, fun w F2 H2 ρ2 e2 s2 c2 r2 => q w F2 H2 ρ2 (e1.trans e2) s2 c2 r2⟩
  | true =>
    rw [if_pos rfl] at h2; cases h2
    exact iteT (q _ F1 H1 ρ1 e1 S1.fh S1.cells rfl)
/-! ### walks -/
theorem s_seq {tg : Expr} (ha : PE X x (tE X.K Φ Γ a)) : PI X tg x (tI X.K Φ Γ (.seq a)) := by
  refine ⟨fun pins s σ H R I q => ?_⟩
  obtain ⟨B, F, ρ, env, μ, ds, μ', S, he, q⟩ := q
  rw [evI] at he
  obtain ⟨⟨dx, μ1⟩, h1, h2⟩ := Option.bind_eq_some_iff.mp he
  dsimp only at h2
  split at h2
  · cases h2
    refine (pi_tup ha).run pins s σ H R I (RE.go S h1 fun v F1 H1 ρ1 e1 S1 r1 => ?_)
    cases r1 with
    | tup r1 r2 => exact ⟨_, rfl, ⟨_, same_t S1.fh r1⟩, q _ F1 H1 ρ1 e1 S1.fh S1.cells (src_tup r1 r2)⟩
  · cases h2
    refine (pi_list ha).run pins s σ H R I (RE.go S h1 fun v F1 H1 ρ1 e1 S1 r1 => ?_)
    cases r1 with
    | lst r1 r2 => exact ⟨_, rfl, ⟨_, .inl (.inl (S1.fh _ _ r1))⟩, q _ F1 H1 ρ1 e1 S1.fh S1.cells (src_list (.inl (.inl r1)) r2)⟩
  · cases h2
    refine (pi_list ha).run pins s σ H R I (RE.go S h1 fun v F1 H1 ρ1 e1 S1 r1 => ?_)
    cases r1 with
    | scr r1 r2 => exact ⟨_, rfl, ⟨_, S1.fh.seq r1⟩, q _ F1 H1 ρ1 e1 S1.fh S1.cells (src_list r1 r2)⟩
  · cases h2
theorem s_rng1 {tg : Expr} {p2 : Pos} (G : CG C Φ Γ k X sc) (hg : gloB sc "range" = true) (ha : PE X x (tE X.K Φ Γ a)) (n1 : ∀ v p, x ≠ .Starred v p) : PI X tg (.Call (.Name "range" p2) [x] [] p) (tI X.K Φ Γ (.rng1 a)) := by
  refine PI.imp (pi_range1 (G.gl hg) (G.bi (by decide +kernel)) (pa_cons ha pa_nil (starEach_cons n1)) (starEach_cons n1)) fun σ H R q => ?_
  obtain ⟨B, F, ρ, env, μ, ds, μ', S, he, q⟩ := q
  rw [evI] at he
  obtain ⟨⟨dx, μ1⟩, h1, h2⟩ := Option.bind_eq_some_iff.mp he
  obtain ⟨j, h3, h4⟩ := Option.bind_eq_some_iff.mp h2
  obtain ⟨es, h5, h6⟩ := Option.map_eq_some_iff.mp h4
  cases h6
  refine RE.go S h1 fun v F1 H1 ρ1 e1 S1 r1 => ?_
  have e0 := asInt_eq h3
  subst e0
  cases r1
  obtain ⟨⟨b1, b2, b3, b4⟩, _, e2⟩ := rngS_eq h5
  subst e2
  rw [show j - 0 = j by omega] at *
  exact ⟨j, rfl, b3, b4, q _ F1 H1 ρ1 e1 S1.fh S1.cells src_range⟩
theorem s_rng2 {tg : Expr} {p2 : Pos} (G : CG C Φ Γ k X sc) (hg : gloB sc "range" = true) (ha : PE X x (tE X.K Φ Γ a)) (hb : PE X y (tE X.K Φ Γ b)) (n1 : ∀ v p, x ≠ .Starred v p) (n2 : ∀ v p, y ≠ .Starred v p) : PI X tg (.Call (.Name "range" p2) [x, y] [] p) (tI X.K Φ Γ (.rng2 a b)) := by
  refine PI.imp (pi_range2 (G.gl hg) (G.bi (by decide +kernel)) (pa_cons ha (pa_cons hb pa_nil (starEach_cons n2)) (starEach_cons n1)) (by rw [starEach_cons n1, starEach_cons n2]; rfl) (starEach_cons n2)) fun σ H R q => ?_
  obtain ⟨B, F, ρ, env, μ, ds, μ', S, he, q⟩ := q
  rw [evI] at he
  obtain ⟨⟨dx, μ1⟩, h1, h2⟩ := Option.bind_eq_some_iff.mp he
  obtain ⟨⟨dy, μ2⟩, h1', h2'⟩ := Option.bind_eq_some_iff.mp h2
  obtain ⟨i, h3, h4⟩ := Option.bind_eq_some_iff.mp h2'
  obtain ⟨j, h3', h4'⟩ := Option.bind_eq_some_iff.mp h4
  obtain ⟨es, h5, h6⟩ := Option.map_eq_some_iff.mp h4'
  cases h6
  refine RE.go S h1 fun v F1 H1 ρ1 e1 S1 r1 => RE.go S1 h1' fun w F2 H2 ρ2 e2 S2 r2 => ?_
  have e0 := asInt_eq h3
  subst e0
  have e0' := asInt_eq h3'
  subst e0'
  cases r1
  cases r2
  obtain ⟨b1, _, e3⟩ := rngS_eq h5
  subst e3
  exact ⟨i, j, rfl, b1, q _ F2 H2 ρ2 (e1.trans e2) S2.fh S2.cells src_range⟩
theorem s_zip {tg : Expr} {p2 : Pos} (G : CG C Φ Γ k X sc) (hg : gloB sc "zip" = true) (hk : isTup tg = true) (ha : PE X x (tE X.K Φ Γ a)) (hb : PE X y (tE X.K Φ Γ b)) (n1 : ∀ v p, x ≠ .Starred v p) (n2 : ∀ v p, y ≠ .Starred v p) : PI X tg (.Call (.Name "zip" p2) [x, y] [] p) (tI X.K Φ Γ (.zip a b)) := by
  cases tg with
  | Tuple elts kk tpos =>
    refine PI.imp (pi_zipA (G.gl hg) (G.bi (by decide +kernel)) (pa_cons ha (pa_cons hb pa_nil (starEach_cons n2)) (starEach_cons n1)) (starEach_cons n1) (by rw [starEach_cons n2]; rfl)) fun σ H R q => ?_
    obtain ⟨B, F, ρ, env, μ, ds, μ', S, he, q⟩ := q
    rw [evI] at he
    obtain ⟨⟨dx, μ1⟩, h1, h2⟩ := Option.bind_eq_some_iff.mp he
    obtain ⟨⟨dy, μ2⟩, h1', h2'⟩ := Option.bind_eq_some_iff.mp h2
    refine RE.go S h1 fun v F1 H1 ρ1 e1 S1 r1 => RE.go S1 h1' fun w F2 H2 ρ2 e2 S2 r2 => ?_
    dsimp only at h2'
    split at h2'
    · cases h2'
      cases r1 with
      | tup u1 u2 =>
        cases r2 with
        | tup w1 w2 =>
          have v1 := same_t e2.ff u1
          exact ⟨_, _, _, _, rfl, .inr ⟨same_t S2.fh v1, same_t S2.fh w1, q _ F2 H2 ρ2 (e1.trans e2) S2.fh S2.cells (src_zipT v1 w1 (u2.ext e2) w2)⟩⟩
    · cases h2'
      cases r1 with
      | lst u1 u2 =>
        cases r2 with
        | lst w1 w2 =>
          have v1 := e2.ff _ _ u1
          exact ⟨_, _, _, _, rfl, .inl ⟨.inl (.inl (S2.fh _ _ v1)), .inl (.inl (S2.fh _ _ w1)), q _ F2 H2 ρ2 (e1.trans e2) S2.fh S2.cells (src_zipL (.inl (.inl v1)) (.inl (.inl w1)) (u2.ext e2) w2)⟩⟩
    · cases h2'
  | _ => cases hk
theorem s_enum {tg : Expr} {p2 : Pos} (G : CG C Φ Γ k X sc) (hg : gloB sc "enumerate" = true) (hk : isTup tg = true) (ha : PE X x (tE X.K Φ Γ a)) (n1 : ∀ v p, x ≠ .Starred v p) : PI X tg (.Call (.Name "enumerate" p2) [x] [] p) (tI X.K Φ Γ (.enum a)) := by
  cases tg with
  | Tuple elts kk tpos =>
    refine PI.imp (pi_enumT (G.gl hg) (G.bi (by decide +kernel)) (pa_cons ha pa_nil (starEach_cons n1)) (starEach_cons n1)) fun σ H R q => ?_
    obtain ⟨B, F, ρ, env, μ, ds, μ', S, he, q⟩ := q
    rw [evI] at he
    obtain ⟨⟨dx, μ1⟩, h1, h2⟩ := Option.bind_eq_some_iff.mp he
    refine RE.go S h1 fun v F1 H1 ρ1 e1 S1 r1 => ?_
    dsimp only at h2
    split at h2
    · cases h2
      cases r1 with
      | lst u1 u2 => exact ⟨_, _, rfl, .inl ⟨.inl (.inl (S1.fh _ _ u1)), q _ F1 H1 ρ1 e1 S1.fh S1.cells (src_enum (.inl (.inl u1)) u2)⟩⟩
    · cases h2
      cases r1 with
      | tup u1 u2 => exact ⟨_, _, rfl, .inr ⟨same_t S1.fh u1, q _ F1 H1 ρ1 e1 S1.fh S1.cells (src_enumT u1 u2)⟩⟩
    · cases h2
  | _ => cases hk
theorem s_rngD {tg : Expr} {n1 n2 : Nat} {p2 p3 p4 p5 p6 : Pos} (G : CG C Φ Γ k X sc) (hg : gloB sc "range" = true) (ha : PE X x (tE X.K Φ Γ a)) (n1' : ∀ v p, x ≠ .Starred v p) : PI X tg (.Call (.Name "range" p2) [x, .UnaryOp .USub (.Constant (.int 1) n1 p3) p4, .UnaryOp .USub (.Constant (.int 1) n2 p5) p6] [] p) (tI X.K Φ Γ (.rngD a)) := by
  have hm : ∀ (n : Nat) (q1 q2 : Pos), PE X (.UnaryOp .USub (.Constant (.int 1) n q1) q2) (tE X.K Φ Γ (.neg (.int 1))) := fun n q1 q2 => s_neg s_int
  refine PI.imp (pi_range3 (G.gl hg) (G.bi (by decide +kernel)) (pa_cons ha (pa_cons (hm n1 p3 p4) (pa_cons (hm n2 p5 p6) pa_nil rfl) rfl) (starEach_cons n1')) (starEach_cons n1') rfl) fun σ H R q => ?_
  obtain ⟨B, F, ρ, env, μ, ds, μ', S, he, q⟩ := q
  rw [evI] at he
  obtain ⟨⟨dx, μ1⟩, h1, h2⟩ := Option.bind_eq_some_iff.mp he
  obtain ⟨j, h3, h4⟩ := Option.bind_eq_some_iff.mp h2
  obtain ⟨es, h5, h6⟩ := Option.map_eq_some_iff.mp h4
  cases h6
  have hv : ∀ μ, ev Φ Γ (.neg (.int 1)) env μ = some (.int (-1), μ) := fun μ => by rw [ev, ev]; rfl
  refine RE.go S h1 fun v F1 H1 ρ1 e1 S1 r1 => RE.go S1 (hv _) fun w F2 H2 ρ2 e2 S2 r2 => RE.go S2 (hv _) fun w3 F3 H3 ρ3 e3 S3 r3 => ?_
  have e0 := asInt_eq h3
  subst e0
  cases r1
  cases r2
  cases r3
  unfold rngDS at h5
  split at h5
  case isFalse => cases h5
  rename_i hb
  cases h5
  simp only [Bool.and_eq_true, decide_eq_true_eq] at hb
  exact ⟨j, -1, -1, (j - -1).toNat, rfl, RgC.neg (by omega) (by omega) (by omega) (by omega), q _ F3 H3 ρ3 ((e1.trans e2).trans e3) S3.fh S3.cells src_rngD⟩
end
end Py
end
section
set_option Elab.async false
set_option linter.all false
set_option maxRecDepth 100000
namespace Py
open PySem L2 RZ
section
variable {K : PySem.W.Frag} {B F H F' H' : Hp} {ρ ρ' : List Addr} {μ : Store} {p : Addr} {o : HO}
theorem write_ok (e : Ext F H ρ F' H' ρ') (fh : Same F' H') (c : Cells K F' H' ρ' μ) (hH : H p = none) (hF : F' p = none) (hρ : p ∉ ρ') : Ext F H ρ F' (upd H' p o) ρ' ∧ Same F' (upd H' p o) ∧ Cells K F' (upd H' p o) ρ' μ := by
  refine ⟨⟨e.ff, fun a u h n => ?_, fun a h => ?_, e.new, e.rr, e.rn⟩, fun a u h => ?_, ⟨c.len, c.nd, fun i a ds h1 h2 => ?_⟩⟩
  · rw [upd_ne (ne_of_none h hH)]; exact e.hh a u h n
  · by_cases q : a = p
    · subst q; exact absurd hH h
    · rw [upd_ne q]; exact e.dm a h
  · rw [upd_ne (ne_of_none h hF)]; exact fh a u h
  · obtain ⟨z1, ys, z2, z3⟩ := c.at_ i a ds h1 h2
    refine ⟨z1, ys, ?_, z3⟩
    rw [upd_ne (fun z => hρ (by rw [← z]; exact List.mem_of_getElem? h1))]
    exact z2
theorem frz_ok (e : Ext F H ρ F' H' ρ') (fh : Same F' H') (c : Cells K F' H' ρ' μ) (hH : H p = none) (h' : H' p = some o) (hF : F' p = none) (hρ : p ∉ ρ') : Ext F H ρ (upd F' p o) H' ρ' ∧ Same (upd F' p o) H' ∧ Cells K (upd F' p o) H' ρ' μ := by
  refine ⟨⟨e.ff.trans (same_upd' hF), e.hh, e.dm, fun a h1 h2 => ?_, e.rr, e.rn⟩, fun a u h => ?_, ⟨c.len, c.nd, fun i a ds h1 h2 => ?_⟩⟩
  · by_cases q : a = p
    · subst q; exact hH
    · rw [upd_ne q] at h2; exact e.new a h1 h2
  · by_cases q : a = p
    · subst q; rw [upd_same] at h; rw [h']; exact h
    · rw [upd_ne q] at h; exact fh a u h
  · obtain ⟨z1, ys, z2, z3⟩ := c.at_ i a ds h1 h2
    refine ⟨?_, ys, z2, DrL.mono (same_upd' hF) (fun _ _ h => h) _ _ z3⟩
    rw [upd_ne (fun z => hρ (by rw [← z]; exact List.mem_of_getElem? h1))]
    exact z1
end
/-- a new list, not yet frozen -/
def tN (K : PySem.W.Frag) (f : Env → Store → Option (List D × Store)) : TE := fun σ H Q => ∃ B F ρ env μ ds μ', SR K B F H ρ σ env μ ∧ f env μ = some (ds, μ') ∧
  ∀ p F' H' ρ' xs, Ext F H ρ F' H' ρ' → Same F' H' → Cells K F' H' ρ' μ' → H' p = some (.lst xs) → H p = none → F' p = none → p ∉ ρ' → DrL K F' ρ' xs ds → Q (.ref p) H'
def lcF (Φ : FnS) (Γ : GlS) (a : E) (t : T) (it : I) (c : Eo) (vs : List Nat) : Env → Store → Option (List D × Store) := fun env μ => (evI Φ Γ it env μ).bind fun (ds, μ1) => if ds.length ≤ SZ then lcS t (fun env' μ' => evc Φ Γ c env' μ') (fun env' μ' => ev Φ Γ a env' μ') (wipeE env vs) ds μ1 else none
theorem tN_freeze {K : PySem.W.Frag} {f : Env → Store → Option (List D × Store)} {g : Env → Store → Option (D × Store)} (hg : ∀ env μ r, g env μ = some r → ∃ ds, r.1 = .lst ds ∧ f env μ = some (ds, r.2)) : ∀ σ H Q, RE (fun F ρ v d => Dr K F ρ v d) K g σ H Q → tN K f σ H Q := by
  intro σ H Q q
  obtain ⟨B, F, ρ, env, μ, d, μ', S, h0, q⟩ := q
  obtain ⟨ds, h1, h2⟩ := hg env μ _ h0
  dsimp only at h1 h2
  subst h1
  refine ⟨B, F, ρ, env, μ, ds, μ', S, h2, fun p F' H' ρ' xs e s c h3 h4 h5 h6 r => ?_⟩
  obtain ⟨w1, w2, w3⟩ := frz_ok e s c h4 h3 h5 h6
  exact q _ _ H' ρ' w1 w2 w3 (.lst upd_same (DrL.mono (same_upd' h5) (fun _ _ h => h) _ _ r))
section
variable {C : MC} {Φ : FnS} {Γ : GlS} {k : Nat} {X : Cx} {sc : Scope}
theorem s_lc {a : E} {t : T} {it : I} {c : Eo} {vs : List Nat} {x tg iter : Expr} {ifs : List Expr} {scope : Scope} {p : Pos} (G : CG C Φ Γ k X sc) (hb : blkC C.N sc scope (vs.map fun i => (C.N.getD i "", i)) = true) (hsub : ∀ j ∈ tgS t, j ∈ vs)
    (hset : ∀ x, foldedSetIterable iter X.env x = pure x) (hi : PI X tg iter (tI X.K Φ Γ it))
    (hg : ∀ (s : Shared) (H : Hp) (Cc : Addr) (cl : List (Str × Addr)) (fp : List Addr), PG (X.blk s H scope (compEnvC scope cl Cc X.env) fp) tg (gT X.K t))
    (ht : ∀ (s : Shared) (H : Hp) (Cc : Addr) (cl : List (Str × Addr)) (fp : List Addr), PTs (X.blk s H scope (compEnvC scope cl Cc X.env) fp) ifs (tC X.K Φ Γ c))
    (he : ∀ (s : Shared) (H : Hp) (Cc : Addr) (cl : List (Str × Addr)) (fp : List Addr), PE (X.blk s H scope (compEnvC scope cl Cc X.env) fp) x (tE X.K Φ Γ a)) :
    (PE X (.ListComp x [⟨tg, iter, ifs, 0⟩] scope p) (tE X.K Φ Γ (.lc a t it c vs)) ∧ PE X (.ListComp x [⟨tg, iter, ifs, 0⟩] scope p) (tN X.K (lcF Φ Γ a t it c vs))) ∧ (∀ σ H Q, tE X.K Φ Γ (.lc a t it c vs) σ H Q → tN X.K (lcF Φ Γ a t it c vs) σ H Q) ∧
      ∀ σ H Q, tN X.K (lcF Φ Γ a t it c vs) σ H Q → tLc (tI X.K Φ Γ it) (gT X.K t) (tC X.K Φ Γ c) (tE X.K Φ Γ a) ((vs.map fun i => (C.N.getD i "", i)).map (·.2)) σ H Q := by
  have fz : ∀ σ H Q, tE X.K Φ Γ (.lc a t it c vs) σ H Q → tN X.K (lcF Φ Γ a t it c vs) σ H Q := by
    refine tN_freeze fun env μ r hr => ?_
    rw [ev] at hr
    obtain ⟨⟨ds, μ1⟩, h1, h2⟩ := Option.bind_eq_some_iff.mp hr
    dsimp only at h2
    split at h2
    case isFalse => cases h2
    rename_i hz
    obtain ⟨⟨xs, μe⟩, h3, h4⟩ := Option.map_eq_some_iff.mp h2
    cases h4
    refine ⟨xs, rfl, ?_⟩
    unfold lcF
    rw [h1]
    dsimp only [Option.bind_some]
    rw [if_pos hz]
    exact h3
  have key : ∀ σ H Q, tN X.K (lcF Φ Γ a t it c vs) σ H Q → tLc (tI X.K Φ Γ it) (gT X.K t) (tC X.K Φ Γ c) (tE X.K Φ Γ a) ((vs.map fun i => (C.N.getD i "", i)).map (·.2)) σ H Q := by
    intro σ H Q q
    have evs_eq : (vs.map fun i => (C.N.getD i "", i)).map (·.2) = vs := by
      rw [List.map_map]
      exact List.map_id _
    rw [evs_eq]
    obtain ⟨B, F, ρ, env, μ, xs, μe, S, h0, q⟩ := q
    unfold lcF at h0
    obtain ⟨⟨ds, μ1⟩, h1, h2⟩ := Option.bind_eq_some_iff.mp h0
    dsimp only at h2
    split at h2
    case isFalse => cases h2
    rename_i hz
    have h3 := h2
    refine RE.go S h1 fun J F1 H1 ρ1 e1 S1 r1 D0 hD => ?_
    obtain ⟨G', Y, W, hG, hY⟩ := r1
    have fD : F1 D0 = none := S1.fh.free hD
    have nD : D0 ∉ ρ1 := fun z => by
      obtain ⟨i, hi, e⟩ := List.getElem_of_mem z
      have hi' := hi
      rw [S1.cells.len] at hi'
      obtain ⟨_, ys, z2, _⟩ := S1.cells.at_ i D0 _ (by rw [List.getElem?_eq_getElem hi, e]) (List.getElem?_eq_getElem hi')
      rw [hD] at z2; cases z2
    have w0 := write_ok (o := .lst []) (Ext.refl (F := F1) (H := H1) (ρ := ρ1)) S1.fh S1.cells hD fD nD
    refine lc_it W (fun i H2 => ∃ F2 ρ2 μ2 acc accd rest, Ext F1 H1 ρ1 F2 H2 ρ2 ∧ Same F2 H2 ∧ Cells X.K F2 H2 ρ2 μ2 ∧ H2 D0 = some (.lst acc) ∧ F2 D0 = none ∧ D0 ∉ ρ2 ∧ DrL X.K F2 ρ2 acc accd ∧ acc.length ≤ i ∧
      lcS t (fun env' μ' => evc Φ Γ c env' μ') (fun env' μ' => ev Φ Γ a env' μ') (wipeE env vs) (ds.drop i) μ2 = some (rest, μe) ∧ accd ++ rest = xs) ?_ ?_ ?_ ?_
    · exact ⟨F1, ρ1, μ1, [], [], xs, w0.1, w0.2.1, w0.2.2, upd_same, fD, nD, .nil, Nat.le_refl _, h3, rfl⟩
    · rintro i H2 _ ⟨F2, ρ2, μ2, acc, accd, rest, e2, s2, _⟩
      exact hG F2 H2 e2.ff s2
    · rintro i y H2 H2' hi ⟨F2, ρ2, μ2, acc, accd, rest, e2, s2, c2, d2, f2, n2, r2, l2, q2, q3⟩ hy
      obtain ⟨F3, dx, P, g1, g2⟩ := hY i y H2 H2' F2 hi e2.ff s2 hy
      have hdrop : ds.drop i = dx :: ds.drop (i + 1) := by
        have hlt : i < ds.length := hi
        rw [List.drop_eq_getElem_cons hlt]
        rw [List.getElem?_eq_getElem hlt] at g1
        cases g1
        rfl
      rw [hdrop, lcS] at q2
      obtain ⟨env', u1, u2⟩ := Option.bind_eq_some_iff.mp q2
      obtain ⟨⟨b, μ3⟩, u3, u4⟩ := Option.bind_eq_some_iff.mp u2
      have S2 : SR X.K B F2 H2 ρ2 σ env μ2 := S1.step e2 s2 c2
      have S3 := (S2.px P).wipe vs
      have dD : H2' D0 = some (.lst acc) := P.hh _ _ d2
      have f3 : F3 D0 = none := by
        by_cases z : F3 D0 = none
        · exact z
        · have := P.new D0 f2 z
          rw [d2] at this; cases this
      refine ⟨B, F3, ρ2, wipeE env vs, μ2, dx, env', S3, g2 ρ2 e2.rr, u1, fun σ2 S4 hl hj => ⟨?_, ?_⟩⟩
      · rw [wipe_same hl fun j hj' => hj j fun z => hj' (hsub j z), wipe_idem]
      · refine RE.go S4 u3 fun b' F4 H4 ρ4 e4 S5 r => ?_
        cases r
        have d4 : H4 D0 = some (.lst acc) := e4.hh _ _ dD n2
        have f4 : F4 D0 = none := by
          by_cases z : F4 D0 = none
          · exact z
          · have := e4.new D0 f3 z
            rw [dD] at this; cases this
        have n4 : D0 ∉ ρ4 := fun z => (e4.rn D0 z).elim n2 fun z => by rw [dD] at z; cases z
        dsimp only at u4
        cases b with
        | true =>
          rw [if_pos rfl] at u4
          obtain ⟨⟨dy, μ4⟩, u5, u6⟩ := Option.bind_eq_some_iff.mp u4
          obtain ⟨⟨rest', μ5⟩, u7, u8⟩ := Option.map_eq_some_iff.mp u6
          cases u8
          refine iteT (RE.go S5 u5 fun w F5 H5 ρ5 e5 S6 r5 => ?_)
          have d5 : H5 D0 = some (.lst acc) := e5.hh _ _ d4 n4
          have f5 : F5 D0 = none := by
            by_cases z : F5 D0 = none
            · exact z
            · have := e5.new D0 f4 z
              rw [d4] at this; cases this
          have n5 : D0 ∉ ρ5 := fun z => (e5.rn D0 z).elim n4 fun z => by rw [d4] at z; cases z
          have hsz : acc.length < sizeLine := by rw [sz]; omega
          have eA := ((e2.trans P.ext).trans e4).trans e5
          obtain ⟨w1, w2, w3⟩ := write_ok (o := .lst (acc ++ [w])) eA S6.fh S6.cells hD f5 n5
          refine ⟨acc, d5, hsz, F5, ρ5, μ4, acc ++ [w], accd ++ [dy], rest', w1, w2, w3, upd_same, f5, n5, ((((r2.ext P.ext).ext e4).ext e5).append (.cons r5 .nil)), by simp; omega, u7, ?_⟩
          rw [List.append_assoc]
          exact q3
        | false =>
          rw [if_neg Bool.false_ne_true] at u4
          exact iteF ⟨F4, ρ4, μ3, acc, accd, rest, (e2.trans P.ext).trans e4, S5.fh, S5.cells, d4, f4, n4, (r2.ext P.ext).ext e4, by omega, u4, q3⟩
    · rintro H2 ⟨F2, ρ2, μ2, acc, accd, rest, e2, s2, c2, d2, f2, n2, r2, l2, q2, q3⟩
      rw [List.drop_length, lcS] at q2
      cases q2
      rw [List.append_nil] at q3
      subst q3
      have hn : H D0 = none := by
        by_cases z : H D0 = none
        · exact z
        · exact absurd hD (e1.dm D0 z)
      exact q D0 F2 H2 ρ2 acc (e1.trans e2) s2 c2 d2 hn f2 n2 r2
  have pn := PE.imp (pe_lc (pos := p) G.calm G.nd hi (G.blkOk hb) hg ht he hset) key
  exact ⟨⟨PE.imp pn fz, pn⟩, fz, key⟩
/-! ### an own list lent -/
theorem flat_dr {K : PySem.W.Frag} {F F' : Hp} {ρ ρ' : List Addr} {v : V} {d : D} (h : Dr K F ρ v d) (f : flat d = true) : Dr K F' ρ' v d := by
  cases h <;> first | exact .non | exact .bl _ | exact .int _ | exact .str _ | cases f
theorem flat_drL {K : PySem.W.Frag} {F F' : Hp} {ρ ρ' : List Addr} : ∀ {v : List V} {d : List D}, DrL K F ρ v d → d.all flat = true → DrL K F' ρ' v d
  | _, _, .nil, _ => .nil
  | _, _, .cons a b, f => by
    rw [List.all_cons, Bool.and_eq_true] at f
    exact .cons (flat_dr a f.1) (flat_drL b f.2)
theorem scalS_at : ∀ {μ : Store} {i : Nat} {ds : List D}, scalS μ = true → μ[i]? = some ds → ds.all flat = true
  | [], _, _, _, h => by simp at h
  | es :: r, 0, _, h, e => by
    rw [scalS, Bool.and_eq_true] at h
    simp at e; subst e; exact h.1
  | es :: r, i + 1, _, h, e => by
    rw [scalS, Bool.and_eq_true] at h
    exact scalS_at h.2 (by simpa using e)
theorem sqt_keep {K : PySem.W.Frag} {F F' : Hp} {b : Addr} {xs : List V} (k : ∀ c o, F c = some o → (∀ ys, o ≠ .lst ys) → F' c = some o) (h : SqT K F b xs) : SqT K F' b xs := by
  rcases h with (h | ⟨o, h⟩) | h
  · exact .inl (.inl (k _ _ h (fun ys z => by cases z)))
  · exact .inl (.inr ⟨o, k _ _ h (fun ys z => by cases z)⟩)
  · exact .inr h
section
variable {K : PySem.W.Frag} {F F' : Hp} {ρ ρ' : List Addr}
mutual
theorem noL_dr (k : ∀ c o, F c = some o → (∀ ys, o ≠ .lst ys) → F' c = some o) : ∀ (d : D) (v : V), Dr K F ρ v d → noL d = true → Dr K F' ρ' v d
  | .non, _, h, _ => by cases h; exact .non
  | .bl _, _, h, _ => by cases h; exact .bl _
  | .int _, _, h, _ => by cases h; exact .int _
  | .str _, _, h, _ => by cases h; exact .str _
  | .tup ds, _, h, e => by
    cases h with
    | tup a b => exact .tup (sqt_keep k a) (noL_drs k ds _ b (by rw [noL] at e; exact e))
  | .lst _, _, _, e => by rw [noL] at e; cases e
  | .scr _, _, _, e => by rw [noL] at e; cases e
  | .mr _, _, _, e => by rw [noL] at e; cases e
theorem noL_drs (k : ∀ c o, F c = some o → (∀ ys, o ≠ .lst ys) → F' c = some o) : ∀ (ds : List D) (vs : List V), DrL K F ρ vs ds → noLs ds = true → DrL K F' ρ' vs ds
  | [], _, h, _ => by cases h; exact .nil
  | d :: ds, _, h, e => by
    rw [noLs, Bool.and_eq_true] at e
    cases h with
    | cons a b => exact .cons (noL_dr k d _ a e.1) (noL_drs k ds _ b e.2)
end
end
theorem lend {K : PySem.W.Frag} {B F H : Hp} {ρ : List Addr} {σ : L2.St} {env : Env} {μ : Store} {i : Nat} {ds : List D} (S : SR K B F H ρ σ env μ) (h : getO env i = some ds) :
    ∃ F1, SR K B F1 H ρ σ (env.set i (some (.val (.lst ds)))) μ ∧ ∀ F' H' ρ' μ', Ext F1 H ρ F' H' ρ' → Same F' H' → Cells K F' H' ρ' μ' → scalS μ' = true → ∃ F2, (∀ c o, F' c = some o → (∀ ys, o ≠ .lst ys) → F2 c = some o) ∧ Ext F H ρ F2 H' ρ' ∧ Same F2 H' ∧ Cells K F2 H' ρ' μ' := by
  have he := getO_eq h
  obtain ⟨v, h1, a, xs, rfl, h2, h3, h4, h5, h6⟩ := S.env.at_ _ _ he
  have hi : i < env.length := (List.getElem?_eq_some_iff.mp he).1
  have hz : ∀ a', F a' = none → upd F a (.lst xs) a' ≠ none → a' = a := fun a' h7 h8 => by
    by_cases q : a' = a
    · exact q
    · rw [upd_ne q] at h8; exact absurd h7 h8
  refine ⟨upd F a (.lst xs), ⟨fun b o e => ?_, ⟨S.cells.len, S.cells.nd, fun j b es g1 g2 => ?_⟩, ⟨by rw [List.length_set]; exact S.env.len, fun j sv g => ?_, fun j l es fs b g1 g2 g3 g4 => ?_, fun j l es fs b g1 g2 g3 g4 => ?_⟩⟩, ?_⟩
  · by_cases q : b = a
    · subst q; rw [upd_same] at e; rw [h2]; exact e
    · rw [upd_ne q] at e; exact S.fh b o e
  · obtain ⟨z1, ys, z2, z3⟩ := S.cells.at_ j b es g1 g2
    refine ⟨?_, ys, z2, DrL.mono (same_upd' h4) (fun _ _ h => h) _ _ z3⟩
    rw [upd_ne (fun z => h5 (by rw [← z]; exact List.mem_of_getElem? g1))]
    exact z1
  · by_cases q : i = j
    · subst q
      rw [List.getElem?_set_self hi] at g
      cases g
      exact ⟨_, h1, .lst upd_same (DrL.mono (same_upd' h4) (fun _ _ h => h) _ _ h3)⟩
    · rw [List.getElem?_set_ne q] at g
      obtain ⟨w, w1, w2⟩ := S.env.at_ j sv g
      refine ⟨w, w1, ?_⟩
      cases sv with
      | val d => exact Dr.mono (same_upd' h4) (fun _ _ h => h) _ _ w2
      | own es =>
        obtain ⟨b, ys, rfl, k2, k3, k4, k5, k6⟩ := w2
        have nb : b ≠ a := fun z => q (S.env.apart i j ds es a he g h1 (by rw [← z]; exact w1))
        exact ⟨b, ys, rfl, k2, DrL.mono (same_upd' h4) (fun _ _ h => h) _ _ k3, by rw [upd_ne nb]; exact k4, k5, k6⟩
      | dct es =>
        obtain ⟨b, nes, P, w, rfl, k2, k3, k4, k5, k6⟩ := w2
        have nb : b ≠ a := fun z => by rw [z, h2] at k2; cases k2
        exact ⟨b, nes, P, w, rfl, k2, KD.mono (same_upd' h4) (fun _ _ h => h) k3, by rw [upd_ne nb]; exact k4, k5, k6⟩
  · have own_ne : ∀ {j : Nat} {es : List D}, (env.set i (some (.val (.lst ds))))[j]? = some (some (.own es)) → i ≠ j := fun {j es} h q => by
      subst q
      rw [List.getElem?_set_self hi] at h; cases h
    rw [List.getElem?_set_ne (own_ne g1)] at g1
    rw [List.getElem?_set_ne (own_ne g2)] at g2
    exact S.env.apart j l es fs b g1 g2 g3 g4
  · have own_ne : ∀ {j : Nat} {es : List (NestedKey × D)}, (env.set i (some (.val (.lst ds))))[j]? = some (some (.dct es)) → i ≠ j := fun {j es} h q => by
      subst q
      rw [List.getElem?_set_self hi] at h; cases h
    rw [List.getElem?_set_ne (own_ne g1)] at g1
    rw [List.getElem?_set_ne (own_ne g2)] at g2
    exact S.env.apd j l es fs b g1 g2 g3 g4
  · intro F' H' ρ' μ' e s c hs
    have na : ∀ b, b ∈ ρ' → b ≠ a := fun b hb z => by
      subst z
      rcases e.rn b hb with z | z
      · exact h5 z
      · rw [h2] at z; cases z
    refine ⟨fun b => if b = a then none else F' b, fun b o g1 g2 => ?_, ⟨fun b o g => ?_, e.hh, e.dm, fun b g1 g2 => ?_, e.rr, e.rn⟩, fun b o g => ?_, ⟨c.len, c.nd, fun j b es g1 g2 => ?_⟩⟩
    · have nb : b ≠ a := fun z => by
        subst z
        have := e.ff b (.lst xs) upd_same
        rw [this] at g1
        cases g1
        exact g2 xs rfl
      dsimp only
      rw [if_neg nb]
      exact g1
    · have nb : b ≠ a := ne_of_none g h4
      rw [if_neg nb]
      exact e.ff b o (by rw [upd_ne nb]; exact g)
    · by_cases q : b = a
      · rw [if_pos q] at g2; exact absurd rfl g2
      · rw [if_neg q] at g2
        exact e.new b (by rw [upd_ne q]; exact g1) g2
    · dsimp only at g
      by_cases q : b = a
      · rw [if_pos q] at g; cases g
      · rw [if_neg q] at g; exact s b o g
    · obtain ⟨z1, ys, z2, z3⟩ := c.at_ j b es g1 g2
      refine ⟨?_, ys, z2, flat_drL z3 (scalS_at hs g2)⟩
      rw [if_neg (na b (List.mem_of_getElem? g1))]
      exact z1
theorem s_bor {i : Nat} {a : E} {x : Expr} (ha : PE X x (tE X.K Φ Γ a)) : PE X x (tE X.K Φ Γ (.bor i a)) := by
  refine PE.imp ha fun σ H Q q => ?_
  obtain ⟨B, F, ρ, env, μ, d, μ', S, he, q⟩ := q
  rw [ev] at he
  obtain ⟨ds, h1, h2⟩ := Option.bind_eq_some_iff.mp he
  obtain ⟨⟨d', μ1⟩, h3, h4⟩ := Option.bind_eq_some_iff.mp h2
  dsimp only at h4
  split at h4
  case isFalse => cases h4
  rename_i hf
  cases h4
  rw [Bool.and_eq_true] at hf
  obtain ⟨F1, S1, k1⟩ := lend S h1
  refine ⟨B, F1, ρ, _, μ, _, _, S1, h3, fun v F' H' ρ' e s c r => ?_⟩
  obtain ⟨F2, w0, w1, w2, w3⟩ := k1 F' H' ρ' _ e s c hf.2
  exact q v F2 H' ρ' w1 w2 w3 (noL_dr w0 _ _ r hf.1)
theorem sT_bor {i : Nat} {a : E} {x : Expr} (ha : PT X x (tT X.K Φ Γ a)) : PT X x (tT X.K Φ Γ (.bor i a)) := by
  refine PT.imp ha fun σ H Q q => ?_
  obtain ⟨B, F, ρ, env, μ, d, μ', S, he, q⟩ := q
  rw [evT] at he
  obtain ⟨ds, h1, h2⟩ := Option.bind_eq_some_iff.mp he
  obtain ⟨⟨d', μ1⟩, h3, h4⟩ := Option.bind_eq_some_iff.mp h2
  dsimp only at h4
  split at h4
  case isFalse => cases h4
  rename_i hf
  cases h4
  obtain ⟨F1, S1, k1⟩ := lend S h1
  refine ⟨B, F1, ρ, _, μ, _, _, S1, h3, fun v F' H' ρ' e s c r => ?_⟩
  obtain ⟨F2, _, w1, w2, w3⟩ := k1 F' H' ρ' _ e s c hf
  exact q v F2 H' ρ' w1 w2 w3 r
end
end Py
end
section
set_option Elab.async false
set_option linter.all false
set_option maxRecDepth 100000
set_option maxHeartbeats 4000000
namespace Py
open PySem L2 RZ
theorem mE_noset {C : MC} {sc : Scope} : ∀ {m : E} {e : Expr}, mE C sc m e = true → ∀ l n p, e ≠ .Set l n p := by
  intro m
  induction m using E.rec (motive_2 := fun _ => True) (motive_3 := fun _ => True) (motive_4 := fun _ => True) with
  | bor i e ih => intro x h; rw [mE] at h; exact ih h
  | nil => trivial
  | cons => trivial
  | none => trivial
  | some => trivial
  | seq => trivial
  | rng1 => trivial
  | rng2 => trivial
  | zip => trivial
  | enum => trivial
  | rngD => trivial
  | _ =>
    intro x h v n p z
    subst z
    rw [mE] at h <;> first | cases h | (intros; contradiction)
theorem marks_of {e : Expr} {op : CmpOp} (h : ∀ l n p, e ≠ .Set l n p) : behindInMarks op e = false := by
  cases e <;> first | rfl | exact absurd rfl (h _ _ _)
theorem folded_of {e : Expr} {env : PySem.Env} (h : ∀ l n p, e ≠ .Set l n p) : ∀ x, foldedSetIterable e env x = pure x := by
  cases e <;> first | exact fun _ => rfl | exact absurd rfl (h _ _ _)
theorem mI_noset {C : MC} {sc : Scope} {it : I} {e : Expr} {k : Bool} (h : mI C sc it e k = true) : ∀ l n p, e ≠ .Set l n p := by
  cases it with
  | seq a => exact mE_noset (mI_seq h)
  | rng1 a => obtain ⟨_, _, _, _, rfl, _⟩ := mI_rng1 h; exact fun _ _ _ z => nomatch z
  | rng2 a b => obtain ⟨_, _, _, _, _, rfl, _⟩ := mI_rng2 h; exact fun _ _ _ z => nomatch z
  | rngD a => obtain ⟨_, _, _, _, _, _, _, _, _, _, rfl, _⟩ := mI_rngD h; exact fun _ _ _ z => nomatch z
  | zip a b => obtain ⟨_, _, _, _, _, rfl, _⟩ := mI_zip h; exact fun _ _ _ z => nomatch z
  | enum a => obtain ⟨_, _, _, _, rfl, _⟩ := mI_enum h; exact fun _ _ _ z => nomatch z
theorem blk_kind {N : List Str} {sc scope : Scope} {own : List (Str × Nat)} (h : blkC N sc scope own = true) : scope.kind = .function := (blkOk_by h).kind
section
variable {C : MC} {Φ : FnS} {Γ : GlS} {k : Nat}
theorem sT_none {X : Cx} {m : E} {e : Expr} (h : ∀ env μ, evT Φ Γ m env μ = none) : PT X e (tT X.K Φ Γ m) := ⟨fun pins s σ H Q I q => by
  obtain ⟨B, F, ρ, env, μ, d, μ', S, he, q⟩ := q
  rw [h] at he; cases he⟩
theorem bool_of_map {α : Type} {f : α → Bool → Bool} {x : Option (D × Store)} {g : D → Option Bool} {r : Bool × Store} (h : (x.bind fun p => (g p.1).map fun k => (k, p.2)) = some r) : ∃ d, x = some (d, r.2) ∧ g d = some r.1 := by
  obtain ⟨⟨d, μ⟩, h1, h2⟩ := Option.bind_eq_some_iff.mp h
  obtain ⟨b, h3, h4⟩ := Option.map_eq_some_iff.mp h2
  cases h4
  exact ⟨d, h1, h3⟩
theorem pa_two {Φ : FnS} {Γ : GlS} {X : Cx} {m : E} {ms : Es} {y : Expr} {ys : List Expr} (h1 : PE X y (tE X.K Φ Γ m)) (n : ∀ v p, y ≠ .Starred v p) (h2 : PA X ys (tEs X.K Φ Γ ms)) : PA X (y :: ys) (tEs X.K Φ Γ (.cons m ms)) := by
  refine PA.imp (pa_cons h1 h2 (starEach_cons n)) fun σ H Q q => ?_
  obtain ⟨B, F, ρ, env, μ, d, μ', S, he, q⟩ := q
  rw [evs] at he
  obtain ⟨⟨dx, μ1⟩, h1, h2⟩ := Option.bind_eq_some_iff.mp he
  obtain ⟨⟨dl, μ2⟩, h3, h4⟩ := Option.map_eq_some_iff.mp h2
  cases h4
  exact RE.go S h1 fun v F1 H1 ρ1 e1 S1 r1 => RE.go S1 h3 fun w F2 H2 ρ2 e2 S2 r2 => q _ F2 H2 ρ2 (e1.trans e2) S2.fh S2.cells (.cons (r1.ext e2) r2)
theorem pa_nil' {Φ : FnS} {Γ : GlS} {X : Cx} : PA X [] (tEs X.K Φ Γ .nil) := PA.imp pa_nil fun σ H Q q => by
  obtain ⟨B, F, ρ, env, μ, d, μ', S, he, q⟩ := q
  rw [evs] at he
  cases he
  exact q _ F H ρ .refl S.fh S.cells .nil
theorem po_none' {Φ : FnS} {Γ : GlS} {X : Cx} : PO X none (tO X.K Φ Γ .none) := PO.imp po_none fun σ H Q q => by
  obtain ⟨B, F, ρ, env, μ, d, μ', S, he, q⟩ := q
  rw [evo] at he
  cases he
  exact q _ F H ρ .refl S.fh S.cells rfl
theorem po_some' {Φ : FnS} {Γ : GlS} {X : Cx} {m : E} {e : Expr} (h : PE X e (tE X.K Φ Γ m)) : PO X (some e) (tO X.K Φ Γ (.some m)) := PO.imp (po_some h) fun σ H Q q => by
  obtain ⟨B, F, ρ, env, μ, d, μ', S, he, q⟩ := q
  rw [evo] at he
  obtain ⟨⟨dx, μ1⟩, h1, h2⟩ := Option.bind_eq_some_iff.mp he
  obtain ⟨i, h3, h4⟩ := Option.map_eq_some_iff.mp h2
  cases h4
  refine RE.go S h1 fun v F1 H1 ρ1 e1 S1 r1 => ?_
  have e0 := asInt_eq h3
  subst e0
  cases r1
  exact ⟨_, rfl, q _ F1 H1 ρ1 e1 S1.fh S1.cells rfl⟩
theorem pc_none' {Φ : FnS} {Γ : GlS} {X : Cx} : PTs X [] (tC X.K Φ Γ .none) := PTs.imp pts_nil fun σ H Q q => by
  obtain ⟨B, F, ρ, env, μ, d, μ', S, he, q⟩ := q
  rw [evc] at he
  cases he
  exact q _ F H ρ .refl S.fh S.cells rfl
theorem pc_some' {Φ : FnS} {Γ : GlS} {X : Cx} {m : E} {e : Expr} (h : PT X e (tT X.K Φ Γ m)) : PTs X [e] (tC X.K Φ Γ (.some m)) := PTs.imp (pts_one h) fun σ H Q q => by
  obtain ⟨B, F, ρ, env, μ, d, μ', S, he, q⟩ := q
  rw [evc] at he
  exact ⟨B, F, ρ, env, μ, d, μ', S, he, q⟩
mutual
theorem peE : ∀ (m : E) (X : Cx) (sc : Scope) (e : Expr), CG C Φ Γ k X sc → mE C sc m e = true → PE X e (tE X.K Φ Γ m)
  | .slot i, X, sc, e, G, h => by obtain ⟨x, p, rfl, ⟨h1, h2⟩, h3⟩ := mE_slot h; exact s_slot G h1 h2 h3
  | .glob i, X, sc, e, G, h => by obtain ⟨x, p, rfl, ⟨h1, h2⟩, h3⟩ := mE_glob h; exact s_glob G h1 h2 h3
  | .int i, X, sc, e, G, h => by obtain ⟨j, n, p, rfl, rfl⟩ := mE_int h; exact s_int
  | .bl i, X, sc, e, G, h => by obtain ⟨j, n, p, rfl, rfl⟩ := mE_bl h; exact s_bl
  | .non, X, sc, e, G, h => by obtain ⟨n, p, rfl⟩ := mE_non h; exact s_non
  | .str i, X, sc, e, G, h => by obtain ⟨j, n, p, rfl, rfl⟩ := mE_str h; exact s_str
  | .bin op a b, X, sc, e, G, h => by
    obtain ⟨x, o, y, p, rfl, ⟨rfl, h1⟩, h2⟩ := mE_bin h
    exact s_bin (peE a X sc x G h1) (peE b X sc y G h2)
  | .neg a, X, sc, e, G, h => by
    obtain ⟨x, p, rfl, h1⟩ := mE_neg h
    exact s_neg (peE a X sc x G h1)
  | .not a, X, sc, e, G, h => by
    obtain ⟨x, p, rfl, h1⟩ := mE_not h
    exact s_not (peE a X sc x G h1)
  | .cmp op a b, X, sc, e, G, h => by
    obtain ⟨x, o, y, p, rfl, ⟨rfl, h1⟩, h2⟩ := mE_cmp h
    exact s_cmp G (marks_of (mE_noset h2)) (peE a X sc x G h1) (peE b X sc y G h2)
  | .isN a, X, sc, e, G, h => by
    obtain ⟨x, n, p2, p, rfl, h1⟩ := mE_isN h
    exact s_isN (peE a X sc x G h1)
  | .notN a, X, sc, e, G, h => by
    obtain ⟨x, n, p2, p, rfl, h1⟩ := mE_notN h
    exact s_notN (peE a X sc x G h1)
  | .and a r, X, sc, e, G, h => by
    obtain ⟨x, xs, p, rfl, h1, h2⟩ := mE_and h
    refine PE.imp (pAnd r X sc xs a x p G (peE a X sc x G h1) h2) fun σ H Q q => ?_
    obtain ⟨B, F, ρ, env, μ, d, μ', S, he, q⟩ := q
    rw [ev] at he
    exact ⟨B, F, ρ, env, μ, d, μ', S, he, q⟩
  | .or a r, X, sc, e, G, h => by
    obtain ⟨x, xs, p, rfl, h1, h2⟩ := mE_or h
    refine PE.imp (pOr r X sc xs a x p G (peE a X sc x G h1) h2) fun σ H Q q => ?_
    obtain ⟨B, F, ρ, env, μ, d, μ', S, he, q⟩ := q
    rw [ev] at he
    exact ⟨B, F, ρ, env, μ, d, μ', S, he, q⟩
  | .ite c a b, X, sc, e, G, h => by
    obtain ⟨z, x, y, p, rfl, ⟨h1, h2⟩, h3⟩ := mE_ite h
    exact s_ite (ptE c X sc z G h1) (peE a X sc x G h2) (peE b X sc y G h3)
  | .tup es, X, sc, e, G, h => by
    obtain ⟨xs, n, p, rfl, h1⟩ := mE_tup h
    exact s_tup (paEs es X sc xs G h1)
  | .lst es, X, sc, e, G, h => by
    obtain ⟨xs, p, rfl, h1⟩ := mE_lst h
    exact s_lst (paEs es X sc xs G h1)
  | .mlst es, X, sc, e, G, h => by
    obtain ⟨xs, p, rfl, h1⟩ := mE_mlst h
    exact s_mlst (paEs es X sc xs G h1)
  | .ix a b, X, sc, e, G, h => by
    obtain ⟨x, y, p, rfl, h1, h2⟩ := mE_ix h
    exact s_ix (mE_nostar h2).2 (peE a X sc x G h1) (peE b X sc y G h2)
  | .slc a lo hi, X, sc, e, G, h => by
    obtain ⟨x, l, u, p2, p, rfl, ⟨h1, h2⟩, h3⟩ := mE_slc h
    exact s_slc (peE a X sc x G h1) (poEo lo X sc l G h2) (poEo hi X sc u G h3)
  | .call f a es, X, sc, e, G, h => by
    obtain ⟨x, p2, y, ys, p, rfl, ⟨⟨⟨h1, h2⟩, h3⟩, h4⟩, h5⟩ := mE_call h
    exact s_call G h1 h2 h3 (pa_two (peE a X sc y G h4) (mE_nostar h4).1 (paEs es X sc ys G h5)) (mE_nostar h4).1 (mEs_nostar h5)
  | .bi b a es, X, sc, e, G, h => by
    obtain ⟨x, p2, y, ys, p, rfl, ⟨⟨rfl, h2⟩, h4⟩, h5⟩ := mE_bi h
    exact s_bi G h2 (pa_two (peE a X sc y G h4) (mE_nostar h4).1 (paEs es X sc ys G h5)) (mE_nostar h4).1 (mEs_nostar h5)
  | .isi a t, X, sc, e, G, h => by
    obtain ⟨x, p2, y, z, p3, p, rfl, ⟨⟨⟨rfl, h1⟩, h2⟩, rfl⟩, h3⟩ := mE_isi h
    exact s_isi G h1 h3 (peE a X sc y G h2) (mE_nostar h2).1
  | .lc a t it c vs, X, sc, e, G, h => by
    obtain ⟨x, tg, iter, ifs, n, scope, p, rfl, ⟨⟨⟨⟨⟨rfl, h1⟩, h2⟩, h3⟩, h4⟩, h5⟩, h6⟩ := mE_lc h
    exact (s_lc G h1 (fun j hj => by have := List.all_eq_true.mp h2 j hj; simpa using this) (folded_of (mI_noset h3)) (piI it X sc iter tg G h3)
      (fun s H Cc cl fp => pgT (G.blk (blk_kind h1) s H Cc cl fp) t tg h4) (fun s H Cc cl fp => pcEo c _ scope ifs (G.blk (blk_kind h1) s H Cc cl fp) h5) (fun s H Cc cl fp => peE a _ scope x (G.blk (blk_kind h1) s H Cc cl fp) h6)).1.1
  | .bor i a, X, sc, e, G, h => s_bor (peE a X sc e G (mE_bor h))
  | .dIn neg i a, X, sc, e, G, h => by
    obtain ⟨x, o, y, p2, p, rfl, ⟨⟨⟨rfl, h1⟩, h2⟩, h3⟩, h4⟩ := mE_dIn h
    exact s_dIn G h1 h2 h3 (peE a X sc x G h4)
  | .dAt i a, X, sc, e, G, h => by
    obtain ⟨y, p2, x, p, rfl, ⟨⟨h1, h2⟩, h3⟩, h4⟩ := mE_dAt h
    exact s_dAt G h1 h2 h3 (mE_nostar h4).2 (peE a X sc x G h4)
  | .dVals i, X, sc, e, G, h => by
    obtain ⟨f, p2, y, p3, m, ap, cp, p, rfl, ⟨⟨⟨⟨⟨rfl, h1⟩, h2⟩, h3⟩, h4⟩, rfl⟩, h5⟩ := mE_dVals h
    exact s_dVals G h1 h2 h3 h4 h5
  | .rngL a, X, sc, e, G, h => by
    obtain ⟨f, p2, g, p3, x, p4, p, rfl, ⟨⟨⟨rfl, h1⟩, rfl⟩, h2⟩, h3⟩ := mE_rngL h
    exact s_rngL G h1 h2 (peE a X sc x G h3) (mE_nostar h3).1
  | .rev a, X, sc, e, G, h => by
    obtain ⟨x, k, p1, p2, p3, p, rfl, h1⟩ := mE_rev h
    exact s_rev (peE a X sc x G h1)
  | .chain op op2 a b c, X, sc, e, G, h => by
    obtain ⟨x, o, o2, y, z, p, rfl, ⟨⟨⟨rfl, rfl⟩, h1⟩, h2⟩, h3⟩ := mE_chain h
    exact s_chain G (marks_of (mE_noset h3)) (peE a X sc x G h1) (peE b X sc y G h2) (peE c X sc z G h3)
theorem ptE : ∀ (m : E) (X : Cx) (sc : Scope) (e : Expr), CG C Φ Γ k X sc → mE C sc m e = true → PT X e (tT X.K Φ Γ m)
  | .slot i, X, sc, e, G, h => by
    have hp := peE (.slot i) X sc e G h
    obtain ⟨x, p, rfl, _⟩ := mE_slot h
    refine sT_tru hp (fun _ => rfl) fun env μ r hr => ?_
    rw [evT] at hr
    obtain ⟨d, h1, h2⟩ := Option.bind_eq_some_iff.mp hr
    obtain ⟨b, h3, h4⟩ := Option.map_eq_some_iff.mp h2
    cases h4
    exact ⟨d, by rw [ev, h1]; rfl, h3⟩
  | .ix a b, X, sc, e, G, h => by
    have hp := peE (.ix a b) X sc e G h
    obtain ⟨x, y, p, rfl, _⟩ := mE_ix h
    refine sT_tru hp (fun _ => rfl) fun env μ r hr => ?_
    rw [evT] at hr
    obtain ⟨⟨d, μ1⟩, h1, h2⟩ := Option.bind_eq_some_iff.mp hr
    obtain ⟨⟨d2, μ2⟩, h3, h4⟩ := Option.bind_eq_some_iff.mp h2
    obtain ⟨d3, h5, h6⟩ := Option.bind_eq_some_iff.mp h4
    obtain ⟨b, h7, h8⟩ := Option.map_eq_some_iff.mp h6
    cases h8
    refine ⟨d3, ?_, h7⟩
    rw [ev, h1]
    show Option.bind (ev _ _ _ _ _) _ = _
    rw [h3]
    show Option.map _ (ixS _ _ _) = _
    rw [h5]; rfl
  | .call f a es, X, sc, e, G, h => by
    have hp := peE (.call f a es) X sc e G h
    obtain ⟨x, p2, y, ys, p, rfl, _⟩ := mE_call h
    refine sT_tru hp (fun _ => rfl) fun env μ r hr => ?_
    rw [evT] at hr
    obtain ⟨⟨d, μ1⟩, h1, h2⟩ := Option.bind_eq_some_iff.mp hr
    obtain ⟨⟨d2, μ2⟩, h3, h4⟩ := Option.bind_eq_some_iff.mp h2
    obtain ⟨⟨d3, μ3⟩, h5, h6⟩ := Option.bind_eq_some_iff.mp h4
    obtain ⟨b, h7, h8⟩ := Option.map_eq_some_iff.mp h6
    cases h8
    refine ⟨d3, ?_, h7⟩
    rw [ev, h1]
    show Option.bind (evs _ _ _ _ _) _ = _
    rw [h3]
    exact h5
  | .bi b a es, X, sc, e, G, h => by
    have hp := peE (.bi b a es) X sc e G h
    obtain ⟨x, p2, y, ys, p, rfl, _⟩ := mE_bi h
    refine sT_tru hp (fun _ => rfl) fun env μ r hr => ?_
    rw [evT] at hr
    obtain ⟨⟨d, μ1⟩, h1, h2⟩ := Option.bind_eq_some_iff.mp hr
    obtain ⟨⟨d2, μ2⟩, h3, h4⟩ := Option.bind_eq_some_iff.mp h2
    obtain ⟨d3, h5, h6⟩ := Option.bind_eq_some_iff.mp h4
    obtain ⟨b, h7, h8⟩ := Option.map_eq_some_iff.mp h6
    cases h8
    refine ⟨d3, ?_, h7⟩
    rw [ev, h1]
    show Option.bind (evs _ _ _ _ _) _ = _
    rw [h3]
    show Option.map _ (biS _ _ _) = _
    rw [h5]; rfl
  | .isi a t, X, sc, e, G, h => by
    have hp := peE (.isi a t) X sc e G h
    obtain ⟨x, p2, y, z, p3, p, rfl, _⟩ := mE_isi h
    refine sT_tru hp (fun _ => rfl) fun env μ r hr => ?_
    rw [evT] at hr
    obtain ⟨⟨d, μ1⟩, h1, h2⟩ := Option.bind_eq_some_iff.mp hr
    obtain ⟨b, h7, h8⟩ := Option.map_eq_some_iff.mp h2
    cases h8
    refine ⟨.bl b, ?_, rfl⟩
    rw [ev, h1]
    show Option.map _ (isiS _ _) = _
    rw [h7]; rfl
  | .dIn neg i a, X, sc, e, G, h => by
    obtain ⟨x, o, y, p2, p, rfl, ⟨⟨⟨rfl, h1⟩, h2⟩, h3⟩, h4⟩ := mE_dIn h
    exact sT_dIn G h1 h2 h3 (peE a X sc x G h4)
  | .chain op op2 a b c, X, sc, e, G, h => by
    obtain ⟨x, o, o2, y, z, p, rfl, ⟨⟨⟨rfl, rfl⟩, h1⟩, h2⟩, h3⟩ := mE_chain h
    exact sT_chain G (marks_of (mE_noset h3)) (peE a X sc x G h1) (peE b X sc y G h2) (peE c X sc z G h3)
  | .dAt i a, X, sc, e, G, h => sT_none fun env μ => by rw [evT] <;> (intros; contradiction)
  | .dVals i, X, sc, e, G, h => sT_none fun env μ => by rw [evT] <;> (intros; contradiction)
  | .rngL _, X, sc, e, G, h => sT_none fun env μ => by rw [evT] <;> (intros; contradiction)
  | .rev _, X, sc, e, G, h => sT_none fun env μ => by rw [evT] <;> (intros; contradiction)
  | .cmp op a b, X, sc, e, G, h => by
    obtain ⟨x, o, y, p, rfl, ⟨rfl, h1⟩, h2⟩ := mE_cmp h
    exact sT_cmp G (marks_of (mE_noset h2)) (peE a X sc x G h1) (peE b X sc y G h2)
  | .isN a, X, sc, e, G, h => by
    obtain ⟨x, n, p2, p, rfl, h1⟩ := mE_isN h
    exact sT_isN (peE a X sc x G h1)
  | .notN a, X, sc, e, G, h => by
    obtain ⟨x, n, p2, p, rfl, h1⟩ := mE_notN h
    exact sT_notN (peE a X sc x G h1)
  | .not a, X, sc, e, G, h => by
    obtain ⟨x, p, rfl, h1⟩ := mE_not h
    refine PT.imp (pt_not (ptE a X sc x G h1)) fun σ H Q q => ?_
    obtain ⟨B, F, ρ, env, μ, d, μ', S, he, q⟩ := q
    rw [evT] at he
    obtain ⟨⟨b, μ1⟩, h2, h3⟩ := Option.map_eq_some_iff.mp he
    cases h3
    exact RE.go S h2 fun v F1 H1 ρ1 e1 S1 r1 => q _ F1 H1 ρ1 e1 S1.fh S1.cells (by rw [r1])
  | .and a r, X, sc, e, G, h => by
    obtain ⟨x, xs, p, rfl, h1, h2⟩ := mE_and h
    refine PT.imp (PW.pt (ptAnd r X sc xs a x p G (ptE a X sc x G h1) h2)) fun σ H Q q => ?_
    obtain ⟨B, F, ρ, env, μ, d, μ', S, he, q⟩ := q
    rw [evT] at he
    exact ⟨B, F, ρ, env, μ, d, μ', S, he, q⟩
  | .or a r, X, sc, e, G, h => by
    obtain ⟨x, xs, p, rfl, h1, h2⟩ := mE_or h
    refine PT.imp (PW.pt (ptOr r X sc xs a x p G (ptE a X sc x G h1) h2)) fun σ H Q q => ?_
    obtain ⟨B, F, ρ, env, μ, d, μ', S, he, q⟩ := q
    rw [evT] at he
    exact ⟨B, F, ρ, env, μ, d, μ', S, he, q⟩
  | .bor i a, X, sc, e, G, h => sT_bor (ptE a X sc e G (mE_bor h))
  | .ite _ _ _, X, sc, e, G, h => sT_none fun _ _ => by rw [evT]
  | .glob _, X, sc, e, G, h => sT_none fun _ _ => by rw [evT] <;> (intros; contradiction)
  | .int _, X, sc, e, G, h => sT_none fun _ _ => by rw [evT] <;> (intros; contradiction)
  | .bl _, X, sc, e, G, h => sT_none fun _ _ => by rw [evT] <;> (intros; contradiction)
  | .non, X, sc, e, G, h => sT_none fun _ _ => by rw [evT] <;> (intros; contradiction)
  | .str _, X, sc, e, G, h => sT_none fun _ _ => by rw [evT] <;> (intros; contradiction)
  | .bin _ _ _, X, sc, e, G, h => sT_none fun _ _ => by rw [evT] <;> (intros; contradiction)
  | .neg _, X, sc, e, G, h => sT_none fun _ _ => by rw [evT] <;> (intros; contradiction)
  | .tup _, X, sc, e, G, h => sT_none fun _ _ => by rw [evT] <;> (intros; contradiction)
  | .lst _, X, sc, e, G, h => sT_none fun _ _ => by rw [evT] <;> (intros; contradiction)
  | .mlst _, X, sc, e, G, h => sT_none fun _ _ => by rw [evT] <;> (intros; contradiction)
  | .slc _ _ _, X, sc, e, G, h => sT_none fun _ _ => by rw [evT] <;> (intros; contradiction)
  | .lc _ _ _ _ _, X, sc, e, G, h => sT_none fun _ _ => by rw [evT] <;> (intros; contradiction)
theorem pAnd : ∀ (r : Es) (X : Cx) (sc : Scope) (xs : List Expr) (a : E) (x : Expr) (p : Pos), CG C Φ Γ k X sc → PE X x (tE X.K Φ Γ a) → mEs C sc r xs = true → PE X (.BoolOp .And (x :: xs) p) (tAnd X.K Φ Γ a r)
  | .nil, X, sc, xs, a, x, p, G, ha, h => by rw [mEs_nil h]; exact s_and1 ha
  | .cons b r, X, sc, xs, a, x, p, G, ha, h => by
    obtain ⟨y, ys, rfl, h1, h2⟩ := mEs_cons h
    exact s_and2 ha (pAnd r X sc ys b y p G (peE b X sc y G h1) h2)
theorem pOr : ∀ (r : Es) (X : Cx) (sc : Scope) (xs : List Expr) (a : E) (x : Expr) (p : Pos), CG C Φ Γ k X sc → PE X x (tE X.K Φ Γ a) → mEs C sc r xs = true → PE X (.BoolOp .Or (x :: xs) p) (tOr X.K Φ Γ a r)
  | .nil, X, sc, xs, a, x, p, G, ha, h => by rw [mEs_nil h]; exact s_or1 ha
  | .cons b r, X, sc, xs, a, x, p, G, ha, h => by
    obtain ⟨y, ys, rfl, h1, h2⟩ := mEs_cons h
    exact s_or2 ha (pOr r X sc ys b y p G (peE b X sc y G h1) h2)
theorem ptAnd : ∀ (r : Es) (X : Cx) (sc : Scope) (xs : List Expr) (a : E) (x : Expr) (p : Pos), CG C Φ Γ k X sc → PT X x (tT X.K Φ Γ a) → mEs C sc r xs = true → PW X (.BoolOp .And (x :: xs) p) (tTAnd X.K Φ Γ a r)
  | .nil, X, sc, xs, a, x, p, G, ha, h => by rw [mEs_nil h]; exact sT_and1 ha
  | .cons b r, X, sc, xs, a, x, p, G, ha, h => by
    obtain ⟨y, ys, rfl, h1, h2⟩ := mEs_cons h
    exact sT_and2 ha (ptAnd r X sc ys b y p G (ptE b X sc y G h1) h2)
theorem ptOr : ∀ (r : Es) (X : Cx) (sc : Scope) (xs : List Expr) (a : E) (x : Expr) (p : Pos), CG C Φ Γ k X sc → PT X x (tT X.K Φ Γ a) → mEs C sc r xs = true → PW X (.BoolOp .Or (x :: xs) p) (tTOr X.K Φ Γ a r)
  | .nil, X, sc, xs, a, x, p, G, ha, h => by rw [mEs_nil h]; exact sT_or1 ha
  | .cons b r, X, sc, xs, a, x, p, G, ha, h => by
    obtain ⟨y, ys, rfl, h1, h2⟩ := mEs_cons h
    exact sT_or2 ha (ptOr r X sc ys b y p G (ptE b X sc y G h1) h2)
theorem paEs : ∀ (ms : Es) (X : Cx) (sc : Scope) (es : List Expr), CG C Φ Γ k X sc → mEs C sc ms es = true → PA X es (tEs X.K Φ Γ ms)
  | .nil, X, sc, es, G, h => by rw [mEs_nil h]; exact pa_nil'
  | .cons m ms, X, sc, es, G, h => by
    obtain ⟨y, ys, rfl, h1, h2⟩ := mEs_cons h
    exact pa_two (peE m X sc y G h1) (mE_nostar h1).1 (paEs ms X sc ys G h2)
theorem poEo : ∀ (m : Eo) (X : Cx) (sc : Scope) (e : Option Expr), CG C Φ Γ k X sc → mEo C sc m e = true → PO X e (tO X.K Φ Γ m)
  | .none, X, sc, e, G, h => by rw [mEo_none h]; exact po_none'
  | .some m, X, sc, e, G, h => by
    obtain ⟨y, rfl, h1⟩ := mEo_some h
    exact po_some' (peE m X sc y G h1)
theorem pcEo : ∀ (m : Eo) (X : Cx) (sc : Scope) (e : List Expr), CG C Φ Γ k X sc → mEc C sc m e = true → PTs X e (tC X.K Φ Γ m)
  | .none, X, sc, e, G, h => by rw [mEc_none h]; exact pc_none'
  | .some m, X, sc, e, G, h => by
    obtain ⟨y, rfl, h1⟩ := mEc_some h
    exact pc_some' (ptE m X sc y G h1)
theorem piI : ∀ (it : I) (X : Cx) (sc : Scope) (e tg : Expr), CG C Φ Γ k X sc → mI C sc it e (isTup tg) = true → PI X tg e (tI X.K Φ Γ it)
  | .seq a, X, sc, e, tg, G, h => s_seq (peE a X sc e G (mI_seq h))
  | .rng1 a, X, sc, e, tg, G, h => by
    obtain ⟨f, p2, y, p, rfl, ⟨rfl, h1⟩, h2⟩ := mI_rng1 h
    exact s_rng1 G h1 (peE a X sc y G h2) (mE_nostar h2).1
  | .rngD a, X, sc, e, tg, G, h => by
    obtain ⟨f, p2, y, k1, p3, p4, k2, p5, p6, p, rfl, ⟨rfl, h1⟩, h2⟩ := mI_rngD h
    exact s_rngD G h1 (peE a X sc y G h2) (mE_nostar h2).1
  | .rng2 a b, X, sc, e, tg, G, h => by
    obtain ⟨f, p2, y, z, p, rfl, ⟨⟨rfl, h1⟩, h2⟩, h3⟩ := mI_rng2 h
    exact s_rng2 G h1 (peE a X sc y G h2) (peE b X sc z G h3) (mE_nostar h2).1 (mE_nostar h3).1
  | .zip a b, X, sc, e, tg, G, h => by
    obtain ⟨f, p2, y, z, p, rfl, ⟨⟨⟨hk, rfl⟩, h1⟩, h2⟩, h3⟩ := mI_zip h
    exact s_zip G h1 hk (peE a X sc y G h2) (peE b X sc z G h3) (mE_nostar h2).1 (mE_nostar h3).1
  | .enum a, X, sc, e, tg, G, h => by
    obtain ⟨f, p2, y, p, rfl, ⟨⟨hk, rfl⟩, h1⟩, h2⟩ := mI_enum h
    exact s_enum G h1 hk (peE a X sc y G h2) (mE_nostar h2).1
end
end
end Py
end
section
set_option Elab.async false
set_option linter.all false
set_option maxRecDepth 100000
set_option maxHeartbeats 4000000
namespace Py
open PySem L2 RZ
def asgOk (tg x : Expr) : Bool := match x with
  | .ListComp .. => (match tg with | .Name .. => true | _ => false)
  | .SetComp .. => false
  | .DictComp .. => false
  | .Tuple .. => (match tg with | .Tuple .. => false | .List .. => false | _ => true)
  | _ => true
def isLc : Expr → Bool
  | .ListComp .. => true | _ => false
def isCall : Expr → Bool
  | .Call .. => true | _ => false
def isSub : Expr → Bool
  | .Subscript .. => true | _ => false
def isNew : E → Bool
  | .lst _ => true | .lc .. => true | .bi .list _ _ => true
  | _ => false
def lclB (sc : Scope) (x : Str) : Bool := match sc.names.lookup x with
  | some .local => true | _ => false
mutual
def mS (C : MC) (sc : Scope) : S → Stmt → Bool
  | .app i e, .Expr (.Call (.Attribute (.Name x _) m p2) [y] [] p3) _ => decide (C.N[i]? = some x) && visB sc x && okName x && decide (m = ("append" : Str)) && (p2.endLine == p3.line) && mE C sc e y
  | .expr e, .Expr x _ => isCall x && mE C sc e x
  | .asg t e, .Assign [tg] x _ => mT C sc t tg && mE C sc e x && asgOk tg x
  | .asgN i e, .Assign [.Name y py] x _ => mT C sc (.nm i) (.Name y py) && mE C sc e x && isNew e
  | .par i j a b, .Assign [.Tuple [.Name x px, .Name y py] _ _] (.Tuple [u, v] _ _) _ => decide (C.N[i]? = some x) && decide (C.N[j]? = some y) && decide (i ≠ j) && lclB sc x && lclB sc y && decide (px.line = py.line) && mE C sc a u && mE C sc b v && !(foldedForSure 8 u && foldedForSure 8 v) && !(constantsAlone 8 u && constantsAlone 8 v)
  | .aug i op e, .AugAssign (.Name x _) op' y _ => decide (C.N[i]? = some x) && locB sc x && decide (op = op') && mE C sc e y
  | .setm o i e, .Assign [.Subscript x y _] z _ => mE C sc o x && mE C sc i y && mE C sc e z && !sliceB y && asgOk (.Name "" ⟨0, 0, 0, 0⟩) z && !isLc z
  | .ret e, .Return (some x) _ => mE C sc e x
  | .retN, .Return none _ => true
  | .iff c a b, .If x ys zs _ => mE C sc c x && mSs C sc a ys && mSs C sc b zs
  | .wh c b, .While x ys [] _ => mE C sc c x && mSs C sc b ys
  | .for t it b, .For tg x ys [] _ => mT C sc t tg && mI C sc it x (isTup tg) && mSs C sc b ys
  | .brk, .Break _ => true
  | .cont, .Continue _ => true
  | .pass, .Pass _ => true
  | .frz _ s, x => mS C sc s x
  | .ext i e, .Expr (.Call (.Attribute (.Name x _) m p2) [y] [] p3) _ => decide (C.N[i]? = some x) && visB sc x && okName x && decide (m = ("extend" : Str)) && (p2.endLine == p3.line) && mE C sc e y
  | .dNew i, .Assign [.Name y py] (.Dict [] [] _) _ => mT C sc (.nm i) (.Name y py)
  | .dPut i a e, .Assign [.Subscript (.Name y _) u _] z _ => decide (C.N[i]? = some y) && visB sc y && okName y && mE C sc a u && mE C sc e z && !sliceB u && asgOk (.Name "" ⟨0, 0, 0, 0⟩) z && !isLc z
  | _, _ => false
def mSs (C : MC) (sc : Scope) : List S → List Stmt → Bool
  | [], [] => true
  | s :: r, x :: xs => mS C sc s x && mSs C sc r xs
  | _, _ => false
end
section
variable {C : MC} {sc : Scope} {e : Stmt}
theorem mS_app {i : Nat} {a : E} (h : mS C sc (.app i a) e = true) : ∃ x p1 m p2 y p3 p, e = .Expr (.Call (.Attribute (.Name x p1) m p2) [y] [] p3) p ∧ ((((C.N[i]? = some x ∧ visB sc x = true) ∧ okName x = true) ∧ m = ("append" : Str)) ∧ (p2.endLine == p3.line) = true) ∧ mE C sc a y = true := by
  unfold mS at h
  split at h <;> first | contradiction | skip
  rename_i q; cases q
  simp only [Bool.and_eq_true, decide_eq_true_eq] at h
  exact ⟨_, _, _, _, _, _, _, rfl, h⟩
theorem mS_ext {i : Nat} {a : E} (h : mS C sc (.ext i a) e = true) : ∃ x p1 m p2 y p3 p, e = .Expr (.Call (.Attribute (.Name x p1) m p2) [y] [] p3) p ∧ ((((C.N[i]? = some x ∧ visB sc x = true) ∧ okName x = true) ∧ m = ("extend" : Str)) ∧ (p2.endLine == p3.line) = true) ∧ mE C sc a y = true := by
  unfold mS at h
  split at h <;> first | contradiction | skip
  rename_i q; cases q
  simp only [Bool.and_eq_true, decide_eq_true_eq] at h
  exact ⟨_, _, _, _, _, _, _, rfl, h⟩
theorem mS_expr {a : E} (h : mS C sc (.expr a) e = true) : ∃ x p, e = .Expr x p ∧ isCall x = true ∧ mE C sc a x = true := by
  unfold mS at h
  split at h <;> first | contradiction | skip
  rename_i q; cases q
  simp only [Bool.and_eq_true, decide_eq_true_eq] at h
  exact ⟨_, _, rfl, h⟩
theorem mS_asg {t : T} {a : E} (h : mS C sc (.asg t a) e = true) : ∃ tg x p, e = .Assign [tg] x p ∧ (mT C sc t tg = true ∧ mE C sc a x = true) ∧ asgOk tg x = true := by
  unfold mS at h
  split at h <;> first | contradiction | skip
  rename_i q; cases q
  simp only [Bool.and_eq_true, decide_eq_true_eq] at h
  exact ⟨_, _, _, rfl, h⟩
theorem mS_asgN {i : Nat} {a : E} (h : mS C sc (.asgN i a) e = true) : ∃ y py x p, e = .Assign [.Name y py] x p ∧ (mT C sc (.nm i) (.Name y py) = true ∧ mE C sc a x = true) ∧ isNew a = true := by
  unfold mS at h
  split at h <;> first | contradiction | skip
  rename_i q; cases q
  simp only [Bool.and_eq_true, decide_eq_true_eq] at h
  exact ⟨_, _, _, _, rfl, h⟩
theorem mS_par {i j : Nat} {a b : E} (h : mS C sc (.par i j a b) e = true) : ∃ x px y py k1 p1 u v k2 p2 p, e = .Assign [.Tuple [.Name x px, .Name y py] k1 p1] (.Tuple [u, v] k2 p2) p ∧
    ((((((((C.N[i]? = some x ∧ C.N[j]? = some y) ∧ i ≠ j) ∧ lclB sc x = true) ∧ lclB sc y = true) ∧ px.line = py.line) ∧ mE C sc a u = true) ∧ mE C sc b v = true) ∧ (foldedForSure 8 u && foldedForSure 8 v) = false) ∧ (constantsAlone 8 u && constantsAlone 8 v) = false := by
  unfold mS at h
  split at h <;> first | contradiction | skip
  rename_i q; cases q
  rw [Bool.and_eq_true, Bool.and_eq_true, Bool.not_eq_true', Bool.not_eq_true'] at h
  obtain ⟨⟨h, h1⟩, h2⟩ := h
  simp only [Bool.and_eq_true, decide_eq_true_eq] at h
  exact ⟨_, _, _, _, _, _, _, _, _, _, _, rfl, ⟨h, h1⟩, h2⟩
theorem mS_aug {i : Nat} {op : Operator} {a : E} (h : mS C sc (.aug i op a) e = true) : ∃ x p1 o y p, e = .AugAssign (.Name x p1) o y p ∧ ((C.N[i]? = some x ∧ locB sc x = true) ∧ op = o) ∧ mE C sc a y = true := by
  unfold mS at h
  split at h <;> first | contradiction | skip
  rename_i q; cases q
  simp only [Bool.and_eq_true, decide_eq_true_eq] at h
  exact ⟨_, _, _, _, _, rfl, h⟩
theorem mS_setm {o i a : E} (h : mS C sc (.setm o i a) e = true) : ∃ x y p1 z p, e = .Assign [.Subscript x y p1] z p ∧ ((((mE C sc o x = true ∧ mE C sc i y = true) ∧ mE C sc a z = true) ∧ sliceB y = false) ∧ asgOk (.Name "" ⟨0, 0, 0, 0⟩) z = true) ∧ isLc z = false := by
  unfold mS at h
  split at h <;> first | contradiction | skip
  rename_i q; cases q
  simp only [Bool.and_eq_true, Bool.not_eq_true'] at h
  exact ⟨_, _, _, _, _, rfl, h⟩
theorem mS_dNew {i : Nat} (h : mS C sc (.dNew i) e = true) : ∃ y py p1 p, e = .Assign [.Name y py] (.Dict [] [] p1) p ∧ mT C sc (.nm i) (.Name y py) = true := by
  unfold mS at h
  split at h <;> first | contradiction | skip
  rename_i q; cases q
  exact ⟨_, _, _, _, rfl, h⟩
theorem mS_dPut {i : Nat} {b a : E} (h : mS C sc (.dPut i b a) e = true) : ∃ y p2 u p1 z p, e = .Assign [.Subscript (.Name y p2) u p1] z p ∧ ((((((C.N[i]? = some y ∧ visB sc y = true) ∧ okName y = true) ∧ mE C sc b u = true) ∧ mE C sc a z = true) ∧ sliceB u = false) ∧ asgOk (.Name "" ⟨0, 0, 0, 0⟩) z = true) ∧ isLc z = false := by
  unfold mS at h
  split at h <;> first | contradiction | skip
  rename_i q; cases q
  simp only [Bool.and_eq_true, Bool.not_eq_true', decide_eq_true_eq] at h
  exact ⟨_, _, _, _, _, _, rfl, h⟩
theorem mS_ret {a : E} (h : mS C sc (.ret a) e = true) : ∃ x p, e = .Return (some x) p ∧ mE C sc a x = true := by
  unfold mS at h
  split at h <;> first | contradiction | skip
  rename_i q; cases q
  exact ⟨_, _, rfl, h⟩
theorem mS_retN (h : mS C sc .retN e = true) : ∃ p, e = .Return none p := by
  unfold mS at h
  split at h <;> first | contradiction | skip
  exact ⟨_, rfl⟩
theorem mS_iff {c : E} {a b : List S} (h : mS C sc (.iff c a b) e = true) : ∃ x ys zs p, e = .If x ys zs p ∧ (mE C sc c x = true ∧ mSs C sc a ys = true) ∧ mSs C sc b zs = true := by
  unfold mS at h
  split at h <;> first | contradiction | skip
  rename_i q; cases q
  simp only [Bool.and_eq_true] at h
  exact ⟨_, _, _, _, rfl, h⟩
theorem mS_wh {c : E} {b : List S} (h : mS C sc (.wh c b) e = true) : ∃ x ys p, e = .While x ys [] p ∧ mE C sc c x = true ∧ mSs C sc b ys = true := by
  unfold mS at h
  split at h <;> first | contradiction | skip
  rename_i q; cases q
  simp only [Bool.and_eq_true] at h
  exact ⟨_, _, _, rfl, h⟩
theorem mS_for {t : T} {it : I} {b : List S} (h : mS C sc (.for t it b) e = true) : ∃ tg x ys p, e = .For tg x ys [] p ∧ (mT C sc t tg = true ∧ mI C sc it x (isTup tg) = true) ∧ mSs C sc b ys = true := by
  unfold mS at h
  split at h <;> first | contradiction | skip
  rename_i q; cases q
  simp only [Bool.and_eq_true] at h
  exact ⟨_, _, _, _, rfl, h⟩
theorem mS_brk (h : mS C sc .brk e = true) : ∃ p, e = .Break p := by
  unfold mS at h
  split at h <;> first | contradiction | skip
  exact ⟨_, rfl⟩
theorem mS_cont (h : mS C sc .cont e = true) : ∃ p, e = .Continue p := by
  unfold mS at h
  split at h <;> first | contradiction | skip
  exact ⟨_, rfl⟩
theorem mS_pass (h : mS C sc .pass e = true) : ∃ p, e = .Pass p := by
  unfold mS at h
  split at h <;> first | contradiction | skip
  exact ⟨_, rfl⟩
theorem mS_frz {i : Nat} {s : S} (h : mS C sc (.frz i s) e = true) : mS C sc s e = true := by
  rw [mS] at h; exact h
end
/-! ### what becomes of the stores of an assignment -/
theorem blockKind_fn {env : PySem.Env} (h : env.scope.kind = .function) : env.blockKind = .function := by unfold PySem.Env.blockKind; rw [h]; rfl
theorem swap_lc {elt : Expr} {gs : List Comprehension} {scope : Scope} {pos py : Pos} {y : Str} {l : Nat} {env : PySem.Env} (hk : env.scope.kind = .function) :
    swapsWith (.ListComp elt gs scope pos) (some (.Name y py)) l env = pure (env.kindOf y == some .local && py.line == pos.line && !(scope.names.any fun (n, k) => n == y && (k == .local || k == .cell))) := by
  unfold swapsWith
  simp only [blockKind_fn hk, Expr.pos]
  rfl
theorem swap_plain {tg x : Expr} {l : Nat} {env : PySem.Env} (h : asgOk tg x = true) (hn : isLc x = false) : swapsWithSole [tg] x l env = pure false := by
  unfold swapsWithSole swapsWith
  cases x <;> first | rfl | (cases hn; done) | (unfold asgOk at h; cases h)
theorem swap_sub {o i x : Expr} {q : Pos} {l : Nat} {env : PySem.Env} (h : asgOk (.Name "" ⟨0, 0, 0, 0⟩) x = true) (hn : isLc x = false) : swapsWith x (some (.Subscript o i q)) l env = pure false := by
  unfold swapsWith
  cases x <;> first | rfl | (cases hn; done) | (unfold asgOk at h; cases h)
theorem stores_plain {tg x : Expr} {env : PySem.Env} (h : asgOk tg x = true) : swappedStores [tg] x env = pure none := by
  unfold swappedStores
  cases x <;> cases tg <;> first | rfl | (unfold asgOk at h; cases h)
theorem stores_par {x y : Str} {px py p1 p2 : Pos} {k1 k2 : Nat} {u v : Expr} {env : PySem.Env} (hk : env.scope.kind = .function) (hx : env.kindOf x = some .local) (hy : env.kindOf y = some .local) (hne : x ≠ y) (hl : px.line = py.line)
    (n1 : ∀ w p, u ≠ .Starred w p) (n2 : ∀ w p, v ≠ .Starred w p) (h1 : (foldedForSure 8 u && foldedForSure 8 v) = false) (h2 : (constantsAlone 8 u && constantsAlone 8 v) = false) :
    swappedStores [.Tuple [.Name x px, .Name y py] k1 p1] (.Tuple [u, v] k2 p2) env = pure (some [x, y]) := by
  have hs : ([u, v].any fun | .Starred .. => true | _ => false) = false := by
    have f : ∀ w : Expr, (∀ a p, w ≠ .Starred a p) → (match w with | .Starred .. => true | _ => false) = false := fun w hw => by
      cases w <;> first | rfl | exact absurd rfl (hw _ _)
    simp only [List.any_cons, List.any_nil, f u n1, f v n2, Bool.or_false]
  have hf : [u, v].all (foldedForSure 8) = false := by simpa using h1
  have hc : [u, v].all (constantsAlone 8) = false := by simpa using h2
  have hxy : (y == x) = false := by simpa using fun z => hne z.symm
  unfold swappedStores
  simp only [blockKind_fn hk, hs, hf, hc]
  simp [Expr.pos, hx, hy, hl, List.eraseDups, List.eraseDupsBy, List.eraseDupsBy.loop, hxy, hne]
end Py
end
section
set_option Elab.async false
set_option linter.all false
set_option maxRecDepth 100000
set_option maxHeartbeats 4000000
namespace Py
open PySem L2 RZ
/-! ### statements by data; F0, B0, ρ0: the entry -/
structure Gr (F : Hp) (ρ : List Addr) (F' : Hp) (ρ' : List Addr) : Prop where
  ff : Same F F'
  rr : ∀ (i : Nat) (a : Addr), ρ[i]? = some a → ρ'[i]? = some a
theorem Gr.refl {F : Hp} {ρ : List Addr} : Gr F ρ F ρ := ⟨Same.refl _, fun _ _ h => h⟩
theorem Gr.trans {F F' F'' : Hp} {ρ ρ' ρ'' : List Addr} (a : Gr F ρ F' ρ') (b : Gr F' ρ' F'' ρ'') : Gr F ρ F'' ρ'' := ⟨a.ff.trans b.ff, fun i x h => b.rr i x (a.rr i x h)⟩
theorem Ext.gr {F H F' H' : Hp} {ρ ρ' : List Addr} (e : Ext F H ρ F' H' ρ') : Gr F ρ F' ρ' := ⟨e.ff, e.rr⟩
def PostS (K : PySem.W.Frag) (F0 B0 : Hp) (ρ0 : List Addr) (F : Hp) (ρ : List Addr) (D : Ends) : Fl → Prop
  | .nx env' μ' => ∀ σ' F' H' ρ', SR K B0 F' H' ρ' σ' env' μ' → Ext F0 B0 ρ0 F' H' ρ' → Gr F ρ F' ρ' → D.nx σ' H'
  | .bk env' μ' => ∀ σ' F' H' ρ', SR K B0 F' H' ρ' σ' env' μ' → Ext F0 B0 ρ0 F' H' ρ' → Gr F ρ F' ρ' → D.bk σ' H'
  | .ct env' μ' => ∀ σ' F' H' ρ', SR K B0 F' H' ρ' σ' env' μ' → Ext F0 B0 ρ0 F' H' ρ' → Gr F ρ F' ρ' → D.ct σ' H'
  | .rt d μ' => ∀ v F' H' ρ', Ext F0 B0 ρ0 F' H' ρ' → Same F' H' → Cells K F' H' ρ' μ' → Dr K F' ρ' v d → D.rt v H'
def RS (K : PySem.W.Frag) (f : Env → Store → Option Fl) : TS := fun D σ H => ∃ F0 B0 ρ0 F ρ env μ r, SR K B0 F H ρ σ env μ ∧ Ext F0 B0 ρ0 F H ρ ∧ f env μ = some r ∧ PostS K F0 B0 ρ0 F ρ D r
theorem PostS.grow {K : PySem.W.Frag} {F0 B0 : Hp} {ρ0 : List Addr} {F F1 : Hp} {ρ ρ1 : List Addr} {D : Ends} {r : Fl} (q : PostS K F0 B0 ρ0 F ρ D r) (g : Gr F ρ F1 ρ1) : PostS K F0 B0 ρ0 F1 ρ1 D r := by
  cases r with
  | nx e m => exact fun σ' F' H' ρ' S E G => q σ' F' H' ρ' S E (g.trans G)
  | bk e m => exact fun σ' F' H' ρ' S E G => q σ' F' H' ρ' S E (g.trans G)
  | ct e m => exact fun σ' F' H' ρ' S E G => q σ' F' H' ρ' S E (g.trans G)
  | rt d m => exact q
def tS (K : PySem.W.Frag) (Φ : FnS) (Γ : GlS) (s : S) : TS := RS K (ex Φ Γ s)
def tSs (K : PySem.W.Frag) (Φ : FnS) (Γ : GlS) (s : List S) : TS := RS K (exs Φ Γ s)
theorem PS.imp {X : Cx} {e : Stmt} {t t' : TS} (h : PS X e t) (w : ∀ D σ H, t' D σ H → t D σ H) : PS X e t' := ⟨fun pins s σ H D I q => h.run pins s σ H D I (w D σ H q)⟩
theorem PSs.imp {X : Cx} {e : List Stmt} {t t' : TS} (h : PSs X e t) (w : ∀ D σ H, t' D σ H → t D σ H) : PSs X e t' := ⟨fun pins s σ H D I q => h.run pins s σ H D I (w D σ H q)⟩
section
variable {K : PySem.W.Frag} {B F H : Hp} {ρ : List Addr} {σ : L2.St} {env : Env} {μ : Store}
/-- an own list is written -/
theorem SR.own_write (S : SR K B F H ρ σ env μ) {i : Nat} {ds es : List D} {a : Addr} {ys : List V} (he : env[i]? = some (some (.own ds))) (hσ : σ[i]? = some (some (.ref a))) (hF : F a = none) (hρ : a ∉ ρ) (hB : B a = none) (r : DrL K F ρ ys es) :
    SR K B F (upd H a (.lst ys)) ρ σ (env.set i (some (.own es))) μ := by
  have hi : i < env.length := (List.getElem?_eq_some_iff.mp he).1
  have hcase : ∀ {j : Nat} {fs : List D}, (env.set i (some (.own es)))[j]? = some (some (.own fs)) → ∃ gs, env[j]? = some (some (.own gs)) := fun {j fs} h => by
    by_cases q : i = j
    · subst q; exact ⟨ds, he⟩
    · rw [List.getElem?_set_ne q] at h; exact ⟨fs, h⟩
  refine ⟨fun b u h => ?_, ⟨S.cells.len, S.cells.nd, fun j b fs h1 h2 => ?_⟩, ⟨by rw [List.length_set]; exact S.env.len, fun j sv h => ?_, fun j l fs gs b h1 h2 h3 h4 => ?_, fun j l fs gs b h1 h2 h3 h4 => ?_⟩⟩
  · rw [upd_ne (ne_of_none h hF)]; exact S.fh b u h
  · obtain ⟨z1, zs, z2, z3⟩ := S.cells.at_ j b fs h1 h2
    exact ⟨z1, zs, by rw [upd_ne (fun z => hρ (by rw [← z]; exact List.mem_of_getElem? h1))]; exact z2, z3⟩
  · by_cases q : i = j
    · subst q
      rw [List.getElem?_set_self hi] at h
      cases h
      exact ⟨_, hσ, a, ys, rfl, upd_same, r, hF, hρ, hB⟩
    · rw [List.getElem?_set_ne q] at h
      obtain ⟨w, h1, h2⟩ := S.env.at_ j sv h
      refine ⟨w, h1, ?_⟩
      cases sv with
      | val d => exact h2
      | own fs =>
        obtain ⟨b, zs, rfl, k2, k3, k4, k5, k6⟩ := h2
        have nb : b ≠ a := fun z => q (S.env.apart i j ds fs a he h hσ (by rw [← z]; exact h1))
        exact ⟨b, zs, rfl, by rw [upd_ne nb]; exact k2, k3, k4, k5, k6⟩
      | dct fs =>
        obtain ⟨b, nes, P, w, rfl, k2, k3, k4, k5, k6⟩ := h2
        have nb : b ≠ a := fun z => by
          obtain ⟨v, j1, al, ws, e1, j2, _⟩ := S.env.at_ _ _ he
          rw [hσ] at j1
          cases j1
          cases e1
          rw [z, j2] at k2; cases k2
        exact ⟨b, nes, P, w, rfl, by rw [upd_ne nb]; exact k2, k3, k4, k5, k6⟩
  · obtain ⟨fs', g1⟩ := hcase h1
    obtain ⟨gs', g2⟩ := hcase h2
    exact S.env.apart j l fs' gs' b g1 g2 h3 h4
  · have ne : ∀ {j : Nat} {fs : List (NestedKey × D)}, (env.set i (some (.own es)))[j]? = some (some (.dct fs)) → i ≠ j := fun {j fs} h q => by
      subst q
      rw [List.getElem?_set_self hi] at h; cases h
    rw [List.getElem?_set_ne (ne h1)] at h1
    rw [List.getElem?_set_ne (ne h2)] at h2
    exact S.env.apd j l fs gs b h1 h2 h3 h4
/-- a new own list at a slot -/
theorem SR.own_new (S : SR K B F H ρ σ env μ) {i : Nat} {es : List D} {a : Addr} {ys : List V} (hi : i < env.length) (hH : H a = some (.lst ys)) (hF : F a = none) (hρ : a ∉ ρ) (hB : B a = none) (hn : ∀ (j : Nat) (fs : List D), env[j]? = some (some (.own fs)) → σ[j]? ≠ some (some (.ref a))) (r : DrL K F ρ ys es) :
    SR K B F H ρ (σ.set i (some (.ref a))) (env.set i (some (.own es))) μ := by
  have hl : i < σ.length := by rw [S.env.len]; exact hi
  refine ⟨S.fh, S.cells, ⟨by rw [List.length_set, List.length_set]; exact S.env.len, fun j sv h => ?_, fun j l fs gs b h1 h2 h3 h4 => ?_, fun j l fs gs b h1 h2 h3 h4 => ?_⟩⟩
  · by_cases q : i = j
    · subst q
      rw [List.getElem?_set_self hi] at h
      cases h
      exact ⟨_, List.getElem?_set_self hl, a, ys, rfl, hH, r, hF, hρ, hB⟩
    · rw [List.getElem?_set_ne q] at h
      obtain ⟨w, h1, h2⟩ := S.env.at_ j sv h
      exact ⟨w, by rw [List.getElem?_set_ne q]; exact h1, h2⟩
  · by_cases q1 : i = j
    · by_cases q2 : i = l
      · exact q1.symm.trans q2
      · subst q1
        rw [List.getElem?_set_self hl] at h3
        cases h3
        rw [List.getElem?_set_ne q2] at h2 h4
        exact absurd h4 (hn l gs h2)
    · by_cases q2 : i = l
      · subst q2
        rw [List.getElem?_set_self hl] at h4
        cases h4
        rw [List.getElem?_set_ne q1] at h1 h3
        exact absurd h3 (hn j fs h1)
      · rw [List.getElem?_set_ne q1] at h1 h3
        rw [List.getElem?_set_ne q2] at h2 h4
        exact S.env.apart j l fs gs b h1 h2 h3 h4
  · have ne : ∀ {j : Nat} {fs : List (NestedKey × D)}, (env.set i (some (.own es)))[j]? = some (some (.dct fs)) → i ≠ j := fun {j fs} h q => by
      subst q
      rw [List.getElem?_set_self hi] at h; cases h
    have n1 := ne h1
    have n2 := ne h2
    rw [List.getElem?_set_ne n1] at h1 h3
    rw [List.getElem?_set_ne n2] at h2 h4
    exact S.env.apd j l fs gs b h1 h2 h3 h4
/-- a new dict at a slot -/
theorem SR.dct_new (S : SR K B F H ρ σ env μ) {i : Nat} {P : Program} {w : World} {a : Addr} (hi : i < env.length) (hH : H a = some (dnO P w a [])) (hF : F a = none) (hρ : a ∉ ρ) (hB : B a = none) (hn : ∀ (j : Nat) (fs : List (NestedKey × D)), env[j]? = some (some (.dct fs)) → σ[j]? ≠ some (some (.ref a))) :
    SR K B F H ρ (σ.set i (some (.ref a))) (env.set i (some (.dct []))) μ := by
  have hl : i < σ.length := by rw [S.env.len]; exact hi
  refine ⟨S.fh, S.cells, ⟨by rw [List.length_set, List.length_set]; exact S.env.len, fun j sv h => ?_, fun j l fs gs b h1 h2 h3 h4 => ?_, fun j l fs gs b h1 h2 h3 h4 => ?_⟩⟩
  · by_cases q : i = j
    · subst q
      rw [List.getElem?_set_self hi] at h
      cases h
      exact ⟨_, List.getElem?_set_self hl, a, [], P, w, rfl, hH, .nil, hF, hρ, hB⟩
    · rw [List.getElem?_set_ne q] at h
      obtain ⟨w', h1, h2⟩ := S.env.at_ j sv h
      exact ⟨w', by rw [List.getElem?_set_ne q]; exact h1, h2⟩
  · have ne : ∀ {j : Nat} {fs : List D}, (env.set i (some (.dct [])))[j]? = some (some (.own fs)) → i ≠ j := fun {j fs} h q => by
      subst q
      rw [List.getElem?_set_self hi] at h; cases h
    have n1 := ne h1
    have n2 := ne h2
    rw [List.getElem?_set_ne n1] at h1 h3
    rw [List.getElem?_set_ne n2] at h2 h4
    exact S.env.apart j l fs gs b h1 h2 h3 h4
  · by_cases q1 : i = j
    · by_cases q2 : i = l
      · exact q1.symm.trans q2
      · subst q1
        rw [List.getElem?_set_self hl] at h3
        cases h3
        rw [List.getElem?_set_ne q2] at h2 h4
        exact absurd h4 (hn l gs h2)
    · by_cases q2 : i = l
      · subst q2
        rw [List.getElem?_set_self hl] at h4
        cases h4
        rw [List.getElem?_set_ne q1] at h1 h3
        exact absurd h3 (hn j fs h1)
      · rw [List.getElem?_set_ne q1] at h1 h3
        rw [List.getElem?_set_ne q2] at h2 h4
        exact S.env.apd j l fs gs b h1 h2 h3 h4
/-- a dict is written -/
theorem SR.dct_write (S : SR K B F H ρ σ env μ) {i : Nat} {ds es : List (NestedKey × D)} {a : Addr} {nes nes' : List NE} {P : Program} {w : World} (he : env[i]? = some (some (.dct ds))) (hσ : σ[i]? = some (some (.ref a))) (hH : H a = some (dnO P w a nes)) (hF : F a = none) (hρ : a ∉ ρ) (hB : B a = none) (r : KD K F ρ nes' es) :
    SR K B F (upd H a (dnO P w a nes')) ρ σ (env.set i (some (.dct es))) μ := by
  have hi : i < env.length := (List.getElem?_eq_some_iff.mp he).1
  have hcase : ∀ {j : Nat} {fs : List (NestedKey × D)}, (env.set i (some (.dct es)))[j]? = some (some (.dct fs)) → ∃ gs, env[j]? = some (some (.dct gs)) := fun {j fs} h => by
    by_cases q : i = j
    · subst q; exact ⟨ds, he⟩
    · rw [List.getElem?_set_ne q] at h; exact ⟨fs, h⟩
  refine ⟨fun b u h => ?_, ⟨S.cells.len, S.cells.nd, fun j b fs h1 h2 => ?_⟩, ⟨by rw [List.length_set]; exact S.env.len, fun j sv h => ?_, fun j l fs gs b h1 h2 h3 h4 => ?_, fun j l fs gs b h1 h2 h3 h4 => ?_⟩⟩
  · rw [upd_ne (ne_of_none h hF)]; exact S.fh b u h
  · obtain ⟨z1, zs, z2, z3⟩ := S.cells.at_ j b fs h1 h2
    exact ⟨z1, zs, by rw [upd_ne (fun z => hρ (by rw [← z]; exact List.mem_of_getElem? h1))]; exact z2, z3⟩
  · by_cases q : i = j
    · subst q
      rw [List.getElem?_set_self hi] at h
      cases h
      exact ⟨_, hσ, a, nes', P, w, rfl, upd_same, r, hF, hρ, hB⟩
    · rw [List.getElem?_set_ne q] at h
      obtain ⟨w', h1, h2⟩ := S.env.at_ j sv h
      refine ⟨w', h1, ?_⟩
      cases sv with
      | val d => exact h2
      | own fs =>
        obtain ⟨b, zs, rfl, k2, k3, k4, k5, k6⟩ := h2
        have nb : b ≠ a := fun z => by rw [z, hH] at k2; cases k2
        exact ⟨b, zs, rfl, by rw [upd_ne nb]; exact k2, k3, k4, k5, k6⟩
      | dct fs =>
        obtain ⟨b, ms, P', w2, rfl, k2, k3, k4, k5, k6⟩ := h2
        have nb : b ≠ a := fun z => q (S.env.apd i j ds fs a he h hσ (by rw [← z]; exact h1))
        exact ⟨b, ms, P', w2, rfl, by rw [upd_ne nb]; exact k2, k3, k4, k5, k6⟩
  · have ne : ∀ {j : Nat} {fs : List D}, (env.set i (some (.dct es)))[j]? = some (some (.own fs)) → i ≠ j := fun {j fs} h q => by
      subst q
      rw [List.getElem?_set_self hi] at h; cases h
    rw [List.getElem?_set_ne (ne h1)] at h1
    rw [List.getElem?_set_ne (ne h2)] at h2
    exact S.env.apart j l fs gs b h1 h2 h3 h4
  · obtain ⟨fs', g1⟩ := hcase h1
    obtain ⟨gs', g2⟩ := hcase h2
    exact S.env.apd j l fs' gs' b g1 g2 h3 h4
/-- an own list is frozen -/
theorem SR.freeze {F0 : Hp} {ρ0 : List Addr} (S : SR K B F H ρ σ env μ) (E : Ext F0 B ρ0 F H ρ) {i : Nat} {ds : List D} (h : getO env i = some ds) : ∃ F1, SR K B F1 H ρ σ (env.set i (some (.val (.lst ds)))) μ ∧ Ext F0 B ρ0 F1 H ρ ∧ Gr F ρ F1 ρ := by
  have he := getO_eq h
  obtain ⟨v, h1, a, xs, rfl, h2, h3, h4, h5, h6⟩ := S.env.at_ _ _ he
  have hi : i < env.length := (List.getElem?_eq_some_iff.mp he).1
  obtain ⟨w1, w2, w3⟩ := frz_ok E S.fh S.cells h6 h2 h4 h5
  refine ⟨upd F a (.lst xs), ⟨w2, w3, ⟨by rw [List.length_set]; exact S.env.len, fun j sv g => ?_, fun j l es fs b g1 g2 g3 g4 => ?_, fun j l es fs b g1 g2 g3 g4 => ?_⟩⟩, w1, ⟨same_upd' h4, fun _ _ h => h⟩⟩
  · by_cases q : i = j
    · subst q
      rw [List.getElem?_set_self hi] at g
      cases g
      exact ⟨_, h1, .lst upd_same (DrL.mono (same_upd' h4) (fun _ _ h => h) _ _ h3)⟩
    · rw [List.getElem?_set_ne q] at g
      obtain ⟨w, w1, w2⟩ := S.env.at_ j sv g
      refine ⟨w, w1, ?_⟩
      cases sv with
      | val d => exact Dr.mono (same_upd' h4) (fun _ _ h => h) _ _ w2
      | own es =>
        obtain ⟨b, ys, rfl, k2, k3, k4, k5, k6⟩ := w2
        have nb : b ≠ a := fun z => q (S.env.apart i j ds es a he g h1 (by rw [← z]; exact w1))
        exact ⟨b, ys, rfl, k2, DrL.mono (same_upd' h4) (fun _ _ h => h) _ _ k3, by rw [upd_ne nb]; exact k4, k5, k6⟩
      | dct es =>
        obtain ⟨b, nes, P, w', rfl, k2, k3, k4, k5, k6⟩ := w2
        have nb : b ≠ a := fun z => by rw [z, h2] at k2; cases k2
        exact ⟨b, nes, P, w', rfl, k2, KD.mono (same_upd' h4) (fun _ _ h => h) k3, by rw [upd_ne nb]; exact k4, k5, k6⟩
  · have own_ne : ∀ {j : Nat} {es : List D}, (env.set i (some (.val (.lst ds))))[j]? = some (some (.own es)) → i ≠ j := fun {j es} h q => by
      subst q
      rw [List.getElem?_set_self hi] at h; cases h
    rw [List.getElem?_set_ne (own_ne g1)] at g1
    rw [List.getElem?_set_ne (own_ne g2)] at g2
    exact S.env.apart j l es fs b g1 g2 g3 g4
  · have own_ne : ∀ {j : Nat} {es : List (NestedKey × D)}, (env.set i (some (.val (.lst ds))))[j]? = some (some (.dct es)) → i ≠ j := fun {j es} h q => by
      subst q
      rw [List.getElem?_set_self hi] at h; cases h
    rw [List.getElem?_set_ne (own_ne g1)] at g1
    rw [List.getElem?_set_ne (own_ne g2)] at g2
    exact S.env.apd j l es fs b g1 g2 g3 g4
/-- a living list is written -/
theorem SR.cell_write {F0 : Hp} {ρ0 : List Addr} (S : SR K B F H ρ σ env μ) (E : Ext F0 B ρ0 F H ρ) {c : Nat} {a : Addr} {ds es : List D} {ys : List V} (hρ : ρ[c]? = some a) (hμ : μ[c]? = some ds) (r : DrL K F ρ ys es) :
    SR K B F (upd H a (.lst ys)) ρ σ env (μ.set c es) ∧ Ext F0 B ρ0 F (upd H a (.lst ys)) ρ := by
  obtain ⟨fa, zs, ha, _⟩ := S.cells.at_ c a ds hρ hμ
  have hc : c < μ.length := (List.getElem?_eq_some_iff.mp hμ).1
  have ma : a ∈ ρ := List.mem_of_getElem? hρ
  refine ⟨⟨fun b u h => ?_, ⟨by rw [List.length_set]; exact S.cells.len, S.cells.nd, fun j b fs h1 h2 => ?_⟩, ⟨S.env.len, fun j sv h => ?_, S.env.apart, S.env.apd⟩⟩, ⟨E.ff, fun b u h n => ?_, fun b h => ?_, E.new, E.rr, E.rn⟩⟩
  · rw [upd_ne (ne_of_none h fa)]; exact S.fh b u h
  · by_cases q : c = j
    · subst q
      rw [List.getElem?_set_self hc] at h2
      cases h2
      rw [hρ] at h1
      cases h1
      exact ⟨fa, ys, upd_same, r⟩
    · rw [List.getElem?_set_ne q] at h2
      obtain ⟨z1, ws, z2, z3⟩ := S.cells.at_ j b fs h1 h2
      exact ⟨z1, ws, by rw [upd_ne (fun z => q (S.cells.nd c j a hρ (by rw [← z]; exact h1)))]; exact z2, z3⟩
  · obtain ⟨w, h1, h2⟩ := S.env.at_ j sv h
    refine ⟨w, h1, ?_⟩
    cases sv with
    | val d => exact h2
    | own fs =>
      obtain ⟨b, ws, rfl, k2, k3, k4, k5, k6⟩ := h2
      exact ⟨b, ws, rfl, by rw [upd_ne (fun z => k5 (by rw [z]; exact ma))]; exact k2, k3, k4, k5, k6⟩
    | dct fs =>
      obtain ⟨b, nes, P, w', rfl, k2, k3, k4, k5, k6⟩ := h2
      exact ⟨b, nes, P, w', rfl, by rw [upd_ne (fun z => k5 (by rw [z]; exact ma))]; exact k2, k3, k4, k5, k6⟩
  · have nb : b ≠ a := fun z => by
      subst z
      rcases E.rn b ma with z | z
      · exact n z
      · rw [z] at h; cases h
    rw [upd_ne nb]; exact E.hh b u h n
  · by_cases q : b = a
    · subst q; rw [upd_same]; exact fun z => nomatch z
    · rw [upd_ne q]; exact E.dm b h
end
/-! ### loops -/
theorem whN_mono {c : Env → Store → Option (Bool × Store)} {b : Env → Store → Option Fl} : ∀ {n : Nat} {env : Env} {μ : Store} {r : Fl}, whN c b n env μ = some r → whN c b (n + 1) env μ = some r
  | 0, _, _, _, h => by rw [whN] at h; cases h
  | n + 1, env, μ, r, h => by
    rw [whN] at h ⊢
    obtain ⟨⟨k, μ1⟩, h1, h2⟩ := Option.bind_eq_some_iff.mp h
    rw [h1]
    dsimp only [Option.bind_some] at h2 ⊢
    cases k with
    | false => exact h2
    | true =>
      rw [if_pos rfl] at h2 ⊢
      obtain ⟨fl, h3, h4⟩ := Option.bind_eq_some_iff.mp h2
      rw [h3]
      dsimp only [Option.bind_some] at h4 ⊢
      cases fl with
      | nx e m => exact whN_mono h4
      | ct e m => exact whN_mono h4
      | bk e m => exact h4
      | rt d m => exact h4
theorem whN_le {c : Env → Store → Option (Bool × Store)} {b : Env → Store → Option Fl} {n m : Nat} {env : Env} {μ : Store} {r : Fl} (h : whN c b n env μ = some r) (hm : n ≤ m) : whN c b m env μ = some r := by
  induction hm with
  | refl => exact h
  | step _ ih => exact whN_mono ih
theorem whS_some {c : Env → Store → Option (Bool × Store)} {b : Env → Store → Option Fl} {env : Env} {μ : Store} {r : Fl} : whS c b env μ = some r ↔ ∃ n, whN c b n env μ = some r := by
  unfold whS
  constructor
  · intro h
    split at h
    · rename_i q
      cases h
      exact ⟨_, Classical.choose_spec (Classical.choose_spec q)⟩
    · cases h
  · rintro ⟨n, h⟩
    have q : ∃ n r, whN c b n env μ = some r := ⟨n, r, h⟩
    rw [dif_pos q]
    have h2 := Classical.choose_spec (Classical.choose_spec q)
    have a := whN_le h2 (Nat.le_max_left _ n)
    have b' := whN_le h (Nat.le_max_right (Classical.choose q) n)
    rw [a] at b'
    exact b'
end Py
end
section
set_option Elab.async false
set_option linter.all false
set_option maxRecDepth 100000
set_option maxHeartbeats 4000000
namespace Py
open PySem L2 RZ
section
variable {C : MC} {Φ : FnS} {Γ : GlS} {k : Nat} {X : Cx} {sc : Scope}
theorem cells_ne {K : PySem.W.Frag} {F H : Hp} {ρ : List Addr} {μ : Store} (c : Cells K F H ρ μ) {a : Addr} (h : H a = none) : a ∉ ρ := fun z => by
  obtain ⟨i, hi, e⟩ := List.getElem_of_mem z
  have hi' := hi
  rw [c.len] at hi'
  obtain ⟨_, ys, z2, _⟩ := c.at_ i a _ (by rw [List.getElem?_eq_getElem hi, e]) (List.getElem?_eq_getElem hi')
  rw [h] at z2; cases z2
/-- new lists -/
def newF (Φ : FnS) (Γ : GlS) : E → Env → Store → Option (List D × Store)
  | .lst es, env, μ => (evs Φ Γ es env μ).bind fun (ds, μ1) => if ds.length ≤ SZ then some (ds, μ1) else none
  | .lc a t it c vs, env, μ => lcF Φ Γ a t it c vs env μ
  | .bi .list e es, env, μ => (ev Φ Γ e env μ).bind fun (x, μ1) => (evs Φ Γ es env μ1).bind fun (xs, μ2) => match xs with
    | [] => (itsS μ2 x).map fun ds => (ds, μ2)
    | _ => none
  | _, _, _ => none
theorem newF_ok {e : E} (hn : isNew e = true) {env : Env} {μ : Store} {r : D × Store} (h : ev Φ Γ e env μ = some r) : ∃ ds, r.1 = .lst ds ∧ newF Φ Γ e env μ = some (ds, r.2) := by
  cases e with
  | lst es =>
    rw [ev] at h
    obtain ⟨⟨ds, μ1⟩, h1, h2⟩ := Option.bind_eq_some_iff.mp h
    dsimp only at h2
    split at h2
    case isFalse => cases h2
    rename_i hz
    cases h2
    exact ⟨ds, rfl, by rw [newF, h1]; dsimp only [Option.bind_some]; rw [if_pos hz]⟩
  | lc a t it c vs =>
    rw [ev] at h
    obtain ⟨⟨ds, μ1⟩, h1, h2⟩ := Option.bind_eq_some_iff.mp h
    dsimp only at h2
    split at h2
    case isFalse => cases h2
    rename_i hz
    obtain ⟨⟨xs, μe⟩, h3, h4⟩ := Option.map_eq_some_iff.mp h2
    cases h4
    refine ⟨xs, rfl, ?_⟩
    rw [newF]
    unfold lcF
    rw [h1]
    dsimp only [Option.bind_some]
    rw [if_pos hz]
    exact h3
  | bi b e es =>
    cases b with
    | list =>
      rw [ev] at h
      obtain ⟨⟨x, μ1⟩, h1, h2⟩ := Option.bind_eq_some_iff.mp h
      obtain ⟨⟨xs, μ2⟩, h3, h4⟩ := Option.bind_eq_some_iff.mp h2
      obtain ⟨d, h5, h6⟩ := Option.map_eq_some_iff.mp h4
      cases h6
      cases xs with
      | nil =>
        unfold biS at h5
        obtain ⟨ds, h7, h8⟩ := Option.map_eq_some_iff.mp h5
        cases h8
        refine ⟨ds, rfl, ?_⟩
        rw [newF, h1]
        dsimp only [Option.bind_some]
        rw [h3]
        dsimp only [Option.bind_some]
        rw [h7]
        rfl
      | cons y ys => unfold biS at h5; cases h5
    | _ => cases hn
  | _ => cases hn
theorem peN (m : E) (e : Expr) (G : CG C Φ Γ k X sc) (h : mE C sc m e = true) (hn : isNew m = true) : PE X e (tN X.K (newF Φ Γ m)) := by
  cases m with
  | lst es =>
    obtain ⟨xs, p, rfl, h1⟩ := mE_lst h
    refine PE.imp (pe_lst (paEs es X sc xs G h1)) fun σ H Q q => ?_
    obtain ⟨B, F, ρ, env, μ, ds, μ', S, he, q⟩ := q
    rw [newF] at he
    obtain ⟨⟨ds', μ1⟩, h1, h2⟩ := Option.bind_eq_some_iff.mp he
    dsimp only at h2
    split at h2
    case isFalse => cases h2
    rename_i hz
    cases h2
    refine RE.go S h1 fun v F1 H1 ρ1 e1 S1 r1 => ⟨by rw [sz, r1.length]; exact hz, fun p hp => ?_⟩
    have fp := S1.fh.free hp
    have np := cells_ne S1.cells hp
    have hH : H p = none := by
      by_cases z : H p = none
      · exact z
      · exact absurd hp (e1.dm p z)
    obtain ⟨w1, w2, w3⟩ := write_ok (o := .lst v) e1 S1.fh S1.cells hH fp np
    exact q p F1 _ ρ1 v w1 w2 w3 upd_same hH fp np r1
  | lc a t it c vs =>
    obtain ⟨x, tg, iter, ifs, n, scope, p, rfl, ⟨⟨⟨⟨⟨rfl, h1⟩, h2⟩, h3⟩, h4⟩, h5⟩, h6⟩ := mE_lc h
    refine PE.imp (s_lc G h1 (fun j hj => by have := List.all_eq_true.mp h2 j hj; simpa using this) (folded_of (mI_noset h3)) (piI it X sc iter tg G h3)
      (fun s H Cc cl fp => pgT (G.blk (blk_kind h1) s H Cc cl fp) t tg h4) (fun s H Cc cl fp => pcEo c _ scope ifs (G.blk (blk_kind h1) s H Cc cl fp) h5) (fun s H Cc cl fp => peE a _ scope x (G.blk (blk_kind h1) s H Cc cl fp) h6)).1.2 fun σ H Q q => ?_
    obtain ⟨B, F, ρ, env, μ, ds, μ', S, he, q⟩ := q
    rw [newF] at he
    exact ⟨B, F, ρ, env, μ, ds, μ', S, he, q⟩
  | bi b a es =>
    cases b with
    | list =>
      obtain ⟨x, p2, y, ys, p, rfl, ⟨⟨rfl, h2⟩, h4⟩, h5⟩ := mE_bi h
      have ha := pa_two (peE a X sc y G h4) (mE_nostar h4).1 (paEs es X sc ys G h5)
      refine PE.imp (pe_bi .list (by have := G.room.un; omega) G.calm (G.gl h2) (G.bi (by decide +kernel)) ha (mE_nostar h4).1 (spliced_plain (mEs_nostar h5))) fun σ H Q q => ?_
      obtain ⟨B, F, ρ, env, μ, ds, μ', S, he, q⟩ := q
      rw [newF] at he
      obtain ⟨⟨dx, μ1⟩, g1, g2⟩ := Option.bind_eq_some_iff.mp he
      obtain ⟨⟨dl, μ2⟩, g3, g4⟩ := Option.bind_eq_some_iff.mp g2
      dsimp only at g4
      split at g4
      case h_2 => cases g4
      obtain ⟨es', g5, g6⟩ := Option.map_eq_some_iff.mp g4
      cases g6
      have g7 : evs Φ Γ (.cons a es) env μ = some ([dx], μ') := by
        rw [evs, g1]
        show Option.map _ (evs Φ Γ es env μ1) = _
        rw [g3]
        rfl
      refine RE.go S g7 fun v F1 H1 ρ1 e1 S1 r1 => ?_
      obtain ⟨w, rfl, rw1⟩ := DrL.one r1
      obtain ⟨a', ws, rfl, k3, k4, _⟩ := itsS_ok S1.fh S1.cells rw1 g5
      refine ⟨a', ws, rfl, k3, fun p hp => ?_⟩
      have fp := S1.fh.free hp
      have np := cells_ne S1.cells hp
      have hH : H p = none := by
        by_cases z : H p = none
        · exact z
        · exact absurd hp (e1.dm p z)
      obtain ⟨w1, w2, w3⟩ := write_ok (o := .lst ws) e1 S1.fh S1.cells hH fp np
      exact q p F1 _ ρ1 ws w1 w2 w3 upd_same hH fp np k4
    | _ => cases hn
  | _ => cases hn
/-! ### assignments -/
theorem s_asgLc {i : Nat} {a : E} {t : T} {it : I} {c : Eo} {vs : List Nat} {y : Str} {py p : Pos} {e : Expr} (G : CG C Φ Γ k X sc) (hi : C.N[i]? = some y) (hl : locB sc y = true) (h : mE C sc (.lc a t it c vs) e = true) :
    PS X (.Assign [.Name y py] e p) (tAsg (tN X.K (lcF Φ Γ a t it c vs)) (gName i)) := by
  obtain ⟨x, tg, iter, ifs, n, scope, cp, rfl, ⟨⟨⟨⟨⟨rfl, h1⟩, h2⟩, h3⟩, h4⟩, h5⟩, h6⟩ := mE_lc h
  have hs := folded_of (env := X.env) (mI_noset h3)
  have w1 := piI it X sc iter tg G h3
  have w2 := fun s H Cc cl fp => pgT (G.blk (blk_kind h1) s H Cc cl fp) t tg h4
  have w3 := fun s H Cc cl fp => pcEo c _ scope ifs (G.blk (blk_kind h1) s H Cc cl fp) h5
  have w4 := fun s H Cc cl fp => peE a _ scope x (G.blk (blk_kind h1) s H Cc cl fp) h6
  have L := s_lc (p := cp) G h1 (fun j hj => by have := List.all_eq_true.mp h2 j hj; simpa using this) hs w1 w2 w3 w4
  have e1 := swap_lc (elt := x) (gs := [⟨tg, iter, ifs, 0⟩]) (scope := scope) (pos := cp) (py := py) (y := y) (l := p.line) (env := X.env) G.kind
  obtain ⟨l1, l2⟩ := G.locv hl
  generalize hb : (X.env.kindOf y == some .local && py.line == cp.line && !(scope.names.any fun (n, k) => n == y && (k == .local || k == .cell))) = b at e1
  cases b with
  | true =>
    simp only [Bool.and_eq_true] at hb
    have hloc : X.env.scope.names.lookup y = some .local := (by simpa using hb.1.1 : X.env.kindOf y = some .local)
    exact PS.imp (ps_setLc G.calm G.nd (by rw [G.hN]; exact hi) hloc e1 w1 (G.blkOk h1) w2 w3 w4 hs) fun D σ H q => L.2.2 σ H _ q
  | false => exact ps_set G.nd (by rw [G.hN]; exact hi) l1 L.1.2 e1 l2
theorem lc_or (x : Expr) : (∃ elt gs scope pos, x = .ListComp elt gs scope pos) ∨ isLc x = false := by
  cases x <;> first | exact .inl ⟨_, _, _, _, rfl⟩ | exact .inr rfl
theorem mE_lc_form {m : E} {elt : Expr} {gs : List Comprehension} {scope : Scope} {pos : Pos} (h : mE C sc m (.ListComp elt gs scope pos) = true) : (∃ a t it c vs, m = .lc a t it c vs) ∨ ∃ i m', m = .bor i m' := by
  cases m <;> first | exact .inl ⟨_, _, _, _, _, rfl⟩ | exact .inr ⟨_, _, rfl⟩ | (exfalso; rw [mE] at h <;> first | cases h | (intros; contradiction))
/-- name = value, whatever its form -/
theorem s_asgName {i : Nat} {a : E} {y : Str} {py p : Pos} {x : Expr} (G : CG C Φ Γ k X sc) (hi : C.N[i]? = some y) (hl : locB sc y = true) (ha : mE C sc a x = true) (hk : asgOk (.Name y py) x = true) :
    PS X (.Assign [.Name y py] x p) (tAsg (tE X.K Φ Γ a) (gName i)) := by
  obtain ⟨l1, l2⟩ := G.locv hl
  rcases lc_or x with ⟨elt, gs, scope, pos, rfl⟩ | hx
  · rcases mE_lc_form ha with ⟨b, t, it, c, vs, rfl⟩ | ⟨j, m', rfl⟩
    · obtain ⟨x, tg, iter, ifs, n, scope', cp, e0, ⟨⟨⟨⟨⟨rfl, h1⟩, h2⟩, h3⟩, h4⟩, h5⟩, h6⟩ := mE_lc ha
      cases e0
      have L := s_lc (p := pos) G h1 (fun j hj => by have := List.all_eq_true.mp h2 j hj; simpa using this) (folded_of (mI_noset h3)) (piI it X sc iter tg G h3)
        (fun s H Cc cl fp => pgT (G.blk (blk_kind h1) s H Cc cl fp) t tg h4) (fun s H Cc cl fp => pcEo c _ scope ifs (G.blk (blk_kind h1) s H Cc cl fp) h5) (fun s H Cc cl fp => peE b _ scope elt (G.blk (blk_kind h1) s H Cc cl fp) h6)
      exact PS.imp (s_asgLc G hi hl ha) fun D σ H q => L.2.1 σ H _ q
    · -- a lent list's comprehension hands back a list: never flat
      refine ⟨fun pins s σ H D I q => ?_⟩
      exfalso
      obtain ⟨B, F, ρ, env, μ, d, μ', S, he, q⟩ := q
      have ha' := mE_bor ha
      rw [ev] at he
      obtain ⟨ds, h1, h2⟩ := Option.bind_eq_some_iff.mp he
      obtain ⟨⟨d', μ1⟩, h3, h4⟩ := Option.bind_eq_some_iff.mp h2
      dsimp only at h4
      split at h4
      case isFalse => cases h4
      rename_i hf
      rw [Bool.and_eq_true] at hf
      have key : ∀ (m : E), mE C sc m (.ListComp elt gs scope pos) = true → ∀ env μ r, ev Φ Γ m env μ = some r → noL r.1 = true → False := by
        intro m
        induction m using E.rec (motive_2 := fun _ => True) (motive_3 := fun _ => True) (motive_4 := fun _ => True) with
        | bor i e ih =>
          intro h env μ r hr hf
          rw [ev] at hr
          obtain ⟨ds, h1, h2⟩ := Option.bind_eq_some_iff.mp hr
          obtain ⟨⟨d', μ1⟩, h3, h4⟩ := Option.bind_eq_some_iff.mp h2
          dsimp only at h4
          split at h4
          case isFalse => cases h4
          rename_i hf'
          rw [Bool.and_eq_true] at hf'
          exact ih (mE_bor h) _ _ _ h3 hf'.1
        | lc a t it c vs =>
          intro h env μ r hr hf
          rw [ev] at hr
          obtain ⟨⟨ds, μ1⟩, h1, h2⟩ := Option.bind_eq_some_iff.mp hr
          dsimp only at h2
          split at h2
          case isFalse => cases h2
          obtain ⟨⟨xs, μe⟩, h3, h4⟩ := Option.map_eq_some_iff.mp h2
          cases h4
          cases hf
        | nil => trivial
        | cons => trivial
        | none => trivial
        | some => trivial
        | seq => trivial
        | rng1 => trivial
        | rng2 => trivial
        | zip => trivial
        | enum => trivial
        | rngD => trivial
        | _ => intro h; rw [mE] at h <;> first | cases h | (intros; contradiction)
      exact key m' ha' _ _ _ h3 hf.1
  · exact ps_set G.nd (by rw [G.hN]; exact hi) l1 (peE a X sc x G ha) (by
      have := swap_plain (l := p.line) (env := X.env) hk hx
      exact this) l2
end
end Py
end
section
set_option Elab.async false
set_option linter.all false
set_option maxRecDepth 100000
set_option maxHeartbeats 4000000
namespace Py
open PySem L2 RZ
section
variable {C : MC} {Φ : FnS} {Γ : GlS} {k : Nat} {X : Cx} {sc : Scope}
theorem dm_back {F H F' H' : Hp} {ρ ρ' : List Addr} (e : Ext F H ρ F' H' ρ') {p : Addr} (h : H' p = none) : H p = none := by
  by_cases z : H p = none
  · exact z
  · exact absurd h (e.dm p z)
theorem setV_eq {env env' : Env} {i : Nat} {d : D} (h : setV env i d = some env') : i < env.length ∧ env' = env.set i (some (.val d)) := by
  unfold setV at h
  split at h
  · cases h; exact ⟨‹_›, rfl⟩
  · cases h
theorem q_app {i : Nat} {a : E} {x : Str} {p1 p2 p3 p : Pos} {y : Expr} (G : CG C Φ Γ k X sc) (h1 : C.N[i]? = some x) (h2 : visB sc x = true) (h3 : okName x = true) (hl : (p2.endLine == p3.line) = true) (n1 : ∀ v p, y ≠ .Starred v p) (ha : PE X y (tE X.K Φ Γ a)) :
    PS X (.Expr (.Call (.Attribute (.Name x p1) "append" p2) [y] [] p3) p) (tS X.K Φ Γ (.app i a)) := by
  have hv : PE X (.Name x p1) (tVar i) := pe_var (by rw [G.hN]; exact h1) (G.vis h2) (okName_1 h3) (okName_2 h3)
  have hm := pe_bm (cpos := p3) (apos := p2) PySem.F.plainAttrs_list PySem.F.slot_list_append PySem.F.type_list_append mt_append hv (pa_cons ha pa_nil (starEach_cons n1)) rfl (by rw [starEach_cons n1]; rfl) hl (starEach_cons n1) rfl
  refine PS.imp (ps_expr hm) fun D σ H q => ?_
  obtain ⟨F0, B0, ρ0, F, ρ, env, μ, r, S, E0, he, q⟩ := q
  rw [ex] at he
  obtain ⟨⟨d, μ1⟩, g1, g2⟩ := Option.bind_eq_some_iff.mp he
  obtain ⟨ds, g3, g4⟩ := Option.bind_eq_some_iff.mp g2
  split at g4
  case isFalse => cases g4
  rename_i hz
  cases g4
  have ho := getO_eq g3
  obtain ⟨v, k1, al, xs, rfl, k2, k3, k4, k5, k6⟩ := S.env.at_ _ _ ho
  refine ⟨_, k1, .inl ⟨rfl, _, .inl (.inl k2)⟩, ?_⟩
  refine RE.go S g1 fun w F1 H1 ρ1 e1 S1 r1 => ?_
  obtain ⟨v', k1', al', xs', e0, j2, j3, j4, j5, j6⟩ := S1.env.at_ _ _ ho
  rw [k1] at k1'
  cases k1'
  cases e0
  refine ⟨al, xs', w, rfl, rfl, j2, by rw [sz, j3.length]; exact hz, ?_⟩
  have E1 := E0.trans e1
  have S2 := S1.own_write ho k1 j4 j5 j6 (j3.append (.cons r1 .nil))
  exact q σ F1 _ ρ1 S2 (write_ok E1 S1.fh S1.cells j6 j4 j5).1 e1.gr
theorem q_ext {i : Nat} {a : E} {x : Str} {p1 p2 p3 p : Pos} {y : Expr} (G : CG C Φ Γ k X sc) (h1 : C.N[i]? = some x) (h2 : visB sc x = true) (h3 : okName x = true) (hl : (p2.endLine == p3.line) = true) (n1 : ∀ v p, y ≠ .Starred v p) (ha : PE X y (tE X.K Φ Γ a)) :
    PS X (.Expr (.Call (.Attribute (.Name x p1) "extend" p2) [y] [] p3) p) (tS X.K Φ Γ (.ext i a)) := by
  have hv : PE X (.Name x p1) (tVar i) := pe_var (by rw [G.hN]; exact h1) (G.vis h2) (okName_1 h3) (okName_2 h3)
  have hm := pe_bm (cpos := p3) (apos := p2) PySem.F.plainAttrs_list PySem.F.slot_list_extend PySem.F.type_list_extend mt_extend hv (pa_cons ha pa_nil (starEach_cons n1)) rfl (by rw [starEach_cons n1]; rfl) hl (starEach_cons n1) rfl
  refine PS.imp (ps_expr hm) fun D σ H q => ?_
  obtain ⟨F0, B0, ρ0, F, ρ, env, μ, r, S, E0, he, q⟩ := q
  rw [ex] at he
  obtain ⟨⟨d, μ1⟩, g1, g2⟩ := Option.bind_eq_some_iff.mp he
  obtain ⟨ds, g3, g4⟩ := Option.bind_eq_some_iff.mp g2
  split at g4
  case h_2 => cases g4
  rename_i es
  split at g4
  case isFalse => cases g4
  rename_i hz
  cases g4
  have ho := getO_eq g3
  obtain ⟨v, k1, al, xs, rfl, k2, k3, k4, k5, k6⟩ := S.env.at_ _ _ ho
  refine ⟨_, k1, .inl ⟨rfl, _, .inl (.inl k2)⟩, ?_⟩
  refine RE.go S g1 fun w F1 H1 ρ1 e1 S1 r1 => ?_
  obtain ⟨v', k1', al', xs', e0, j2, j3, j4, j5, j6⟩ := S1.env.at_ _ _ ho
  rw [k1] at k1'
  cases k1'
  cases e0
  cases r1 with
  | lst u1 u2 =>
    rename_i b zs
    refine ⟨al, b, xs', zs, rfl, rfl, j2, S1.fh _ _ u1, by rw [sz, j3.length, u2.length]; exact hz, ?_⟩
    have E1 := E0.trans e1
    have S2 := S1.own_write ho k1 j4 j5 j6 (j3.append u2)
    exact q σ F1 _ ρ1 S2 (write_ok E1 S1.fh S1.cells j6 j4 j5).1 e1.gr
theorem q_expr {a : E} {x : Expr} {p : Pos} (hc : isCall x = true) (ha : PE X x (tE X.K Φ Γ a)) : PS X (.Expr x p) (tS X.K Φ Γ (.expr a)) := by
  refine PS.imp (ps_expr ha (by cases x <;> first | rfl | cases hc)) fun D σ H q => ?_
  obtain ⟨F0, B0, ρ0, F, ρ, env, μ, r, S, E0, he, q⟩ := q
  rw [ex] at he
  obtain ⟨⟨d, μ1⟩, g1, g2⟩ := Option.map_eq_some_iff.mp he
  cases g2
  exact RE.go S g1 fun w F1 H1 ρ1 e1 S1 r1 => q σ F1 H1 ρ1 S1 (E0.trans e1) e1.gr
theorem q_asg {t : T} {a : E} {tg x : Expr} {p : Pos} (G : CG C Φ Γ k X sc) (ht : mT C sc t tg = true) (ha : mE C sc a x = true) (hk : asgOk tg x = true) : PS X (.Assign [tg] x p) (tS X.K Φ Γ (.asg t a)) := by
  rcases lc_or x with ⟨elt, gs, scope, pos, rfl⟩ | hx
  · -- the target is a name
    cases tg with
    | Name y py =>
      unfold mT at ht
      split at ht <;> first | contradiction | skip
      rename_i i _ _ _ q; cases q
      simp only [Bool.and_eq_true, decide_eq_true_eq] at ht
      refine PS.imp (s_asgName G ht.1 ht.2 ha hk) fun D σ H q => ?_
      obtain ⟨F0, B0, ρ0, F, ρ, env, μ, r, S, E0, he, q⟩ := q
      rw [ex] at he
      obtain ⟨⟨d, μ1⟩, g1, g2⟩ := Option.bind_eq_some_iff.mp he
      obtain ⟨env', g3, g4⟩ := Option.map_eq_some_iff.mp g2
      cases g4
      rw [asgT] at g3
      obtain ⟨_, rfl⟩ := setV_eq g3
      exact RE.go S g1 fun w F1 H1 ρ1 e1 S1 r1 => q _ F1 H1 ρ1 (S1.setV r1) (E0.trans e1) e1.gr
    | _ => unfold asgOk at hk; cases hk
  · refine PS.imp (ps_asg (peE a X sc x G ha) (pgT G t tg ht) (swap_plain hk hx) (stores_plain hk) (by rw [assignEach_cons (mT_nostar ht)]; rfl)) fun D σ H q => ?_
    obtain ⟨F0, B0, ρ0, F, ρ, env, μ, r, S, E0, he, q⟩ := q
    rw [ex] at he
    obtain ⟨⟨d, μ1⟩, g1, g2⟩ := Option.bind_eq_some_iff.mp he
    obtain ⟨env', g3, g4⟩ := Option.map_eq_some_iff.mp g2
    cases g4
    exact RE.go S g1 fun w F1 H1 ρ1 e1 S1 r1 => ⟨B0, F1, ρ1, env, μ1, d, env', S1, r1, g3, fun σ' S' _ _ => q σ' F1 H1 ρ1 S' (E0.trans e1) e1.gr⟩
theorem newS_name {i : Nat} {a : E} {y : Str} {py p : Pos} {x : Expr} (G : CG C Φ Γ k X sc) (hi : C.N[i]? = some y) (hl : locB sc y = true) (ha : mE C sc a x = true) (hn : isNew a = true) :
    PS X (.Assign [.Name y py] x p) (tAsg (tN X.K (newF Φ Γ a)) (gName i)) := by
  obtain ⟨l1, l2⟩ := G.locv hl
  cases a with
  | lc b t it c vs =>
    refine PS.imp (s_asgLc G hi hl ha) fun D σ H q => ?_
    obtain ⟨B, F, ρ, env, μ, ds, μ', S, he, q⟩ := q
    rw [newF] at he
    exact ⟨B, F, ρ, env, μ, ds, μ', S, he, q⟩
  | lst es =>
    have hp := peN (Φ := Φ) (Γ := Γ) (k := k) (.lst es) x G ha hn
    obtain ⟨xs, p, rfl, _⟩ := mE_lst ha
    exact ps_set G.nd (by rw [G.hN]; exact hi) l1 hp rfl l2
  | bi b e es =>
    have hp := peN (Φ := Φ) (Γ := Γ) (k := k) (.bi b e es) x G ha hn
    obtain ⟨x, p2, y, ys, p, rfl, _⟩ := mE_bi ha
    exact ps_set G.nd (by rw [G.hN]; exact hi) l1 hp rfl l2
  | _ => cases hn
theorem q_asgN {i : Nat} {a : E} {y : Str} {py p : Pos} {x : Expr} (G : CG C Φ Γ k X sc) (hi : C.N[i]? = some y) (hl : locB sc y = true) (ha : mE C sc a x = true) (hn : isNew a = true) : PS X (.Assign [.Name y py] x p) (tS X.K Φ Γ (.asgN i a)) := by
  refine PS.imp (newS_name G hi hl ha hn) fun D σ H q => ?_
  obtain ⟨F0, B0, ρ0, F, ρ, env, μ, r, S, E0, he, q⟩ := q
  rw [ex] at he
  obtain ⟨⟨d, μ1⟩, g1, g2⟩ := Option.bind_eq_some_iff.mp he
  obtain ⟨ds, k1, k2⟩ := newF_ok hn g1
  dsimp only at k1 k2
  subst k1
  dsimp only at g2
  split at g2
  case isFalse => cases g2
  rename_i hlen
  cases g2
  refine ⟨B0, F, ρ, env, μ, ds, μ1, S, k2, fun p F' H' ρ' xs e s c h3 h4 h5 h6 r => ?_⟩
  have S1 := S.step e s c
  refine q _ F' H' ρ' (S1.own_new hlen h3 h5 h6 (dm_back E0 h4) (fun j fs hj hσ => ?_) r) (E0.trans e) e.gr
  obtain ⟨v, j1, al, ws, rfl, j2, _⟩ := S.env.at_ _ _ hj
  rw [hσ] at j1
  cases j1
  rw [h4] at j2
  cases j2
theorem not_cell {K : PySem.W.Frag} {F H : Hp} {ρ : List Addr} {μ : Store} (c : Cells K F H ρ μ) {p : Addr} (h : H p = none) : p ∉ ρ := fun hp => by
  obtain ⟨i, hi, e⟩ := List.getElem_of_mem hp
  have hi' : i < μ.length := by rw [← c.len]; exact hi
  obtain ⟨_, xs, h2, _⟩ := c.at_ i p μ[i] (by rw [List.getElem?_eq_getElem hi, e]) (List.getElem?_eq_getElem hi')
  rw [h] at h2; cases h2
theorem q_dNew {i : Nat} {y : Str} {py p1 p : Pos} (G : CG C Φ Γ k X sc) (hi : C.N[i]? = some y) (hl : locB sc y = true) : PS X (.Assign [.Name y py] (.Dict [] [] p1) p) (tS X.K Φ Γ (.dNew i)) := by
  obtain ⟨l1, l2⟩ := G.locv hl
  refine PS.imp (ps_set G.nd (by rw [G.hN]; exact hi) l1 (pe_nnew (X := X)) rfl l2) fun D σ H q => ?_
  obtain ⟨F0, B0, ρ0, F, ρ, env, μ, r, S, E0, he, q⟩ := q
  rw [ex] at he
  split at he
  case isFalse => cases he
  rename_i hlen
  cases he
  intro a ha
  have hF := S.fh.free ha
  have hρ := not_cell S.cells ha
  obtain ⟨w1, w2, w3⟩ := write_ok (o := dnO X.prog X.w a []) (Ext.refl (F := F) (H := H) (ρ := ρ)) S.fh S.cells ha hF hρ
  refine q _ F _ ρ ((S.step w1 w2 w3).dct_new hlen upd_same hF hρ (dm_back E0 ha) fun j fs hj hσ => ?_) (E0.trans w1) w1.gr
  obtain ⟨v, j1, al, nes, P, w, rfl, j2, _⟩ := S.env.at_ _ _ hj
  rw [hσ] at j1
  cases j1
  rw [ha] at j2
  cases j2
theorem q_dPut {i : Nat} {b a : E} {y : Str} {u z : Expr} {p2 p1 p : Pos} (G : CG C Φ Γ k X sc) (h1 : C.N[i]? = some y) (h2 : visB sc y = true) (h3 : okName y = true) (hs : sliceB u = false) (hk : asgOk (.Name "" ⟨0, 0, 0, 0⟩) z = true) (hlc : isLc z = false) (hb : PE X u (tE X.K Φ Γ b)) (ha : PE X z (tE X.K Φ Γ a)) :
    PS X (.Assign [.Subscript (.Name y p2) u p1] z p) (tS X.K Φ Γ (.dPut i b a)) := by
  have hv : PE X (.Name y p2) (tVar i) := pe_var (by rw [G.hN]; exact h1) (G.vis h2) (okName_1 h3) (okName_2 h3)
  refine PS.imp (ps_nput (by have := G.room.un; omega) hv hb ha (swap_sub hk hlc)) fun D σ H q => ?_
  obtain ⟨F0, B0, ρ0, F, ρ, env, μ, r, S, E0, he, q⟩ := q
  rw [ex] at he
  obtain ⟨⟨d, μ1⟩, g1, g2⟩ := Option.bind_eq_some_iff.mp he
  obtain ⟨⟨dk, μ2⟩, g3, g4⟩ := Option.bind_eq_some_iff.mp g2
  obtain ⟨kvs, g5, g6⟩ := Option.bind_eq_some_iff.mp g4
  obtain ⟨kk, g7, g8⟩ := Option.bind_eq_some_iff.mp g6
  split at g8
  case isFalse => cases g8
  rename_i hz
  cases g8
  refine RE.go S g1 fun v F1 H1 ρ1 e1 S1 r1 => ?_
  obtain ⟨a0, nes0, j1, _⟩ := dct_at S1 g5
  refine ⟨_, j1, RE.go S1 g3 fun w F2 H2 ρ2 e2 S2 r2 => ?_⟩
  obtain ⟨a1, nes, k1, k2, k3, k4, k5, k6, k7⟩ := dct_at S2 g5
  rw [j1] at k1; cases k1
  obtain ⟨b', rfl, m1, m2, m3⟩ := keyS_ok r2 g7
  refine ⟨_, b', nes, kk, _, _, rfl, rfl, rfl, rfl, k2, k3, NKey.mono S2.fh _ _ m1, m2, by rw [sz, kd_len k4]; exact hz, ?_⟩
  have E2 := (E0.trans e1).trans e2
  have S3 := S2.dct_write (getD_eq g5) j1 k2 k5 k6 k7 (kd_put k4 m1 m2 m3 (r1.ext e2))
  exact q σ F2 _ ρ2 S3 (write_ok E2 S2.fh S2.cells k7 k5 k6).1 (e1.gr.trans e2.gr)
theorem q_par {i j : Nat} {a b : E} {x y : Str} {px py p1 p2 p : Pos} {k1 k2 : Nat} {u v : Expr} (G : CG C Φ Γ k X sc) (hi : C.N[i]? = some x) (hj : C.N[j]? = some y) (hij : i ≠ j) (hx : lclB sc x = true) (hy : lclB sc y = true) (hl : px.line = py.line)
    (h1 : (foldedForSure 8 u && foldedForSure 8 v) = false) (h2 : (constantsAlone 8 u && constantsAlone 8 v) = false) (ha : mE C sc a u = true) (hb : mE C sc b v = true) :
    PS X (.Assign [.Tuple [.Name x px, .Name y py] k1 p1] (.Tuple [u, v] k2 p2) p) (tS X.K Φ Γ (.par i j a b)) := by
  have lx : X.env.scope.names.lookup x = some .local := by
    unfold lclB at hx
    split at hx
    · exact G.loc _ ‹_›
    · cases hx
  have ly : X.env.scope.names.lookup y = some .local := by
    unfold lclB at hy
    split at hy
    · exact G.loc _ ‹_›
    · cases hy
  have hxy : x ≠ y := fun z => hij (by
    have nd := G.nd
    rw [G.hN] at nd
    subst z
    exact nodup_ix nd hi hj)
  have n1 := (mE_nostar ha).1
  have n2 := (mE_nostar hb).1
  have hpa := pa_two (peE a X sc u G ha) n1 (pa_two (peE b X sc v G hb) n2 (pa_nil' (Φ := Φ) (Γ := Γ)))
  refine PS.imp (ps_par G.calm G.nd (by rw [G.hN]; exact hi) (by rw [G.hN]; exact hj) hij lx ly hpa (stores_par G.kind lx ly hxy hl n1 n2 h1 h2)) fun D σ H q => ?_
  obtain ⟨F0, B0, ρ0, F, ρ, env, μ, r, S, E0, he, q⟩ := q
  rw [ex] at he
  obtain ⟨⟨d, μ1⟩, g1, g2⟩ := Option.bind_eq_some_iff.mp he
  obtain ⟨⟨d2, μ2⟩, g3, g4⟩ := Option.bind_eq_some_iff.mp g2
  obtain ⟨env1, g5, g6⟩ := Option.bind_eq_some_iff.mp g4
  obtain ⟨env2, g7, g8⟩ := Option.map_eq_some_iff.mp g6
  cases g8
  obtain ⟨_, rfl⟩ := setV_eq g5
  obtain ⟨_, rfl⟩ := setV_eq g7
  have he2 : evs Φ Γ (.cons a (.cons b .nil)) env μ = some ([d, d2], μ2) := by
    rw [evs, g1]
    show Option.map _ (evs Φ Γ (.cons b .nil) env μ1) = _
    have : evs Φ Γ (.cons b .nil) env μ1 = some ([d2], μ2) := by
      rw [evs]
      simp only [g3, Option.bind_some]
      rw [evs]
      rfl
    rw [this]
    rfl
  refine RE.go S he2 fun ws F1 H1 ρ1 e1 S1 r1 => ?_
  obtain ⟨w1, w2, rfl, r2, r3⟩ := DrL.two r1
  exact ⟨w1, w2, rfl, q _ F1 H1 ρ1 ((S1.setV r2).setV r3) (E0.trans e1) e1.gr⟩
theorem q_aug {i : Nat} {op : Operator} {a : E} {x : Str} {p1 p : Pos} {y : Expr} (G : CG C Φ Γ k X sc) (hi : C.N[i]? = some x) (hl : locB sc x = true) (ha : PE X y (tE X.K Φ Γ a)) : PS X (.AugAssign (.Name x p1) op y p) (tS X.K Φ Γ (.aug i op a)) := by
  obtain ⟨l1, l2⟩ := G.locv hl
  have hi' : X.N[i]? = some x := by rw [G.hN]; exact hi
  cases op with
  | Add =>
    refine PS.imp (ps_aug G.nd hi' l1 ha ip_add l2) fun D σ H q => ?_
    obtain ⟨F0, B0, ρ0, F, ρ, env, μ, r, S, E0, he, q⟩ := q
    rw [ex] at he
    obtain ⟨dx, g1, g2⟩ := Option.bind_eq_some_iff.mp he
    obtain ⟨⟨dy, μ1⟩, g3, g4⟩ := Option.bind_eq_some_iff.mp g2
    dsimp only at g4
    split at g4
    · obtain ⟨env', g5, g6⟩ := Option.map_eq_some_iff.mp g4
      cases g6
      obtain ⟨_, rfl⟩ := setV_eq g5
      obtain ⟨v, k1, k2⟩ := S.env.at_ _ _ (getV_eq g1)
      have k2' : Dr X.K F ρ v (.int _) := k2
      cases k2'
      refine ⟨_, k1, RE.go S g3 fun w F1 H1 ρ1 e1 S1 r1 => ?_⟩
      cases r1
      exact ⟨_, _, rfl, rfl, q _ F1 H1 ρ1 (S1.setV (.int _)) (E0.trans e1) e1.gr⟩
    · contradiction
    · cases g4
  | Sub =>
    refine PS.imp (ps_aug G.nd hi' l1 ha ip_sub l2) fun D σ H q => ?_
    obtain ⟨F0, B0, ρ0, F, ρ, env, μ, r, S, E0, he, q⟩ := q
    rw [ex] at he
    obtain ⟨dx, g1, g2⟩ := Option.bind_eq_some_iff.mp he
    obtain ⟨⟨dy, μ1⟩, g3, g4⟩ := Option.bind_eq_some_iff.mp g2
    dsimp only at g4
    split at g4
    · contradiction
    · obtain ⟨env', g5, g6⟩ := Option.map_eq_some_iff.mp g4
      cases g6
      obtain ⟨_, rfl⟩ := setV_eq g5
      obtain ⟨v, k1, k2⟩ := S.env.at_ _ _ (getV_eq g1)
      have k2' : Dr X.K F ρ v (.int _) := k2
      cases k2'
      refine ⟨_, k1, RE.go S g3 fun w F1 H1 ρ1 e1 S1 r1 => ?_⟩
      cases r1
      exact ⟨_, _, rfl, rfl, q _ F1 H1 ρ1 (S1.setV (.int _)) (E0.trans e1) e1.gr⟩
    · cases g4
  | _ =>
    refine ⟨fun pins s σ H D I q => ?_⟩
    exfalso
    obtain ⟨F0, B0, ρ0, F, ρ, env, μ, r, S, E0, he, q⟩ := q
    rw [ex] at he
    obtain ⟨dx, g1, g2⟩ := Option.bind_eq_some_iff.mp he
    obtain ⟨⟨dy, μ1⟩, g3, g4⟩ := Option.bind_eq_some_iff.mp g2
    cases g4
theorem q_setm {o i a : E} {x y z : Expr} {p1 p : Pos} (G : CG C Φ Γ k X sc) (ho : mE C sc o x = true) (hi : mE C sc i y = true) (ha : mE C sc a z = true) (hs : sliceB y = false) (hk : asgOk (.Name "" ⟨0, 0, 0, 0⟩) z = true) (hlc : isLc z = false) :
    PS X (.Assign [.Subscript x y p1] z p) (tS X.K Φ Γ (.setm o i a)) := by
  have hk' : asgOk (.Subscript x y p1) z = true := by
    cases z <;> first | rfl | (unfold asgOk at hk; cases hk; done) | cases hlc
  have hg : PG X (.Subscript x y p1) (gSub (tE X.K Φ Γ o) (tE X.K Φ Γ i) rSetL) := pg_sub (peE o X sc x G ho) (peE i X sc y G hi) set_list (by cases y <;> first | exact fun _ => rfl | cases hs)
  refine PS.imp (ps_asg (peE a X sc z G ha) hg (swap_plain hk' hlc) (stores_plain hk') rfl) fun D σ H q => ?_
  obtain ⟨F0, B0, ρ0, F, ρ, env, μ, r, S, E0, he, q⟩ := q
  rw [ex] at he
  obtain ⟨⟨d, μ1⟩, g1, g2⟩ := Option.bind_eq_some_iff.mp he
  obtain ⟨⟨dx, μ2⟩, g3, g4⟩ := Option.bind_eq_some_iff.mp g2
  obtain ⟨⟨dy, μ3⟩, g5, g6⟩ := Option.bind_eq_some_iff.mp g4
  dsimp only at g6
  split at g6
  case h_2 => cases g6
  obtain ⟨ds, g7, g8⟩ := Option.bind_eq_some_iff.mp g6
  obtain ⟨j, g9, g10⟩ := Option.map_eq_some_iff.mp g8
  cases g10
  refine RE.go S g1 fun v F1 H1 ρ1 e1 S1 r1 => RE.go S1 g3 fun w F2 H2 ρ2 e2 S2 r2 => RE.go S2 g5 fun w' F3 H3 ρ3 e3 S3 r3 => ?_
  cases r3
  cases r2 with
  | mr hm =>
    have hm3 := e3.rr _ _ hm
    obtain ⟨_, xs, j2, j3⟩ := S3.cells.at_ _ _ _ hm3 g7
    obtain ⟨S4, E4⟩ := S3.cell_write (((E0.trans e1).trans e2).trans e3) hm3 g7 (j3.set j ((r1.ext e2).ext e3))
    exact ⟨_, xs, _, j, rfl, rfl, j2, by rw [j3.length]; exact g9, q σ F3 _ ρ3 S4 E4 ((e1.trans e2).trans e3).gr⟩
theorem q_ret {a : E} {x : Expr} {p : Pos} (ha : PE X x (tE X.K Φ Γ a)) : PS X (.Return (some x) p) (tS X.K Φ Γ (.ret a)) := by
  refine PS.imp (ps_ret ha) fun D σ H q => ?_
  obtain ⟨F0, B0, ρ0, F, ρ, env, μ, r, S, E0, he, q⟩ := q
  rw [ex] at he
  obtain ⟨⟨d, μ1⟩, g1, g2⟩ := Option.map_eq_some_iff.mp he
  cases g2
  exact RE.go S g1 fun w F1 H1 ρ1 e1 S1 r1 => q w F1 H1 ρ1 (E0.trans e1) S1.fh S1.cells r1
theorem q_if {c : E} {a b : List S} {x : Expr} {ys zs : List Stmt} {p : Pos} (hc : PT X x (tT X.K Φ Γ c)) (ha : PSs X ys (tSs X.K Φ Γ a)) (hb : PSs X zs (tSs X.K Φ Γ b)) : PS X (.If x ys zs p) (tS X.K Φ Γ (.iff c a b)) := by
  refine PS.imp (ps_if hc ha hb) fun D σ H q => ?_
  obtain ⟨F0, B0, ρ0, F, ρ, env, μ, r, S, E0, he, q⟩ := q
  rw [ex] at he
  obtain ⟨⟨k, μ1⟩, g1, g2⟩ := Option.bind_eq_some_iff.mp he
  refine RE.go S g1 fun w F1 H1 ρ1 e1 S1 r1 => ?_
  cases r1
  dsimp only at g2
  cases k with
  | true => exact iteT ⟨F0, B0, ρ0, F1, ρ1, env, μ1, r, S1, E0.trans e1, by rw [if_pos rfl] at g2; exact g2, q.grow e1.gr⟩
  | false => exact iteF ⟨F0, B0, ρ0, F1, ρ1, env, μ1, r, S1, E0.trans e1, by rw [if_neg Bool.false_ne_true] at g2; exact g2, q.grow e1.gr⟩
theorem q_while {c : E} {b : List S} {x : Expr} {ys : List Stmt} {p : Pos} (hp : PassesOwn (model X.prog X.w) X.A X.env X.xe) (hc : PT X x (tT X.K Φ Γ c)) (hb : PSs X ys (tSs X.K Φ Γ b)) : PS X (.While x ys [] p) (tS X.K Φ Γ (.wh c b)) := by
  refine PS.imp (ps_while hp hc hb) fun D σ H q => ?_
  obtain ⟨F0, B0, ρ0, F, ρ, env, μ, r, S, E0, he, q⟩ := q
  rw [ex] at he
  obtain ⟨n, hn⟩ := whS_some.mp he
  have Wd : Nat → L2.St → Hp → Prop := fun m σ H => True
  refine ⟨fun m σ H => ∃ F1 ρ1 env μ, SR X.K B0 F1 H ρ1 σ env μ ∧ Ext F0 B0 ρ0 F1 H ρ1 ∧ Gr F ρ F1 ρ1 ∧ whN (fun env' μ' => evT Φ Γ c env' μ') (fun env' μ' => exs Φ Γ b env' μ') m env μ = some r, ⟨n, F, ρ, env, μ, S, E0, .refl, hn⟩, ?_⟩
  rintro m σ H ⟨F', ρ', env, μ, S, E, gr, h⟩
  cases m with
  | zero => rw [whN] at h; cases h
  | succ m =>
    rw [whN] at h
    obtain ⟨⟨k, μ1⟩, g1, g2⟩ := Option.bind_eq_some_iff.mp h
    refine RE.go S g1 fun w F1 H1 ρ1 e1 S1 r1 => ?_
    cases r1
    dsimp only at g2
    have E1 := E.trans e1
    have gr1 := gr.trans e1.gr
    cases k with
    | false =>
      rw [if_neg Bool.false_ne_true] at g2
      cases g2
      exact iteF (q σ F1 H1 ρ1 S1 E1 gr1)
    | true =>
      rw [if_pos rfl] at g2
      obtain ⟨fl, g3, g4⟩ := Option.bind_eq_some_iff.mp g2
      refine iteT ⟨fun σ H => ∃ F1 ρ1 env μ, SR X.K B0 F1 H ρ1 σ env μ ∧ Ext F0 B0 ρ0 F1 H ρ1 ∧ Gr F ρ F1 ρ1 ∧ whN (fun env' μ' => evT Φ Γ c env' μ') (fun env' μ' => exs Φ Γ b env' μ') m env μ = some r, fun σ' H' h' => ⟨m, Nat.lt_succ_self m, h'⟩, F0, B0, ρ0, F1, ρ1, env, μ1, fl, S1, E1, g3, ?_⟩
      cases fl with
      | nx e μ' => exact fun σ' F' H' ρ' S' E' G' => ⟨F', ρ', _, _, S', E', gr1.trans G', g4⟩
      | ct e μ' => exact fun σ' F' H' ρ' S' E' G' => ⟨F', ρ', _, _, S', E', gr1.trans G', g4⟩
      | bk e μ' => cases g4; exact fun σ' F' H' ρ' S' E' G' => q σ' F' H' ρ' S' E' (gr1.trans G')
      | rt d μ' => cases g4; exact fun v F' H' ρ' E' s' c' r' => q v F' H' ρ' E' s' c' r'
theorem q_for {t : T} {it : I} {b : List S} {tg x : Expr} {ys : List Stmt} {p : Pos} (G : CG C Φ Γ k X sc) (hp : PassesOwn (model X.prog X.w) X.A X.env X.xe) (ht : mT C sc t tg = true) (hi : mI C sc it x (isTup tg) = true) (hb : PSs X ys (tSs X.K Φ Γ b)) : PS X (.For tg x ys [] p) (tS X.K Φ Γ (.for t it b)) := by
  refine PS.imp (ps_for hp G.calm (piI it X sc x tg G hi) (pgT G t tg ht) hb (folded_of (mI_noset hi))) fun D σ H q => ?_
  obtain ⟨F0, B0, ρ0, F, ρ, env, μ, r, S, E0, he, q⟩ := q
  rw [ex] at he
  obtain ⟨⟨ds, μ1⟩, g1, g2⟩ := Option.bind_eq_some_iff.mp he
  refine RE.go S g1 fun J F1 H1 ρ1 e1 S1 r1 => ?_
  obtain ⟨G', Y, W, hG, hY⟩ := r1
  refine for_it W (fun i σ H => ∃ F2 ρ2 env2 μ2, SR X.K B0 F2 H ρ2 σ env2 μ2 ∧ Ext F0 B0 ρ0 F2 H ρ2 ∧ Gr F1 ρ1 F2 ρ2 ∧ forS t (fun env' μ' => exs Φ Γ b env' μ') (ds.drop i) env2 μ2 = some r) ?_ ?_ ?_ ?_
  · exact ⟨F1, ρ1, env, μ1, S1, E0.trans e1, .refl, g2⟩
  · rintro i σ H _ ⟨F2, ρ2, env2, μ2, S2, E2, s2, _⟩
    exact hG F2 H s2.ff S2.fh
  · rintro i y σ H H' hi' ⟨F2, ρ2, env2, μ2, S2, E2, gr, hf⟩ hy
    obtain ⟨F3, dx, P, k1, k2⟩ := hY i y H H' F2 hi' gr.ff S2.fh hy
    have hdrop : ds.drop i = dx :: ds.drop (i + 1) := by
      have hlt : i < ds.length := hi'
      rw [List.drop_eq_getElem_cons hlt]
      rw [List.getElem?_eq_getElem hlt] at k1
      cases k1
      rfl
    rw [hdrop, forS] at hf
    obtain ⟨env1, u1, u2⟩ := Option.bind_eq_some_iff.mp hf
    obtain ⟨fl, u3, u4⟩ := Option.bind_eq_some_iff.mp u2
    have S3 := S2.px P
    have E3 := E2.trans (P.ext (ρ := ρ2))
    have gr3 : Gr F1 ρ1 F3 ρ2 := gr.trans ⟨P.ff, fun _ _ h => h⟩
    refine ⟨B0, F3, ρ2, env2, μ2, dx, env1, S3, k2 ρ2 gr.rr, u1, fun σ2 S4 _ _ => ⟨F0, B0, ρ0, F3, ρ2, env1, μ2, fl, S4, E3, u3, ?_⟩⟩
    cases fl with
    | nx e μ' => exact fun σ' F' H' ρ' S' E' G' => ⟨F', ρ', _, _, S', E', gr3.trans G', u4⟩
    | ct e μ' => exact fun σ' F' H' ρ' S' E' G' => ⟨F', ρ', _, _, S', E', gr3.trans G', u4⟩
    | bk e μ' => cases u4; exact fun σ' F' H' ρ' S' E' G' => q σ' F' H' ρ' S' E' ((e1.gr.trans gr3).trans G')
    | rt d μ' => cases u4; exact fun v F' H' ρ' E' s' c' r' => q v F' H' ρ' E' s' c' r'
  · rintro σ H ⟨F2, ρ2, env2, μ2, S2, E2, gr, hf⟩
    rw [List.drop_length, forS] at hf
    cases hf
    exact q σ F2 H ρ2 S2 E2 (e1.gr.trans gr)
/-! ### all statements -/
mutual
theorem psS (G : CG C Φ Γ k X sc) (hp : PassesOwn (model X.prog X.w) X.A X.env X.xe) : ∀ (s : S) (e : Stmt), mS C sc s e = true → PS X e (tS X.K Φ Γ s)
  | .app i a, e, h => by
    obtain ⟨x, p1, m, p2, y, p3, p, rfl, ⟨⟨⟨⟨h1, h2⟩, h3⟩, rfl⟩, h4⟩, h5⟩ := mS_app h
    exact q_app G h1 h2 h3 h4 (mE_nostar h5).1 (peE a X sc y G h5)
  | .expr a, e, h => by
    obtain ⟨x, p, rfl, h1, h2⟩ := mS_expr h
    exact q_expr h1 (peE a X sc x G h2)
  | .asg t a, e, h => by
    obtain ⟨tg, x, p, rfl, ⟨h1, h2⟩, h3⟩ := mS_asg h
    exact q_asg G h1 h2 h3
  | .asgN i a, e, h => by
    obtain ⟨y, py, x, p, rfl, ⟨h1, h2⟩, h3⟩ := mS_asgN h
    unfold mT at h1
    simp only [Bool.and_eq_true, decide_eq_true_eq] at h1
    exact q_asgN G h1.1 h1.2 h2 h3
  | .par i j a b, e, h => by
    obtain ⟨x, px, y, py, k1, p1, u, v, k2, p2, p, rfl, ⟨⟨⟨⟨⟨⟨⟨⟨h1, h2⟩, h3⟩, h4⟩, h5⟩, h6⟩, h7⟩, h8⟩, h9⟩, h10⟩ := mS_par h
    exact q_par G h1 h2 h3 h4 h5 h6 h9 h10 h7 h8
  | .aug i op a, e, h => by
    obtain ⟨x, p1, o, y, p, rfl, ⟨⟨h1, h2⟩, rfl⟩, h3⟩ := mS_aug h
    exact q_aug G h1 h2 (peE a X sc y G h3)
  | .setm o i a, e, h => by
    obtain ⟨x, y, p1, z, p, rfl, ⟨⟨⟨⟨h1, h2⟩, h3⟩, h4⟩, h5⟩, h6⟩ := mS_setm h
    exact q_setm G h1 h2 h3 h4 h5 h6
  | .ext i a, e, h => by
    obtain ⟨x, p1, m, p2, y, p3, p, rfl, ⟨⟨⟨⟨h1, h2⟩, h3⟩, rfl⟩, h4⟩, h5⟩ := mS_ext h
    exact q_ext G h1 h2 h3 h4 (mE_nostar h5).1 (peE a X sc y G h5)
  | .dNew i, e, h => by
    obtain ⟨y, py, p1, p, rfl, h1⟩ := mS_dNew h
    unfold mT at h1
    simp only [Bool.and_eq_true, decide_eq_true_eq] at h1
    exact q_dNew G h1.1 h1.2
  | .dPut i b a, e, h => by
    obtain ⟨y, p2, u, p1, z, p, rfl, ⟨⟨⟨⟨⟨⟨h1, h2⟩, h3⟩, h4⟩, h5⟩, h6⟩, h7⟩, h8⟩ := mS_dPut h
    exact q_dPut G h1 h2 h3 h6 h7 h8 (peE b X sc u G h4) (peE a X sc z G h5)
  | .ret a, e, h => by
    obtain ⟨x, p, rfl, h1⟩ := mS_ret h
    exact q_ret (peE a X sc x G h1)
  | .retN, e, h => by
    obtain ⟨p, rfl⟩ := mS_retN h
    refine PS.imp ps_retN fun D σ H q => ?_
    obtain ⟨F0, B0, ρ0, F, ρ, env, μ, r, S, E0, he, q⟩ := q
    rw [ex] at he; cases he
    exact q _ F H ρ E0 S.fh S.cells .non
  | .iff c a b, e, h => by
    obtain ⟨x, ys, zs, p, rfl, ⟨h1, h2⟩, h3⟩ := mS_iff h
    exact q_if (ptE c X sc x G h1) (pssS G hp a ys h2) (pssS G hp b zs h3)
  | .wh c b, e, h => by
    obtain ⟨x, ys, p, rfl, h1, h2⟩ := mS_wh h
    exact q_while hp (ptE c X sc x G h1) (pssS G hp b ys h2)
  | .for t it b, e, h => by
    obtain ⟨tg, x, ys, p, rfl, ⟨h1, h2⟩, h3⟩ := mS_for h
    exact q_for G hp h1 h2 (pssS G hp b ys h3)
  | .brk, e, h => by
    obtain ⟨p, rfl⟩ := mS_brk h
    refine PS.imp ps_break fun D σ H q => ?_
    obtain ⟨F0, B0, ρ0, F, ρ, env, μ, r, S, E0, he, q⟩ := q
    rw [ex] at he; cases he
    exact q _ F H ρ S E0 .refl
  | .cont, e, h => by
    obtain ⟨p, rfl⟩ := mS_cont h
    refine PS.imp ps_continue fun D σ H q => ?_
    obtain ⟨F0, B0, ρ0, F, ρ, env, μ, r, S, E0, he, q⟩ := q
    rw [ex] at he; cases he
    exact q _ F H ρ S E0 .refl
  | .pass, e, h => by
    obtain ⟨p, rfl⟩ := mS_pass h
    refine PS.imp ps_pass fun D σ H q => ?_
    obtain ⟨F0, B0, ρ0, F, ρ, env, μ, r, S, E0, he, q⟩ := q
    rw [ex] at he; cases he
    exact q _ F H ρ S E0 .refl
  | .frz i s, e, h => by
    refine PS.imp (psS G hp s e (mS_frz h)) fun D σ H q => ?_
    obtain ⟨F0, B0, ρ0, F, ρ, env, μ, r, S, E0, he, q⟩ := q
    rw [ex] at he
    obtain ⟨ds, h1, h2⟩ := Option.bind_eq_some_iff.mp he
    obtain ⟨F1, S1, E1, g1⟩ := S.freeze E0 h1
    exact ⟨F0, B0, ρ0, F1, ρ, _, μ, r, S1, E1, h2, q.grow g1⟩
theorem pssS (G : CG C Φ Γ k X sc) (hp : PassesOwn (model X.prog X.w) X.A X.env X.xe) : ∀ (s : List S) (e : List Stmt), mSs C sc s e = true → PSs X e (tSs X.K Φ Γ s)
  | [], [], _ => by
    refine PSs.imp pss_nil fun D σ H q => ?_
    obtain ⟨F0, B0, ρ0, F, ρ, env, μ, r, S, E0, he, q⟩ := q
    rw [exs] at he; cases he
    exact q _ F H ρ S E0 .refl
  | s :: ss, e :: es, h => by
    rw [mSs, Bool.and_eq_true] at h
    refine PSs.imp (pss_cons (psS G hp s e h.1) (pssS G hp ss es h.2)) fun D σ H q => ?_
    obtain ⟨F0, B0, ρ0, F, ρ, env, μ, r, S, E0, he, q⟩ := q
    rw [exs] at he
    obtain ⟨fl, g1, g2⟩ := Option.bind_eq_some_iff.mp he
    refine ⟨F0, B0, ρ0, F, ρ, env, μ, fl, S, E0, g1, ?_⟩
    cases fl with
    | nx e' m' => exact fun σ' F' H' ρ' S' E' G' => ⟨F0, B0, ρ0, F', ρ', _, _, r, S', E', g2, q.grow G'⟩
    | bk e' m' => cases g2; exact q
    | ct e' m' => cases g2; exact q
    | rt d m' => cases g2; exact q
  | [], _ :: _, h => by rw [mSs] at h <;> first | cases h | (intros; contradiction)
  | _ :: _, [], h => by rw [mSs] at h <;> first | cases h | (intros; contradiction)
end
end
end Py
end
section
set_option Elab.async false
set_option linter.all false
set_option maxRecDepth 100000
set_option maxHeartbeats 4000000
namespace Py
open PySem L2 RZ
/-- a def of the text: its name, its slots' names (the parameters first), its syntax, its statement -/
structure PF where
  name : Str
  N : List Str
  fn : Fn
  st : Stmt
def PF.ps (p : PF) : List Str := p.N.take p.fn.ar
/-- what is looked at by the kernel -/
def PF.ok (names gls : List Str) (p : PF) : Bool :=
  mSs ⟨p.N, names, gls⟩ (defScope p.st) p.fn.body (defBody p.st) && decide ((defScope p.st).kind = .function) && (defScope p.st).isCoroutine == false && (defScope p.st).isGenerator == false &&
    decide p.N.Nodup && (p.N.take p.fn.ar).all (fun x => locB (defScope p.st) x) && (defScope p.st).names.all (fun y => decide (y.2 ≠ .free)) && decide (p.fn.ar ≤ p.N.length) && decide (p.fn.sl = p.N.length)
theorem PF.scope {names gls : List Str} {p : PF} (h : p.ok names gls = true) : FnScope p.N p.ps (defScope p.st) ∧ mSs ⟨p.N, names, gls⟩ (defScope p.st) p.fn.body (defBody p.st) = true ∧ p.fn.ar ≤ p.N.length ∧ p.fn.sl = p.N.length := by
  unfold PF.ok at h
  simp only [Bool.and_eq_true, decide_eq_true_eq, beq_iff_eq] at h
  obtain ⟨⟨⟨⟨⟨⟨⟨⟨h1, h2⟩, h3⟩, h4⟩, h5⟩, h6⟩, h7⟩, h8⟩, h9⟩ := h
  refine ⟨⟨h2, h3, h4, h5, ?_, fun x hx => ?_, fun y hy => ?_⟩, h1, h8, h9⟩
  · unfold PF.ps
    rw [List.length_take, Nat.min_eq_left h8]
  · have := List.all_eq_true.mp h6 x hx
    unfold locB at this
    split at this
    · exact .inl ‹_›
    · exact .inr ‹_›
    · cases this
  · have := List.all_eq_true.mp h7 y hy
    simpa using this
theorem ps_len {names gls : List Str} {p : PF} (h : p.ok names gls = true) : p.ps.length = p.fn.ar := by
  have := (PF.scope h).2.2.1
  unfold PF.ps
  rw [List.length_take, Nat.min_eq_left this]
section
variable {P : Program} {w : World} {K : PySem.W.Frag} {mg : Str → Option Value} {base : Heap}
/-- where a def stands -/
structure PFact (K : PySem.W.Frag) (mg : Str → Option Value) (p : PF) (fa : Addr) (fd : FuncData) : Prop where
  mgf : mg p.name = some (.ref fa)
  fun_ : FunD K p.name p.name (defArgs p.st) (defBody p.st) (defScope p.st) [] [] fa fd
  bnd : Binds K fd p.ps []
theorem start_env {names gls : List Str} {p : PF} (h : p.ok names gls = true) {F H : Hp} {ρ : List Addr} {μ : Store} {vs : List V} {ds : List D} (fh : Same F H) (c : Cells K F H ρ μ) (r : DrL K F ρ vs ds) (hl : ds.length = p.fn.ar) :
    SR K H F H ρ (L2.start p.N vs) (ds.map (fun d => some (SV.val d)) ++ List.replicate (p.fn.sl - p.fn.ar) none) μ := by
  obtain ⟨_, _, h8, h9⟩ := PF.scope h
  have hv : vs.length = p.fn.ar := r.length.trans hl
  have get : ∀ (i : Nat) (sv : SV), (ds.map (fun d => some (SV.val d)) ++ List.replicate (p.fn.sl - p.fn.ar) none)[i]? = some (some sv) → ∃ d, ds[i]? = some d ∧ sv = .val d := fun i sv g => by
    by_cases hi : i < ds.length
    · rw [List.getElem?_append_left (by simpa using hi), List.getElem?_map, List.getElem?_eq_getElem hi] at g
      cases g
      exact ⟨_, List.getElem?_eq_getElem hi, rfl⟩
    · rw [List.getElem?_append_right (by simpa using hi), List.getElem?_replicate] at g
      split at g <;> cases g
  refine ⟨fh, c, ⟨?_, fun i sv g => ?_, fun i j es fs a g1 g2 _ _ => ?_, fun i j es fs a g1 g2 _ _ => ?_⟩⟩
  · unfold L2.start
    rw [List.length_append, List.length_append, List.length_map, List.length_map, List.length_replicate, List.length_replicate, hv, hl]
    omega
  · obtain ⟨d, g1, rfl⟩ := get i sv g
    obtain ⟨v, g2, g3⟩ := r.get g1
    refine ⟨v, ?_, g3⟩
    unfold L2.start
    have hi : i < vs.length := (List.getElem?_eq_some_iff.mp g2).1
    rw [List.getElem?_append_left (by simpa using hi), List.getElem?_map, g2]
    rfl
  · obtain ⟨d, _, e⟩ := get i _ g1
    cases e
  · obtain ⟨d, _, e⟩ := get i _ g1
    cases e
theorem prog_ok (pfs : List PF) (gls : List Str) (Γ : GlS) (hchk : pfs.all (fun p => p.ok (pfs.map (·.name)) gls) = true) (hf : ∀ p ∈ pfs, ∃ fa fd, PFact K mg p fa fd)
    (hg : ∀ g x d, gls[g]? = some x → Γ g = some d → ∃ v u, mg x = some u ∧ RelV v u ∧ ∀ F ρ, Dr K F ρ v d) (hb : ∀ x ∈ biAll, mg x = none) :
    ∀ (k i : Nat) (p : PF), pfs[i]? = some p → ∀ fa fd, PFact K mg p fa fd → FnOk P w K mg base CX0 k fa fd p.ps (spF K (run (pfs.map (·.fn)) Γ k i))
  | 0, i, p, hi, fa, fd, T => by
    have no : ∀ vs H Q E, ¬ spF K (run (pfs.map (·.fn)) Γ 0 i) vs H Q E := fun vs H Q E ⟨F, ρ, μ, ds, d, μ', _, _, _, h, _⟩ => by rw [run] at h; cases h
    exact ⟨fun vs H Q E h => (no vs H Q E h).elim, fun A outer s H args us vs Q E _ _ _ _ h => (no vs H Q E h).elim⟩
  | k + 1, i, p, hi, fa, fd, T => by
    have ih := prog_ok pfs gls Γ hchk hf hg hb k
    have hp := List.all_eq_true.mp hchk p (List.mem_of_getElem? hi)
    obtain ⟨hS, hm, h8, h9⟩ := PF.scope hp
    have hfn : (pfs.map (·.fn))[i]? = some p.fn := by rw [List.getElem?_map, hi]; rfl
    refine T.fun_.ok hS (fun vs H Q E h => ?_) fun cdv A outer s H vs Q E hr h => ?_
    · obtain ⟨F, ρ, μ, ds, d, μ', _, _, h3, h4, _⟩ := h
      rw [run, hfn] at h4
      dsimp only [Option.bind_some] at h4
      split at h4
      · rename_i hl
        rw [ps_len hp, h3.length, hl]
      · cases h4
    · obtain ⟨F, ρ, μ, ds, d, μ', fh, c, r, h4, q⟩ := h
      rw [run, hfn] at h4
      dsimp only [Option.bind_some] at h4
      split at h4
      case isFalse => cases h4
      rename_i hl
      obtain ⟨fl, h5, h6⟩ := Option.bind_eq_some_iff.mp h4
      have G : CG ⟨p.N, pfs.map (·.name), gls⟩ (run (pfs.map (·.fn)) Γ k) Γ k (cxOf CX0 P w K mg base p.N p.name (defScope p.st) fa cdv A outer s H E).nox (defScope p.st) :=
        { hN := rfl, nd := hS.nd, calm := rfl, room := hr, loc := fun _ h => h, cel := fun _ h => h, fre := fun _ h => .inr h, glo := fun _ h => h, kind := hS.kind, cfn := fun _ _ => rfl
          fns := fun f x hx => by
            rw [List.getElem?_map] at hx
            obtain ⟨pf, h1, h2⟩ := Option.map_eq_some_iff.mp hx
            obtain ⟨fa', fd', T'⟩ := hf pf (List.mem_of_getElem? h1)
            exact ⟨fa', fd', pf.ps, by rw [← h2]; exact T'.mgf, T'.fun_.kp, ih f pf h1 fa' fd' T', T'.bnd⟩
          gls := hg
          bis := hb }
      refine ⟨_, (pssS G PassesOwn.never p.fn.body _ hm).nox, F, H, ρ, F, ρ, _, μ, fl, start_env hp fh c r hl, .refl, h5, ?_⟩
      cases fl with
      | nx e m =>
        cases h6
        exact fun σ' F' H' ρ' S' E' _ => q _ F' H' ρ' E' S'.fh S'.cells .non
      | rt d' m =>
        cases h6
        exact fun v F' H' ρ' E' s' c' r' => q v F' H' ρ' E' s' c' r'
      | bk e m => cases h6
      | ct e m => cases h6
end
end Py
end
section
set_option Elab.async false
set_option linter.all false
set_option maxRecDepth 100000
set_option maxHeartbeats 4000000
namespace Py
open PySem L2 RZ
/-! ### from the head's facts -/
def dOf (p : PF) : He.DefD := ⟨(p.name, none), p.name, p.name, defArgs p.st, defBody p.st, defScope p.st, [], []⟩
def faOf (pfs : List PF) : List He.Fa := pfs.map (fun p => .glo p.name) ++ biAll.map .free
def BindOk (p : PF) : Prop := ∀ (kV doc pm : Value) (an : Option Addr) (cdv ct : Value) (us : List Value), us.length = p.ps.length →
  bindArgs (PySem.W.fnOf p.name p.name (defArgs p.st) (defBody p.st) (defScope p.st) .none kV doc pm an cdv ct) ⟨us, []⟩ = pure (p.ps.zip us)
section
variable {K : PySem.W.Frag} {h : Heap} {mg : Str → Option Value}
theorem facts_of {pfs : List PF} (c : He.SaysD (faOf pfs) (pfs.map dOf) K) (X : K.In h) (G : h.Ns mainGlobals mg) (hb : ∀ p ∈ pfs, BindOk p) :
    (∀ (i : Nat) (p : PF), pfs[i]? = some p → ∃ fd, PFact K mg p (He.ga K p.name) fd) ∧ ∀ x ∈ biAll, mg x = none := by
  constructor
  · intro i p hi
    have h1 : (pfs.map dOf)[i]? = some (dOf p) := by rw [List.getElem?_map, hi]; rfl
    obtain ⟨fd, F⟩ := c.def_ i h1
    have hlt : i < pfs.length := (List.getElem?_eq_some_iff.mp hi).1
    have h2 : (faOf pfs)[i]? = some (.glo p.name) := by
      unfold faOf
      rw [List.getElem?_append_left (by simpa using hlt), List.getElem?_map, hi]
      rfl
    exact ⟨fd, He.glo_ok X G (c.fact i h2), F, FunD.bindsN F (hb p (List.mem_of_getElem? hi))⟩
  · intro x hx
    obtain ⟨j, hj, e⟩ := List.getElem_of_mem hx
    have h2 : (faOf pfs)[pfs.length + j]? = some (.free x) := by
      unfold faOf
      rw [List.getElem?_append_right (by simp), List.length_map, Nat.add_sub_cancel_left, List.getElem?_map, List.getElem?_eq_getElem hj, e]
      rfl
    exact He.free_ok X G (c.fact _ h2)
end
/-- the law's own promise, from the run upon data -/
theorem law_sp {K : PySem.W.Frag} {φ : List D → Store → Option (D × Store)} (hφ : ∀ ns : List Int, ns.length ≤ 63 → ∃ μ', φ [.scr (ns.map D.int)] [] = some (.bl true, μ')) (H : Hp) (a : Addr) (ns : List Int) (hl : ns.length ≤ 63) (hS : SqL K H a (ns.map V.int)) :
    spF K φ [.ref a] H (fun v _ => v = .bl true) (fun _ _ _ => False) := by
  obtain ⟨μ', e⟩ := hφ ns hl
  refine ⟨H, [], [], [.scr (ns.map D.int)], .bl true, μ', Same.refl _, ⟨rfl, fun i j a h => by simp at h, fun i a ds h => by simp at h⟩, .cons (.scr hS (DrL.ints ns)) .nil, e, fun v F' H' ρ' _ _ _ r => ?_⟩
  cases r
  rfl
/-- all of the text, from the head's facts to the law's promise -/
theorem law_ok {P : Program} {w : World} {K : PySem.W.Frag} {h : Heap} {mg : Str → Option Value} {fa : Addr} (pfs : List PF) (gls : List Str) (Γ : GlS) (k i : Nat) (p : PF) (hi : pfs[i]? = some p) (hps : p.ps = [("script" : Str)])
    (hchk : pfs.all (fun p => p.ok (pfs.map (·.name)) gls) = true) (hb : ∀ p ∈ pfs, BindOk p) (hg : ∀ g x d, gls[g]? = some x → Γ g = some d → ∃ v u, mg x = some u ∧ RelV v u ∧ ∀ F ρ, Dr K F ρ v d)
    (X : K.In h) (G : h.Ns mainGlobals mg) (hfa : mg p.name = some (.ref fa)) (c : He.SaysD (faOf pfs) (pfs.map dOf) K) :
    ∃ fd : FuncData, (∀ (s : Shared) (v : Value), BindsTo s fd ⟨[v], []⟩ [("script", v)]) ∧ ∀ base : Heap, K.In base → base.Ns mainGlobals mg → FnOk P w K mg base CX0 k fa fd [("script" : Str)] (spF K (run (pfs.map (·.fn)) Γ k i)) := by
  obtain ⟨f1, f2⟩ := facts_of c X G hb
  obtain ⟨fd, T⟩ := f1 i p hi
  have e := hfa.symm.trans T.mgf
  cases e
  refine ⟨fd, fun s v => ?_, fun base _ _ => ?_⟩
  · have := FunD.bindsA T.fun_ (hb p (List.mem_of_getElem? hi)) s [v] (by rw [hps]; rfl)
    rw [hps] at this
    exact this
  · have := prog_ok (P := P) (w := w) (base := base) pfs gls Γ hchk (fun q hq => by
      obtain ⟨j, hj, e⟩ := List.getElem_of_mem hq
      obtain ⟨fd', T'⟩ := f1 j q (by rw [List.getElem?_eq_getElem hj, e])
      exact ⟨_, fd', T'⟩) hg f2 k i p hi _ fd T
    rw [hps] at this
    exact this

/-! ### the module's constants -/
mutual
/-- the value stands for the data, by what K holds -/
def datB (K : PySem.W.Frag) : D → Value → Bool
  | .non, .none => true
  | .bl b, .bool c => decide (b = c)
  | .int i, .int j _ => decide (i = j)
  | .str x, .str y _ => decide (x = y)
  | .tup ds, .ref a => (match K.lookup a with
    | some ⟨.type c, _, .seq its _, _⟩ => decide (c = "tuple") && (decide (its.size ≤ sizeLine) && datBs K ds its.toList)
    | _ => false)
  | _, _ => false
def datBs (K : PySem.W.Frag) : List D → List Value → Bool
  | [], [] => true
  | d :: ds, u :: us => datB K d u && datBs K ds us
  | _, _ => false
end
mutual
theorem datB_ok {K : PySem.W.Frag} : ∀ (d : D) (u : Value), datB K d u = true → ∃ v, RelV v u ∧ ∀ F ρ, Dr K F ρ v d
  | .non, u, h => by
    unfold datB at h
    split at h <;> first | contradiction | skip
    exact ⟨.non, rfl, fun _ _ => .non⟩
  | .bl b, u, h => by
    cases u with
    | bool c => unfold datB at h; cases of_decide_eq_true h; exact ⟨.bl b, rfl, fun _ _ => .bl b⟩
    | _ => unfold datB at h; cases h
  | .int i, u, h => by
    cases u with
    | int j t => unfold datB at h; cases of_decide_eq_true h; exact ⟨.int i, ⟨t, rfl⟩, fun _ _ => .int i⟩
    | _ => unfold datB at h; cases h
  | .str x, u, h => by
    cases u with
    | str y t => unfold datB at h; cases of_decide_eq_true h; exact ⟨.str x, ⟨t, rfl⟩, fun _ _ => .str x⟩
    | _ => unfold datB at h; cases h
  | .tup ds, u, h => by
    cases u with
    | ref a =>
      unfold datB at h
      cases q : K.lookup a with
      | none => rw [q] at h; cases h
      | some o =>
        obtain ⟨oc, od, dt, osl⟩ := o
        rw [q] at h
        cases oc with
        | type c =>
          cases dt with
          | seq its n =>
            obtain ⟨h1, h2⟩ := Bool.and_eq_true_iff.mp (show (decide (c = "tuple") && (decide (its.size ≤ sizeLine) && datBs K ds its.toList)) = true from h)
            obtain ⟨h3, h4⟩ := Bool.and_eq_true_iff.mp h2
            obtain ⟨vs, h5, h6⟩ := datBs_ok ds its.toList h4
            exact ⟨.ref a, rfl, fun F ρ => .tup (.inr ⟨_, its, n, q, congrArg Value.type (of_decide_eq_true h1), rfl, of_decide_eq_true h3, h5⟩) (h6 F ρ)⟩
          | _ => cases h
        | _ => cases dt <;> cases h
    | _ => unfold datB at h; cases h
  | .lst _, u, h => by unfold datB at h; cases h
  | .scr _, u, h => by unfold datB at h; cases h
  | .mr _, u, h => by unfold datB at h; cases h
theorem datBs_ok {K : PySem.W.Frag} : ∀ (ds : List D) (us : List Value), datBs K ds us = true → ∃ vs, Vals vs us ∧ ∀ F ρ, DrL K F ρ vs ds
  | [], [], _ => ⟨[], .nil, fun _ _ => .nil⟩
  | [], _ :: _, h => by unfold datBs at h; cases h
  | _ :: _, [], h => by unfold datBs at h; cases h
  | d :: ds, u :: us, h => by
    rw [datBs, Bool.and_eq_true] at h
    obtain ⟨v, h1, h2⟩ := datB_ok d u h.1
    obtain ⟨vs, h3, h4⟩ := datBs_ok ds us h.2
    exact ⟨v :: vs, .cons h1 h3, fun F ρ => .cons (h2 F ρ) (h4 F ρ)⟩
end
/-- the constants hold in K -/
def conB (cons : List (Str × D)) (K : PySem.W.Frag) : Bool := cons.all fun p => match PySem.W.nsIn K mainGlobals p.1 with
  | some (some u) => datB K p.2 u
  | _ => false
def ΓC (cons : List (Str × D)) : GlS := fun g => (cons[g]?).map (·.2)
theorem hg_of {cons : List (Str × D)} {K : PySem.W.Frag} {h : Heap} {mg : Str → Option Value} (X : K.In h) (G : h.Ns mainGlobals mg) (c : conB cons K = true) :
    ∀ g x d, (cons.map (·.1))[g]? = some x → ΓC cons g = some d → ∃ v u, mg x = some u ∧ RelV v u ∧ ∀ F ρ, Dr K F ρ v d := by
  intro g x d h1 h2
  unfold ΓC at h2
  rw [List.getElem?_map] at h1
  obtain ⟨p, h3, rfl⟩ := Option.map_eq_some_iff.mp h1
  rw [h3] at h2
  cases h2
  have h4 := List.all_eq_true.mp c p (List.mem_of_getElem? h3)
  split at h4
  · rename_i u hu
    obtain ⟨v, h5, h6⟩ := datB_ok p.2 u h4
    exact ⟨v, u, PySem.W.mg_of X G hu, h5, h6⟩
  · cases h4
abbrev AlC : Type := He.AlD × Bool
def obsC (n : Nat) (fa : List He.Fa) (fn : List He.DefD) (ex : PySem.W.Frag → Bool) (g : Addr → Option Obj) : AlC := (He.obsD fa fn (He.frG g (He.asD g n)), ex (He.frG g (He.asD g n)))
def hookC (n : Nat) (fa : List He.Fa) (fn : List He.DefD) (ex : PySem.W.Frag → Bool) : PySem.W.Hook where
  α := AlC
  obs := fun s => obsC n fa fn ex s.heap.get?
  val := fun _ => (He.valD fn, true)
  says := fun _ h => ∃ K : PySem.W.Frag, K.In h ∧ (He.SaysD fa fn K ∧ ex K = true)
  of := fun _ _ e => ⟨_, He.frG_in, congrArg (fun z : AlC => z.1) e, congrArg (fun z : AlC => z.2) e⟩
  keeps := fun _ _ _ ⟨K, hK, c⟩ k => ⟨K, PySem.W.Frag.In.keeps hK k, c⟩
theorem obsC_eq {n : Nat} {fa : List He.Fa} {fn : List He.DefD} {ex : PySem.W.Frag → Bool} {g : Addr → Option Obj} {s : Shared} (h : ∀ a, g a = s.heap.get? a) : obsC n fa fn ex g = (hookC n fa fn ex).obs s := by
  have e : g = s.heap.get? := funext h
  rw [e] <;> rfl
end Py
end
section
set_option Elab.async false
set_option linter.all false
namespace Py
open PySem L2
/-! ### reckoning upon data -/
def fin (r : Option Fl) : Option (D × Store) := r.bind fun
  | .rt d μ' => some (d, μ')
  | .nx _ μ' => some (.non, μ')
  | _ => none
@[simp] theorem fin_rt (d : D) (μ : Store) : fin (some (.rt d μ)) = some (d, μ) := rfl
@[simp] theorem fin_nx (e : Env) (μ : Store) : fin (some (.nx e μ)) = some (.non, μ) := rfl
theorem run_fin {fs : List Fn} {Γ : GlS} {k f : Nat} {fn : Fn} (h : fs[f]? = some fn) {ds : List D} {μ : Store} (hl : ds.length = fn.ar) :
    run fs Γ (k + 1) f ds μ = fin (exs (run fs Γ k) Γ fn.body (ds.map (fun d => some (.val d)) ++ List.replicate (fn.sl - fn.ar) none) μ) := by
  rw [run, h]
  dsimp only [Option.bind_some]
  rw [if_pos hl]
  rfl
section
variable {Φ : FnS} {Γ : GlS} {env : Env} {μ : Store}
/-- one statement, then the others -/
theorem exs_nx {s : S} {r : List S} {env' : Env} {μ' : Store} (h : ex Φ Γ s env μ = some (.nx env' μ')) : exs Φ Γ (s :: r) env μ = exs Φ Γ r env' μ' := by
  rw [exs, h]; rfl
theorem exs_rt {s : S} {r : List S} {d : D} {μ' : Store} (h : ex Φ Γ s env μ = some (.rt d μ')) : exs Φ Γ (s :: r) env μ = some (.rt d μ') := by
  rw [exs, h]; rfl
theorem exs_one {s : S} : exs Φ Γ [s] env μ = ex Φ Γ s env μ := by
  rw [exs]
  cases ex Φ Γ s env μ with
  | none => rfl
  | some f => cases f <;> simp [exs]
/-- a while, one turn -/
theorem whS_eq {c : Env → Store → Option (Bool × Store)} {b : Env → Store → Option Fl} : whS c b env μ = (c env μ).bind fun p => if p.1 then (b env p.2).bind fun
    | .nx env' μ' => whS c b env' μ'
    | .ct env' μ' => whS c b env' μ'
    | .bk env' μ' => some (.nx env' μ')
    | .rt d μ' => some (.rt d μ')
  else some (.nx env p.2) := by
  apply Option.ext
  intro r
  rw [whS_some]
  constructor
  · rintro ⟨n, h⟩
    cases n with
    | zero => rw [whN] at h; cases h
    | succ n =>
      rw [whN] at h
      obtain ⟨⟨k, μ1⟩, h1, h2⟩ := Option.bind_eq_some_iff.mp h
      rw [h1]
      dsimp only [Option.bind_some] at h2 ⊢
      cases k with
      | false => exact h2
      | true =>
        rw [if_pos rfl] at h2 ⊢
        obtain ⟨fl, h3, h4⟩ := Option.bind_eq_some_iff.mp h2
        rw [h3]
        cases fl with
        | nx e m => exact whS_some.mpr ⟨n, h4⟩
        | ct e m => exact whS_some.mpr ⟨n, h4⟩
        | bk e m => exact h4
        | rt d m => exact h4
  · intro h
    obtain ⟨⟨k, μ1⟩, h1, h2⟩ := Option.bind_eq_some_iff.mp h
    dsimp only at h2
    cases k with
    | false =>
      rw [if_neg Bool.false_ne_true] at h2
      exact ⟨1, by rw [whN, h1]; exact h2⟩
    | true =>
      rw [if_pos rfl] at h2
      obtain ⟨fl, h3, h4⟩ := Option.bind_eq_some_iff.mp h2
      cases fl with
      | nx e m =>
        obtain ⟨n, hn⟩ := whS_some.mp h4
        refine ⟨n + 1, ?_⟩
        rw [whN, h1]
        dsimp only [Option.bind_some]
        rw [if_pos rfl, h3]
        exact hn
      | ct e m =>
        obtain ⟨n, hn⟩ := whS_some.mp h4
        refine ⟨n + 1, ?_⟩
        rw [whN, h1]
        dsimp only [Option.bind_some]
        rw [if_pos rfl, h3]
        exact hn
      | bk e m =>
        refine ⟨1, ?_⟩
        rw [whN, h1]
        dsimp only [Option.bind_some]
        rw [if_pos rfl, h3]
        exact h4
      | rt d m =>
        refine ⟨1, ?_⟩
        rw [whN, h1]
        dsimp only [Option.bind_some]
        rw [if_pos rfl, h3]
        exact h4
end
section
variable {c : Env → Store → Option (Bool × Store)} {b : Env → Store → Option Fl} {env env' : Env} {μ μ' μ1 : Store} {t : T} {d : D} {ds : List D}
theorem whS_go (hc : c env μ = some (true, μ1)) (hb : b env μ1 = some (.nx env' μ')) : whS c b env μ = whS c b env' μ' := by
  rw [whS_eq, hc]
  simp only [Option.bind_some, if_true, hb]
theorem whS_end (hc : c env μ = some (false, μ1)) : whS c b env μ = some (.nx env μ1) := by
  rw [whS_eq, hc]
  simp
theorem whS_rt (hc : c env μ = some (true, μ1)) (hb : b env μ1 = some (.rt d μ')) : whS c b env μ = some (.rt d μ') := by
  rw [whS_eq, hc]
  simp only [Option.bind_some, if_true, hb]
theorem whS_bk (hc : c env μ = some (true, μ1)) (hb : b env μ1 = some (.bk env' μ')) : whS c b env μ = some (.nx env' μ') := by
  rw [whS_eq, hc]
  simp only [Option.bind_some, if_true, hb]
theorem forS_nil : forS t b [] env μ = some (.nx env μ) := rfl
theorem forS_go {env1 : Env} (ha : asgT t d env = some env1) (hb : b env1 μ = some (.nx env' μ')) : forS t b (d :: ds) env μ = forS t b ds env' μ' := by
  rw [forS, ha]; simp only [Option.bind_some, hb]
theorem forS_rt {env1 : Env} {d' : D} (ha : asgT t d env = some env1) (hb : b env1 μ = some (.rt d' μ')) : forS t b (d :: ds) env μ = some (.rt d' μ') := by
  rw [forS, ha]; simp only [Option.bind_some, hb]
theorem forS_bk {env1 : Env} (ha : asgT t d env = some env1) (hb : b env1 μ = some (.bk env' μ')) : forS t b (d :: ds) env μ = some (.nx env' μ') := by
  rw [forS, ha]; simp only [Option.bind_some, hb]
/-- a for by what holds between two turns -/
theorem forS_inv (P : Nat → Env → Store → Prop) (h0 : P 0 env μ) (hs : ∀ i env μ d, ds[i]? = some d → P i env μ → ∃ env1 env' μ', asgT t d env = some env1 ∧ (b env1 μ = some (.nx env' μ') ∨ b env1 μ = some (.ct env' μ')) ∧ P (i + 1) env' μ') :
    ∃ env' μ', forS t b ds env μ = some (.nx env' μ') ∧ P ds.length env' μ' := by
  induction ds generalizing P env μ with
  | nil => exact ⟨env, μ, rfl, h0⟩
  | cons x xs ih =>
    obtain ⟨env1, env', μ', ha, hb, hp⟩ := hs 0 env μ x rfl h0
    obtain ⟨env2, μ2, h1, h2⟩ := ih (fun i => P (i + 1)) hp fun i e m d hd hp => hs (i + 1) e m d (by simpa using hd) hp
    refine ⟨env2, μ2, ?_, by simpa using h2⟩
    rw [forS, ha]
    rcases hb with hb | hb
    · simp only [Option.bind_some, hb]; exact h1
    · simp only [Option.bind_some, hb]; exact h1
end
/-! equality of data -/
theorem eqS_int (a b : Int) : eqS (.int a) (.int b) = some (a == b) := by
  simp [eqS, toPy, SeqAt.shaped, PyData.canLay0, PyData.depth, PyData.eqv]
theorem eqS_bl (a b : Bool) : eqS (.bl a) (.bl b) = some (a == b) := by
  simp [eqS, toPy, SeqAt.shaped, PyData.canLay0, PyData.depth, PyData.eqv]
theorem eqS_str (a b : Str) (ha : PyData.strOk a = true) (hb : PyData.strOk b = true) : eqS (.str a) (.str b) = some (a == b) := by
  simp [eqS, toPy, SeqAt.shaped, PyData.canLay0, PyData.depth, PyData.eqv, ha, hb]
theorem atI_nil {i : Int} : atI ([] : List D) i = none := by
  unfold atI
  cases ixN ([] : List D).length i <;> rfl
theorem atI_of {ds : List D} {j : Nat} (h : j < ds.length) : atI ds (j : Int) = some ds[j] := atI_nat (List.getElem?_eq_getElem h)
/-! ratios -/
def rD (r : Rat) : D := .tup [.int r.num, .int r.den]
/-- a size -/
def Sz (n : Nat) (r : Rat) : Prop := r.num.natAbs < 2 ^ n ∧ r.den < 2 ^ n
theorem log2_lt {n m : Nat} (h : n < 2 ^ m) (hm : 0 < m) : n.log2 < m := by
  by_cases q : n = 0
  · subst q; simpa using hm
  · exact (Nat.log2_lt q).mpr h
theorem mulOk_of {i j : Int} {a b : Nat} (hi : i.natAbs < 2 ^ a) (hj : j.natAbs < 2 ^ b) (h : a + b ≤ 900000 := by decide) : mulOk i j = true := by
  unfold mulOk
  have h1 : i.natAbs.log2 ≤ a := by
    by_cases q : i.natAbs = 0
    · rw [q]; simp
    · exact Nat.le_of_lt ((Nat.log2_lt q).mpr hi)
  have h2 : j.natAbs.log2 ≤ b := by
    by_cases q : j.natAbs = 0
    · rw [q]; simp
    · exact Nat.le_of_lt ((Nat.log2_lt q).mpr hj)
  exact decide_eq_true (by omega)
theorem divOk_of {j : Int} {b : Nat} (h0 : 0 < j) (hj : j.natAbs < 2 ^ b) (h : b ≤ 8999 := by decide) : divOk j = true := by
  unfold divOk
  rw [Bool.and_eq_true]
  refine ⟨decide_eq_true h0, decide_eq_true ?_⟩
  have q : j.natAbs ≠ 0 := by omega
  exact Nat.lt_of_lt_of_le ((Nat.log2_lt q).mpr hj) (by omega)
end Py
end
section
set_option Elab.async false
set_option linter.all false
namespace Py
open PySem L2
/-! ### ratios as data -/
theorem Sz.mono {n m : Nat} {r : Rat} (h : Sz n r) (hm : n ≤ m := by decide) : Sz m r :=
  ⟨Nat.lt_of_lt_of_le h.1 (Nat.pow_le_pow_right (by decide) hm), Nat.lt_of_lt_of_le h.2 (Nat.pow_le_pow_right (by decide) hm)⟩
theorem Sz.neg {n : Nat} {r : Rat} (h : Sz n r) : Sz n (-r) := ⟨by rw [Rat.neg_num, Int.natAbs_neg]; exact h.1, h.2⟩
theorem Sz.int {n : Nat} {i : Int} (h : i.natAbs < 2 ^ n) (hn : 0 < n := by decide) : Sz n (i : Rat) := ⟨h, Nat.one_lt_two_pow (by omega)⟩
theorem rD_divInt {p q : Int} (hq : 0 < q) : rD (Rat.divInt p q) = .tup [.int (p / (Int.gcd p q : Int)), .int (q / (Int.gcd p q : Int))] := by
  unfold rD
  rw [Rat.num_divInt, Rat.den_divInt, Int.sign_eq_one_of_pos hq, Int.one_mul, if_neg (by omega), Int.gcd_comm q p]
  congr 3
  rw [Int.natCast_ediv, Int.natAbs_of_nonneg (Int.le_of_lt hq)]
theorem Sz.divInt {p q : Int} {n : Nat} (hp : p.natAbs < 2 ^ n) (hq : q.natAbs < 2 ^ n) (h0 : q ≠ 0) : Sz n (Rat.divInt p q) := by
  constructor
  · rw [Rat.num_divInt]
    refine Nat.lt_of_le_of_lt (Int.natAbs_ediv_le_natAbs _ _) ?_
    rw [Int.natAbs_mul]
    have : q.sign.natAbs = 1 := Int.natAbs_sign_of_ne_zero h0
    rw [this, Nat.one_mul]
    exact hp
  · rw [Rat.den_divInt, if_neg h0]
    exact Nat.lt_of_le_of_lt (Nat.div_le_self _ _) hq
theorem abs_mul_lt {a b : Int} {n m : Nat} (ha : a.natAbs < 2 ^ n) (hb : b.natAbs < 2 ^ m) : (a * b).natAbs < 2 ^ (n + m) := by
  rw [Int.natAbs_mul, Nat.pow_add]
  exact Nat.mul_lt_mul'' ha hb
theorem abs_add_lt {a b : Int} {n : Nat} (ha : a.natAbs < 2 ^ n) (hb : b.natAbs < 2 ^ n) : (a + b).natAbs < 2 ^ (n + 1) := by
  rw [Nat.pow_succ]
  have := Int.natAbs_add_le a b
  omega
theorem Sz.den {n : Nat} {r : Rat} (h : Sz n r) : (r.den : Int).natAbs < 2 ^ n := h.2
theorem den_ne (r : Rat) : (r.den : Int) ≠ 0 := by have := r.den_nz; omega
theorem den_mul_ne (r s : Rat) : (r.den : Int) * s.den ≠ 0 := Int.mul_ne_zero (den_ne r) (den_ne s)
theorem mul_divInt (s t : Rat) : Rat.divInt (s.num * t.num) (s.den * t.den) = s * t := by
  rw [Rat.mul_def', ← Int.natCast_mul, Rat.divInt_ofNat]
theorem add_divInt (s t : Rat) : Rat.divInt (s.num * t.den + t.num * s.den) (s.den * t.den) = s + t := by
  rw [Rat.add_def', ← Int.natCast_mul, Rat.divInt_ofNat]
theorem div_divInt (s t : Rat) : Rat.divInt (s.num * t.den) (s.den * t.num) = s / t := by
  rw [Rat.div_def, Rat.inv_def, ← Rat.divInt_mul_divInt, Rat.num_divInt_den]
theorem Sz.mul {n m : Nat} {r s : Rat} (h : Sz n r) (h' : Sz m s) : Sz (n + m) (r * s) := by
  rw [← mul_divInt]
  exact Sz.divInt (abs_mul_lt h.1 h'.1) (abs_mul_lt h.den h'.den) (den_mul_ne r s)
theorem Sz.add {n m : Nat} {r s : Rat} (h : Sz n r) (h' : Sz m s) : Sz (n + m + 1) (r + s) := by
  rw [← add_divInt]
  refine Sz.divInt (abs_add_lt (abs_mul_lt h.1 h'.den) ?_) ?_ (den_mul_ne r s)
  · rw [Nat.add_comm n m]; exact abs_mul_lt h'.1 h.den
  · exact Nat.lt_of_lt_of_le (abs_mul_lt h.den h'.den) (Nat.pow_le_pow_right (by decide) (by omega))
theorem num_ne {t : Rat} (h : t ≠ 0) : t.num ≠ 0 := fun z => h (Rat.num_eq_zero.mp z)
theorem Sz.div {n m : Nat} {r s : Rat} (h : Sz n r) (h' : Sz m s) (h0 : s ≠ 0) : Sz (n + m) (r / s) := by
  rw [← div_divInt]
  exact Sz.divInt (abs_mul_lt h.1 h'.den) (abs_mul_lt h.den h'.1) (Int.mul_ne_zero (den_ne r) (num_ne h0))
theorem Sz.sub {n m : Nat} {r s : Rat} (h : Sz n r) (h' : Sz m s) : Sz (n + m + 1) (r - s) := by
  rw [Rat.sub_eq_add_neg]; exact h.add h'.neg
theorem rD_inj {r s : Rat} (h : rD r = rD s) : r = s := by
  unfold rD at h
  injection h with h
  injection h with h1 h2
  injection h1 with h1
  injection h2 with h2 _
  injection h2 with h2
  exact Rat.ext h1 (by exact_mod_cast h2)
theorem gcd_fmod (p q : Int) (h : 0 < q) : Int.gcd q (p.fmod q) = Int.gcd p q := by
  rw [Int.fmod_eq_emod_of_nonneg p (Int.le_of_lt h), Int.gcd_comm]
  have := Int.gcd_add_mul_right_left q (p % q) (p / q)
  rw [Int.emod_add_ediv_mul] at this
  exact this.symm
theorem gcd_lt {p q : Int} {n : Nat} (h0 : q ≠ 0) (hq : q.natAbs < 2 ^ n) : ((Int.gcd p q : Nat) : Int).natAbs < 2 ^ n := by
  rw [Int.natAbs_natCast]
  refine Nat.lt_of_le_of_lt (Nat.le_of_dvd (by omega) ?_) hq
  exact Nat.gcd_dvd_right _ _
theorem gcd_pos' {p q : Int} (h0 : q ≠ 0) : 0 < ((Int.gcd p q : Nat) : Int) := by
  have : 0 < Int.gcd p q := Int.gcd_pos_of_ne_zero_right _ h0
  omega
/-- the test and the body of a while that reckons the greatest common divisor -/
theorem gcd_loop {c : Env → Store → Option (Bool × Store)} {b : Env → Store → Option Fl} {μ : Store} (hc : ∀ p q : Int, c [some (.val (.int p)), some (.val (.int q))] μ = some (decide (q ≠ 0), μ))
    (hb : ∀ p q : Int, q ≠ 0 → b [some (.val (.int p)), some (.val (.int q))] μ = some (.nx [some (.val (.int q)), some (.val (.int (p.fmod q)))] μ)) :
    ∀ (n : Nat) (p q : Int), 0 ≤ q → q.toNat ≤ n → ∃ r, whS c b [some (.val (.int p)), some (.val (.int q))] μ = some (.nx [some (.val (.int r)), some (.val (.int 0))] μ) ∧ r.natAbs = Int.gcd p q
  | n, p, q, h0, hn => by
    by_cases hq : q = 0
    · subst hq
      exact ⟨p, whS_end (by simpa using hc p 0), by simp⟩
    · have hpos : 0 < q := by omega
      match n, hn with
      | 0, hn => omega
      | n + 1, hn =>
        have hlt := Int.emod_lt_of_pos p hpos
        have hge := Int.emod_nonneg p hq
        have e := Int.fmod_eq_emod_of_nonneg p h0
        obtain ⟨r, h1, h2⟩ := gcd_loop hc hb n q (p.fmod q) (by rw [e]; exact hge) (by rw [e]; omega)
        refine ⟨r, ?_, by rw [h2, gcd_fmod p q hpos]⟩
        rw [whS_go (by simpa [hq] using hc p q) (hb p q hq)]
        exact h1
end Py
end
section
set_option Elab.async false
set_option linter.all false
namespace Py
open PySem L2
/-! ### the semantics as rows for simp: each fires on constructors alone -/
section
variable {Φ : FnS} {Γ : GlS} {env : Env} {μ : Store}
@[simp] theorem ev_slot {i : Nat} : ev Φ Γ (.slot i) env μ = (getV env i).map fun d => (d, μ) := by rw [ev]
@[simp] theorem ev_glob {i : Nat} : ev Φ Γ (.glob i) env μ = (Γ i).map fun d => (d, μ) := by rw [ev]
@[simp] theorem ev_int {i : Int} : ev Φ Γ (.int i) env μ = some (.int i, μ) := by rw [ev]
@[simp] theorem ev_bl {i : Bool} : ev Φ Γ (.bl i) env μ = some (.bl i, μ) := by rw [ev]
@[simp] theorem ev_non : ev Φ Γ .non env μ = some (.non, μ) := by rw [ev]
@[simp] theorem ev_str {i : Str} : ev Φ Γ (.str i) env μ = some (.str i, μ) := by rw [ev]
@[simp] theorem ev_bin {op : Operator} {a b : E} : ev Φ Γ (.bin op a b) env μ = (ev Φ Γ a env μ).bind fun p => (ev Φ Γ b env p.2).bind fun q => (binS op p.1 q.1).map fun d => (d, q.2) := by rw [ev]
@[simp] theorem ev_neg {a : E} : ev Φ Γ (.neg a) env μ = (ev Φ Γ a env μ).bind fun p => (asInt p.1).map fun i => (.int (-i), p.2) := by rw [ev]
@[simp] theorem ev_not {a : E} : ev Φ Γ (.not a) env μ = (ev Φ Γ a env μ).bind fun p => (truS p.1).map fun b => (.bl (!b), p.2) := by rw [ev]
@[simp] theorem ev_cmp {op : CmpOp} {a b : E} : ev Φ Γ (.cmp op a b) env μ = (ev Φ Γ a env μ).bind fun p => (ev Φ Γ b env p.2).bind fun q => (cmpS op p.1 q.1).map fun d => (.bl d, q.2) := by rw [ev]
@[simp] theorem ev_isN {a : E} : ev Φ Γ (.isN a) env μ = (ev Φ Γ a env μ).map fun p => (.bl (isNon p.1), p.2) := by rw [ev]
@[simp] theorem ev_notN {a : E} : ev Φ Γ (.notN a) env μ = (ev Φ Γ a env μ).map fun p => (.bl (!isNon p.1), p.2) := by rw [ev]
@[simp] theorem ev_and {a : E} {r : Es} : ev Φ Γ (.and a r) env μ = (ev Φ Γ a env μ).bind fun p => evAnd Φ Γ p.1 r env p.2 := by rw [ev]
@[simp] theorem ev_or {a : E} {r : Es} : ev Φ Γ (.or a r) env μ = (ev Φ Γ a env μ).bind fun p => evOr Φ Γ p.1 r env p.2 := by rw [ev]
@[simp] theorem evAnd_nil {d : D} : evAnd Φ Γ d .nil env μ = some (d, μ) := by cases d <;> rw [evAnd]
@[simp] theorem evAnd_t {e : E} {r : Es} : evAnd Φ Γ (.bl true) (.cons e r) env μ = (ev Φ Γ e env μ).bind fun p => evAnd Φ Γ p.1 r env p.2 := by rw [evAnd]
@[simp] theorem evAnd_f {e : E} {r : Es} : evAnd Φ Γ (.bl false) (.cons e r) env μ = some (.bl false, μ) := by rw [evAnd]
@[simp] theorem evOr_nil {d : D} : evOr Φ Γ d .nil env μ = some (d, μ) := by cases d <;> rw [evOr]
@[simp] theorem evOr_f {e : E} {r : Es} : evOr Φ Γ (.bl false) (.cons e r) env μ = (ev Φ Γ e env μ).bind fun p => evOr Φ Γ p.1 r env p.2 := by rw [evOr]
@[simp] theorem evOr_t {e : E} {r : Es} : evOr Φ Γ (.bl true) (.cons e r) env μ = some (.bl true, μ) := by rw [evOr]
theorem evAnd_b {b : Bool} {e : E} {r : Es} : evAnd Φ Γ (.bl b) (.cons e r) env μ = if b then (ev Φ Γ e env μ).bind fun p => evAnd Φ Γ p.1 r env p.2 else some (.bl false, μ) := by cases b <;> simp
theorem evOr_b {b : Bool} {e : E} {r : Es} : evOr Φ Γ (.bl b) (.cons e r) env μ = if b then some (.bl true, μ) else (ev Φ Γ e env μ).bind fun p => evOr Φ Γ p.1 r env p.2 := by cases b <;> simp
@[simp] theorem ev_ite {a b c : E} : ev Φ Γ (.ite c a b) env μ = (evT Φ Γ c env μ).bind fun p => if p.1 then ev Φ Γ a env p.2 else ev Φ Γ b env p.2 := by rw [ev]
@[simp] theorem ev_tup {es : Es} : ev Φ Γ (.tup es) env μ = (evs Φ Γ es env μ).bind fun p => if p.1.length ≤ SZ then some (.tup p.1, p.2) else none := by rw [ev]
@[simp] theorem ev_lst {es : Es} : ev Φ Γ (.lst es) env μ = (evs Φ Γ es env μ).bind fun p => if p.1.length ≤ SZ then some (.lst p.1, p.2) else none := by rw [ev]
@[simp] theorem ev_mlst {es : Es} : ev Φ Γ (.mlst es) env μ = (evs Φ Γ es env μ).bind fun p => if p.1.length ≤ SZ then some (.mr p.2.length, p.2 ++ [p.1]) else none := by rw [ev]
@[simp] theorem ev_ix {a b : E} : ev Φ Γ (.ix a b) env μ = (ev Φ Γ a env μ).bind fun p => (ev Φ Γ b env p.2).bind fun q => (ixS q.2 p.1 q.1).map fun d => (d, q.2) := by rw [ev]
@[simp] theorem ev_slc {a : E} {lo hi : Eo} : ev Φ Γ (.slc a lo hi) env μ = (ev Φ Γ a env μ).bind fun p => (evo Φ Γ lo env p.2).bind fun q => (evo Φ Γ hi env q.2).bind fun r => (slcS p.1 q.1 r.1).map fun d => (d, r.2) := by rw [ev]
@[simp] theorem ev_call {f : Nat} {e : E} {es : Es} : ev Φ Γ (.call f e es) env μ = (ev Φ Γ e env μ).bind fun p => (evs Φ Γ es env p.2).bind fun q => Φ f (p.1 :: q.1) q.2 := by rw [ev]
@[simp] theorem ev_bi {b : Bi} {e : E} {es : Es} : ev Φ Γ (.bi b e es) env μ = (ev Φ Γ e env μ).bind fun p => (evs Φ Γ es env p.2).bind fun q => (biS q.2 b (p.1 :: q.1)).map fun d => (d, q.2) := by rw [ev]
@[simp] theorem ev_isi {e : E} {t : Ty} : ev Φ Γ (.isi e t) env μ = (ev Φ Γ e env μ).bind fun p => (isiS p.1 t).map fun b => (.bl b, p.2) := by rw [ev]
@[simp] theorem ev_dIn {neg : Bool} {i : Nat} {e : E} : ev Φ Γ (.dIn neg i e) env μ = (ev Φ Γ e env μ).bind fun p => (getD' env i).bind fun kvs => (keyS p.1).map fun k => (.bl (if neg then !(dAtS kvs k).isSome else (dAtS kvs k).isSome), p.2) := by rw [ev]
@[simp] theorem evT_dIn {neg : Bool} {i : Nat} {e : E} : evT Φ Γ (.dIn neg i e) env μ = (ev Φ Γ e env μ).bind fun p => (getD' env i).bind fun kvs => (keyS p.1).map fun k => ((if neg then !(dAtS kvs k).isSome else (dAtS kvs k).isSome), p.2) := by rw [evT]
@[simp] theorem ev_dAt {i : Nat} {e : E} : ev Φ Γ (.dAt i e) env μ = (ev Φ Γ e env μ).bind fun p => (getD' env i).bind fun kvs => (keyS p.1).bind fun k => (dAtS kvs k).map fun v => (v, p.2) := by rw [ev]
@[simp] theorem ev_dVals {i : Nat} : ev Φ Γ (.dVals i) env μ = (getD' env i).map fun kvs => (.lst (kvs.map (·.2)), μ) := by rw [ev]
@[simp] theorem ev_chain {op op' : CmpOp} {a b c : E} : ev Φ Γ (.chain op op' a b c) env μ = (ev Φ Γ a env μ).bind fun p => (ev Φ Γ b env p.2).bind fun q => (cmpS op p.1 q.1).bind fun k => if k then (ev Φ Γ c env q.2).bind fun r => (cmpS op' q.1 r.1).map fun k' => (.bl k', r.2) else some (.bl false, q.2) := by rw [ev]
@[simp] theorem evT_chain {op op' : CmpOp} {a b c : E} : evT Φ Γ (.chain op op' a b c) env μ = (ev Φ Γ a env μ).bind fun p => (ev Φ Γ b env p.2).bind fun q => (cmpS op p.1 q.1).bind fun k => if k then (ev Φ Γ c env q.2).bind fun r => (cmpS op' q.1 r.1).map fun k' => (k', r.2) else some (false, q.2) := by rw [evT]
@[simp] theorem ev_rngL {e : E} : ev Φ Γ (.rngL e) env μ = (ev Φ Γ e env μ).bind fun p => (asInt p.1).bind fun j => (rngS 0 j).map fun ds => (.lst ds, p.2) := by rw [ev]
theorem ev_lc {e : E} {t : T} {it : I} {c : Eo} {vs : List Nat} : ev Φ Γ (.lc e t it c vs) env μ = (evI Φ Γ it env μ).bind fun p => if p.1.length ≤ SZ then (lcS t (fun env' μ' => evc Φ Γ c env' μ') (fun env' μ' => ev Φ Γ e env' μ') (wipeE env vs) p.1 p.2).map fun q => (.lst q.1, q.2) else none := by rw [ev]
theorem ev_bor {i : Nat} {e : E} : ev Φ Γ (.bor i e) env μ = (getO env i).bind fun ds => (ev Φ Γ e (env.set i (some (.val (.lst ds)))) μ).bind fun p => if noL p.1 && scalS p.2 then some p else none := by rw [ev]
@[simp] theorem evs_nil : evs Φ Γ .nil env μ = some ([], μ) := by rw [evs]
@[simp] theorem evs_cons {e : E} {r : Es} : evs Φ Γ (.cons e r) env μ = (ev Φ Γ e env μ).bind fun p => (evs Φ Γ r env p.2).map fun q => (p.1 :: q.1, q.2) := by rw [evs]
@[simp] theorem evo_none : evo Φ Γ .none env μ = some (none, μ) := by rw [evo]
@[simp] theorem evo_some {e : E} : evo Φ Γ (.some e) env μ = (ev Φ Γ e env μ).bind fun p => (asInt p.1).map fun i => (some i, p.2) := by rw [evo]
@[simp] theorem evc_none : evc Φ Γ .none env μ = some (true, μ) := by rw [evc]
@[simp] theorem evc_some {e : E} : evc Φ Γ (.some e) env μ = evT Φ Γ e env μ := by rw [evc]
@[simp] theorem evT_not {a : E} : evT Φ Γ (.not a) env μ = (evT Φ Γ a env μ).map fun p => (!p.1, p.2) := by rw [evT]
@[simp] theorem evT_and {a : E} {r : Es} : evT Φ Γ (.and a r) env μ = (evT Φ Γ a env μ).bind fun p => if p.1 then evTAnd Φ Γ r env p.2 else some (false, p.2) := by rw [evT]
@[simp] theorem evT_or {a : E} {r : Es} : evT Φ Γ (.or a r) env μ = (evT Φ Γ a env μ).bind fun p => if p.1 then some (true, p.2) else evTOr Φ Γ r env p.2 := by rw [evT]
@[simp] theorem evTAnd_nil : evTAnd Φ Γ .nil env μ = some (true, μ) := by rw [evTAnd]
@[simp] theorem evTAnd_cons {e : E} {r : Es} : evTAnd Φ Γ (.cons e r) env μ = (evT Φ Γ e env μ).bind fun p => if p.1 then evTAnd Φ Γ r env p.2 else some (false, p.2) := by rw [evTAnd]
@[simp] theorem evTOr_nil : evTOr Φ Γ .nil env μ = some (false, μ) := by rw [evTOr]
@[simp] theorem evTOr_cons {e : E} {r : Es} : evTOr Φ Γ (.cons e r) env μ = (evT Φ Γ e env μ).bind fun p => if p.1 then some (true, p.2) else evTOr Φ Γ r env p.2 := by rw [evTOr]
@[simp] theorem evT_cmp {op : CmpOp} {a b : E} : evT Φ Γ (.cmp op a b) env μ = (ev Φ Γ a env μ).bind fun p => (ev Φ Γ b env p.2).bind fun q => (cmpS op p.1 q.1).map fun d => (d, q.2) := by rw [evT]
@[simp] theorem evT_isN {a : E} : evT Φ Γ (.isN a) env μ = (ev Φ Γ a env μ).map fun p => (isNon p.1, p.2) := by rw [evT]
@[simp] theorem evT_notN {a : E} : evT Φ Γ (.notN a) env μ = (ev Φ Γ a env μ).map fun p => (!isNon p.1, p.2) := by rw [evT]
@[simp] theorem evT_slot {i : Nat} : evT Φ Γ (.slot i) env μ = (getV env i).bind fun d => (truS d).map fun k => (k, μ) := by rw [evT]
@[simp] theorem evT_call {f : Nat} {e : E} {es : Es} : evT Φ Γ (.call f e es) env μ = (ev Φ Γ e env μ).bind fun p => (evs Φ Γ es env p.2).bind fun q => (Φ f (p.1 :: q.1) q.2).bind fun r => (truS r.1).map fun k => (k, r.2) := by rw [evT]
@[simp] theorem evT_ix {a b : E} : evT Φ Γ (.ix a b) env μ = (ev Φ Γ a env μ).bind fun p => (ev Φ Γ b env p.2).bind fun q => (ixS q.2 p.1 q.1).bind fun d => (truS d).map fun k => (k, q.2) := by rw [evT]
@[simp] theorem evT_isi {e : E} {t : Ty} : evT Φ Γ (.isi e t) env μ = (ev Φ Γ e env μ).bind fun p => (isiS p.1 t).map fun b => (b, p.2) := by rw [evT]
@[simp] theorem evT_bi {b : Bi} {e : E} {es : Es} : evT Φ Γ (.bi b e es) env μ = (ev Φ Γ e env μ).bind fun p => (evs Φ Γ es env p.2).bind fun q => (biS q.2 b (p.1 :: q.1)).bind fun d => (truS d).map fun k => (k, q.2) := by rw [evT]
theorem evT_bor {i : Nat} {e : E} : evT Φ Γ (.bor i e) env μ = (getO env i).bind fun ds => (evT Φ Γ e (env.set i (some (.val (.lst ds)))) μ).bind fun p => if scalS p.2 then some p else none := by rw [evT]
@[simp] theorem evI_rng1 {e : E} : evI Φ Γ (.rng1 e) env μ = (ev Φ Γ e env μ).bind fun p => (asInt p.1).bind fun j => (rngS 0 j).map fun ds => (ds, p.2) := by rw [evI]
@[simp] theorem evI_rngD {e : E} : evI Φ Γ (.rngD e) env μ = (ev Φ Γ e env μ).bind fun p => (asInt p.1).bind fun j => (rngDS j).map fun ds => (ds, p.2) := by rw [evI]
@[simp] theorem evI_rng2 {a b : E} : evI Φ Γ (.rng2 a b) env μ = (ev Φ Γ a env μ).bind fun p => (ev Φ Γ b env p.2).bind fun q => (asInt p.1).bind fun i => (asInt q.1).bind fun j => (rngS i j).map fun ds => (ds, q.2) := by rw [evI]
def seqOf : D → Option (List D)
  | .tup ds => some ds | .lst ds => some ds | .scr ds => some ds
  | _ => none
@[simp] theorem seqOf_tup {ds : List D} : seqOf (.tup ds) = some ds := rfl
@[simp] theorem seqOf_lst {ds : List D} : seqOf (.lst ds) = some ds := rfl
@[simp] theorem seqOf_scr {ds : List D} : seqOf (.scr ds) = some ds := rfl
@[simp] theorem evI_seq {e : E} : evI Φ Γ (.seq e) env μ = (ev Φ Γ e env μ).bind fun p => (seqOf p.1).map fun ds => (ds, p.2) := by
  rw [evI]
  congr 1
  funext ⟨x, m⟩
  cases x <;> rfl
def zipOf : D → D → Option (List D)
  | .tup a, .tup b => some (zipD a b) | .lst a, .lst b => some (zipD a b)
  | _, _ => none
@[simp] theorem zipOf_tup {a b : List D} : zipOf (.tup a) (.tup b) = some (zipD a b) := rfl
@[simp] theorem zipOf_lst {a b : List D} : zipOf (.lst a) (.lst b) = some (zipD a b) := rfl
@[simp] theorem zipD_nil {b : List D} : zipD [] b = [] := rfl
@[simp] theorem zipD_nil' {a : List D} : zipD a [] = [] := by unfold zipD; simp
@[simp] theorem zipD_cons {x y : D} {a b : List D} : zipD (x :: a) (y :: b) = .tup [x, y] :: zipD a b := rfl
@[simp] theorem evI_zip {a b : E} : evI Φ Γ (.zip a b) env μ = (ev Φ Γ a env μ).bind fun p => (ev Φ Γ b env p.2).bind fun q => (zipOf p.1 q.1).map fun ds => (ds, q.2) := by
  rw [evI]
  congr 1
  funext ⟨x, m⟩
  dsimp only
  congr 1
  funext ⟨y, m'⟩
  cases x <;> cases y <;> rfl
def enumOf : D → Option (List D)
  | .lst ds => some (enumD 0 ds)
  | .tup ds => some (enumD 0 ds)
  | _ => none
@[simp] theorem enumOf_tup {ds : List D} : enumOf (.tup ds) = some (enumD 0 ds) := rfl
@[simp] theorem enumOf_lst {ds : List D} : enumOf (.lst ds) = some (enumD 0 ds) := rfl
@[simp] theorem evI_enum {a : E} : evI Φ Γ (.enum a) env μ = (ev Φ Γ a env μ).bind fun p => (enumOf p.1).map fun ds => (ds, p.2) := by
  rw [evI]
  congr 1
  funext ⟨x, m⟩
  cases x <;> rfl
def revOf : D → Option (List D)
  | .lst ds => some ds.reverse
  | .scr ds => some ds.reverse
  | _ => none
@[simp] theorem revOf_lst {ds : List D} : revOf (.lst ds) = some ds.reverse := rfl
@[simp] theorem ev_rev {e : E} : ev Φ Γ (.rev e) env μ = (ev Φ Γ e env μ).bind fun p => (revOf p.1).map fun ds => (.lst ds, p.2) := by
  rw [ev]
  congr 1
  funext ⟨x, m⟩
  cases x <;> rfl
/-! statements -/
@[simp] theorem exs_nil : exs Φ Γ [] env μ = some (.nx env μ) := by rw [exs]
def thenS (r : Env → Store → Option Fl) : Fl → Option Fl
  | .nx e m => r e m
  | f => some f
@[simp] theorem thenS_nx {r : Env → Store → Option Fl} : thenS r (.nx env μ) = r env μ := rfl
@[simp] theorem thenS_rt {r : Env → Store → Option Fl} {d : D} : thenS r (.rt d μ) = some (.rt d μ) := rfl
@[simp] theorem thenS_bk {r : Env → Store → Option Fl} : thenS r (.bk env μ) = some (.bk env μ) := rfl
@[simp] theorem thenS_ct {r : Env → Store → Option Fl} : thenS r (.ct env μ) = some (.ct env μ) := rfl
@[simp] theorem exs_cons {s : S} {r : List S} : exs Φ Γ (s :: r) env μ = (ex Φ Γ s env μ).bind (thenS (exs Φ Γ r)) := by
  rw [exs]
  rfl
@[simp] theorem ex_app {i : Nat} {e : E} : ex Φ Γ (.app i e) env μ = (ev Φ Γ e env μ).bind fun p => (getO env i).bind fun ds => if ds.length < SZ then some (.nx (env.set i (some (.own (ds ++ [p.1])))) p.2) else none := by rw [ex]
@[simp] theorem ex_expr {e : E} : ex Φ Γ (.expr e) env μ = (ev Φ Γ e env μ).map fun p => .nx env p.2 := by rw [ex]
@[simp] theorem ex_asg {t : T} {e : E} : ex Φ Γ (.asg t e) env μ = (ev Φ Γ e env μ).bind fun p => (asgT t p.1 env).map fun env' => .nx env' p.2 := by rw [ex]
def asLst : D → Option (List D)
  | .lst ds => some ds
  | _ => none
@[simp] theorem asLst_lst {ds : List D} : asLst (.lst ds) = some ds := rfl
@[simp] theorem ex_asgN {i : Nat} {e : E} : ex Φ Γ (.asgN i e) env μ = (ev Φ Γ e env μ).bind fun p => (asLst p.1).bind fun ds => if i < env.length then some (.nx (env.set i (some (.own ds))) p.2) else none := by
  rw [ex]
  congr 1
  funext ⟨x, m⟩
  cases x <;> rfl
@[simp] theorem ex_par {i j : Nat} {a b : E} : ex Φ Γ (.par i j a b) env μ = (ev Φ Γ a env μ).bind fun p => (ev Φ Γ b env p.2).bind fun q => (setV env i p.1).bind fun env1 => (setV env1 j q.1).map fun env2 => .nx env2 q.2 := by rw [ex]
def augS : Operator → D → D → Option D
  | .Add, .int a, .int b => some (.int (a + b)) | .Sub, .int a, .int b => some (.int (a - b))
  | _, _, _ => none
@[simp] theorem augS_add {a b : Int} : augS .Add (.int a) (.int b) = some (.int (a + b)) := rfl
@[simp] theorem augS_sub {a b : Int} : augS .Sub (.int a) (.int b) = some (.int (a - b)) := rfl
@[simp] theorem ex_aug {i : Nat} {op : Operator} {e : E} : ex Φ Γ (.aug i op e) env μ = (getV env i).bind fun x => (ev Φ Γ e env μ).bind fun p => (augS op x p.1).bind fun z => (setV env i z).map fun env' => .nx env' p.2 := by
  rw [ex]
  congr 1
  funext x
  congr 1
  funext ⟨y, m⟩
  cases op <;> cases x <;> cases y <;> rfl
def setmS (env : Env) (μ : Store) (d : D) : D → D → Option Fl
  | .mr c, .int k => (μ[c]?).bind fun ds => (ixN ds.length k).map fun j => .nx env (μ.set c (ds.set j d))
  | _, _ => none
@[simp] theorem setmS_mr {d : D} {c : Nat} {k : Int} : setmS env μ d (.mr c) (.int k) = (μ[c]?).bind fun ds => (ixN ds.length k).map fun j => .nx env (μ.set c (ds.set j d)) := rfl
@[simp] theorem ex_dNew {i : Nat} : ex Φ Γ (.dNew i) env μ = if i < env.length then some (.nx (env.set i (some (.dct []))) μ) else none := by rw [ex]
@[simp] theorem ex_dPut {i : Nat} {k e : E} : ex Φ Γ (.dPut i k e) env μ = (ev Φ Γ e env μ).bind fun p => (ev Φ Γ k env p.2).bind fun q => (getD' env i).bind fun kvs => (keyS q.1).bind fun k' => if kvs.length < SZ then some (.nx (env.set i (some (.dct (dPutS kvs k' p.1)))) q.2) else none := by rw [ex]
@[simp] theorem ex_ext {i : Nat} {e : E} : ex Φ Γ (.ext i e) env μ = (ev Φ Γ e env μ).bind fun p => (getO env i).bind fun ds => (asLst p.1).bind fun es => if ds.length + es.length ≤ SZ then some (.nx (env.set i (some (.own (ds ++ es)))) p.2) else none := by
  rw [ex]
  congr 1
  funext ⟨x, m⟩
  dsimp only
  congr 1
  funext ds
  cases x <;> rfl
@[simp] theorem ex_setm {o i e : E} : ex Φ Γ (.setm o i e) env μ = (ev Φ Γ e env μ).bind fun p => (ev Φ Γ o env p.2).bind fun q => (ev Φ Γ i env q.2).bind fun r => setmS env r.2 p.1 q.1 r.1 := by
  rw [ex]
  rfl
@[simp] theorem ex_ret {e : E} : ex Φ Γ (.ret e) env μ = (ev Φ Γ e env μ).map fun p => .rt p.1 p.2 := by rw [ex]
@[simp] theorem ex_retN : ex Φ Γ .retN env μ = some (.rt .non μ) := by rw [ex]
@[simp] theorem ex_iff {c : E} {a b : List S} : ex Φ Γ (.iff c a b) env μ = (evT Φ Γ c env μ).bind fun p => if p.1 then exs Φ Γ a env p.2 else exs Φ Γ b env p.2 := by rw [ex]
theorem ex_wh {c : E} {b : List S} : ex Φ Γ (.wh c b) env μ = whS (fun env' μ' => evT Φ Γ c env' μ') (fun env' μ' => exs Φ Γ b env' μ') env μ := by rw [ex]
theorem ex_for {t : T} {it : I} {b : List S} : ex Φ Γ (.for t it b) env μ = (evI Φ Γ it env μ).bind fun p => forS t (fun env' μ' => exs Φ Γ b env' μ') p.1 env p.2 := by rw [ex]
@[simp] theorem ex_brk : ex Φ Γ .brk env μ = some (.bk env μ) := by rw [ex]
@[simp] theorem ex_cont : ex Φ Γ .cont env μ = some (.ct env μ) := by rw [ex]
@[simp] theorem ex_pass : ex Φ Γ .pass env μ = some (.nx env μ) := by rw [ex]
@[simp] theorem ex_frz {i : Nat} {s : S} : ex Φ Γ (.frz i s) env μ = (getO env i).bind fun ds => ex Φ Γ s (env.set i (some (.val (.lst ds)))) μ := by rw [ex]
end
/-! slots -/
section
variable {d : D} {x : Option SV} {env : Env} {i : Nat} {ds : List D}
@[simp] theorem getV_0 : getV (some (.val d) :: env) 0 = some d := rfl
@[simp] theorem getV_s : getV (x :: env) (i + 1) = getV env i := by simp [getV]
@[simp] theorem getD_0 {kvs : List (NestedKey × D)} : getD' (some (.dct kvs) :: env) 0 = some kvs := rfl
@[simp] theorem getD_s : getD' (x :: env) (i + 1) = getD' env i := by simp [getD']
@[simp] theorem getO_0 : getO (some (.own ds) :: env) 0 = some ds := rfl
@[simp] theorem getO_s : getO (x :: env) (i + 1) = getO env i := by simp [getO]
@[simp] theorem setV_0 : setV (x :: env) 0 d = some (some (.val d) :: env) := by simp [setV]
@[simp] theorem setV_s : setV (x :: env) (i + 1) d = (setV env i d).map fun e => x :: e := by
  unfold setV
  by_cases h : i < env.length
  · rw [if_pos h, if_pos (by simpa using h)]; rfl
  · rw [if_neg h, if_neg (by simpa using h)]; rfl
@[simp] theorem asgT_nm : asgT (.nm i) d env = setV env i d := by rw [asgT]
@[simp] theorem asgT_tp {ts : List T} : asgT (.tp ts) (.tup ds) env = asgTs ts ds env := by rw [asgT]
@[simp] theorem asgTs_nil : asgTs [] [] env = some env := by rw [asgTs]
@[simp] theorem asgTs_cons {t : T} {ts : List T} : asgTs (t :: ts) (d :: ds) env = (asgT t d env).bind fun e => asgTs ts ds e := by rw [asgTs]
@[simp] theorem wipeE_nil : wipeE env [] = env := rfl
@[simp] theorem wipeE_cons {vs : List Nat} : wipeE env (i :: vs) = (wipeE env vs).set i none := rfl
end
/-! operations -/
section
variable {i j : Int} {a b : List D} {d e : D} {μ : Store}
@[simp] theorem binS_add : binS .Add (.int i) (.int j) = some (.int (i + j)) := rfl
@[simp] theorem binS_sub : binS .Sub (.int i) (.int j) = some (.int (i - j)) := rfl
@[simp] theorem binS_mul : binS .Mult (.int i) (.int j) = if mulOk i j then some (.int (i * j)) else none := rfl
@[simp] theorem binS_fdiv : binS .FloorDiv (.int i) (.int j) = if divOk j then some (.int (i / j)) else none := rfl
@[simp] theorem binS_mod : binS .Mod (.int i) (.int j) = if j != 0 then some (.int (i.fmod j)) else none := rfl
@[simp] theorem binS_tup : binS .Add (.tup a) (.tup b) = if a.length + b.length ≤ SZ then some (.tup (a ++ b)) else none := rfl
@[simp] theorem binS_lst : binS .Add (.lst a) (.lst b) = if a.length + b.length ≤ SZ then some (.lst (a ++ b)) else none := rfl
@[simp] theorem asInt_int : asInt (.int i) = some i := rfl
@[simp] theorem cmpS_lt : cmpS .Lt (.int i) (.int j) = some (decide (i < j)) := rfl
@[simp] theorem cmpS_le : cmpS .LtE (.int i) (.int j) = some (decide (i ≤ j)) := rfl
@[simp] theorem cmpS_gt : cmpS .Gt (.int i) (.int j) = some (decide (j < i)) := rfl
@[simp] theorem cmpS_ge : cmpS .GtE (.int i) (.int j) = some (decide (j ≤ i)) := rfl
@[simp] theorem cmpS_eq : cmpS .Eq d e = eqS d e := by cases d <;> cases e <;> rfl
@[simp] theorem cmpS_is {a b : Bool} : cmpS .Is (.bl a) (.bl b) = some (decide (a = b)) := rfl
@[simp] theorem cmpS_isnot {a b : Bool} : cmpS .IsNot (.bl a) (.bl b) = some (!decide (a = b)) := rfl
@[simp] theorem binS_shr {i j : Int} : binS .RShift (.int i) (.int j) = if decide (0 ≤ j) then some (.int (i / 2 ^ j.toNat)) else none := rfl
@[simp] theorem binS_and {i j : Int} : binS .BitAnd (.int i) (.int j) = if decide (0 ≤ i) && decide (j = 1) then some (.int (i % 2)) else none := rfl
@[simp] theorem cmpS_ne : cmpS .NotEq d e = (eqS d e).map not := by cases d <;> cases e <;> rfl
@[simp] theorem eqS_int' : eqS (.int i) (.int j) = some (decide (i = j)) := by rw [eqS_int]; congr 1
@[simp] theorem eqS_bl' {x y : Bool} : eqS (.bl x) (.bl y) = some (x == y) := eqS_bl x y
@[simp] theorem isNon_non : isNon .non = true := rfl
@[simp] theorem isNon_tup : isNon (.tup a) = false := rfl
@[simp] theorem isNon_lst : isNon (.lst a) = false := rfl
@[simp] theorem isNon_int : isNon (.int i) = false := rfl
@[simp] theorem isNon_bl {x : Bool} : isNon (.bl x) = false := rfl
@[simp] theorem isNon_str {x : Str} : isNon (.str x) = false := rfl
@[simp] theorem truS_bl {x : Bool} : truS (.bl x) = some x := rfl
@[simp] theorem truS_non : truS .non = some false := rfl
@[simp] theorem truS_int : truS (.int i) = some (i != 0) := rfl
@[simp] theorem truS_tup : truS (.tup a) = some (!a.isEmpty) := rfl
@[simp] theorem truS_lst : truS (.lst a) = some (!a.isEmpty) := rfl
@[simp] theorem itsS_tup : itsS μ (.tup a) = some a := rfl
@[simp] theorem itsS_lst : itsS μ (.lst a) = some a := rfl
@[simp] theorem itsS_scr : itsS μ (.scr a) = some a := rfl
@[simp] theorem itsS_mr {n : Nat} : itsS μ (.mr n) = μ[n]? := rfl
@[simp] theorem lstS_lst : lstS μ (.lst a) = some a := rfl
@[simp] theorem lstS_scr : lstS μ (.scr a) = some a := rfl
@[simp] theorem ixS_int : ixS μ d (.int i) = (itsS μ d).bind fun ds => atI ds i := rfl
theorem atI_0 : atI (d :: a) 0 = some d := by simp [atI, ixN]
theorem atI_neg1 {d : D} : atI [d] (-1) = some d := by simp [atI, ixN]
theorem atI_s {n : Nat} : atI (d :: a) ((n + 1 : Nat) : Int) = atI a (n : Int) := by
  unfold atI ixN
  by_cases h : (n : Int) < a.length
  · rw [if_pos (by omega), if_pos (by simp; omega), if_pos (by omega), if_pos h]
    simp
  · rw [if_pos (by omega), if_neg (by simp; omega), if_pos (by omega), if_neg h]
    rfl
@[simp] theorem slcS_tup {lo hi : Option Int} : slcS (.tup a) lo hi = some (.tup (cutS a lo hi)) := rfl
@[simp] theorem slcS_lst {lo hi : Option Int} : slcS (.lst a) lo hi = some (.lst (cutS a lo hi)) := rfl
@[simp] theorem biS_len : biS μ .len [d] = (itsS μ d).map fun ds => .int ds.length := rfl
@[simp] theorem biS_abs : biS μ .abs [.int i] = some (.int (if i < 0 then -i else i)) := rfl
@[simp] theorem biS_max2 : biS μ .max [.int i, .int j] = some (.int (if j > i then j else i)) := rfl
@[simp] theorem biS_min2 : biS μ .min [.int i, .int j] = some (.int (if j < i then j else i)) := rfl
@[simp] theorem biS_sum : biS μ .sum [d] = (lstS μ d).bind fun ds => (asInts ds).map fun is => .int is.sum := rfl
@[simp] theorem biS_tuple : biS μ .tuple [d] = (itsS μ d).map .tup := rfl
@[simp] theorem biS_list : biS μ .list [d] = (itsS μ d).map .lst := rfl
@[simp] theorem biS_int : biS μ .int [.int i] = some (.int i) := rfl
@[simp] theorem biS_intb {x : Bool} : biS μ .int [.bl x] = some (.int (if x then 1 else 0)) := rfl
@[simp] theorem isiS_non {t : Ty} : isiS .non t = some false := by cases t <;> rfl
@[simp] theorem isiS_bl {x : Bool} {t : Ty} : isiS (.bl x) t = some (t == .bool || t == .int) := by cases t <;> rfl
@[simp] theorem isiS_int {t : Ty} : isiS (.int i) t = some (t == .int) := by cases t <;> rfl
@[simp] theorem isiS_str {x : Str} {t : Ty} : isiS (.str x) t = some (t == .str) := by cases t <;> rfl
@[simp] theorem isiS_tup {t : Ty} : isiS (.tup a) t = some (t == .tup) := by cases t <;> rfl
@[simp] theorem isiS_lst {t : Ty} : isiS (.lst a) t = some (t == .lst) := by cases t <;> rfl
end
/-! comprehensions over written lists -/
section
variable {t : T} {c : Env → Store → Option (Bool × Store)} {f : Env → Store → Option (D × Store)} {env : Env} {μ : Store} {d : D} {ds : List D}
@[simp] theorem lcS_nil : lcS t c f env [] μ = some ([], μ) := rfl
theorem lcS_cons : lcS t c f env (d :: ds) μ = (asgT t d env).bind fun e => (c e μ).bind fun p =>
    if p.1 then (f e p.2).bind fun q => (lcS t c f env ds q.2).map fun r => (q.1 :: r.1, r.2) else lcS t c f env ds p.2 := rfl
/-- each item kept, its value a function of it -/
theorem lcS_map {α : Type} {g : α → D} {h : α → D} (hk : ∀ a, ∃ e, asgT t (g a) env = some e ∧ c e μ = some (true, μ) ∧ f e μ = some (h a, μ)) : ∀ l : List α, lcS t c f env (l.map g) μ = some (l.map h, μ)
  | [] => rfl
  | a :: l => by
    obtain ⟨e, h1, h2, h3⟩ := hk a
    rw [List.map_cons, lcS_cons, h1]
    simp only [Option.bind_some, h2, if_true, h3, lcS_map hk l, Option.map_some, List.map_cons]
end
end Py
end
section
set_option Elab.async false
set_option linter.all false
namespace Py
open PySem L2
theorem szle {n : Nat} (h : n ≤ 16777216) : (n ≤ SZ) = True := eq_true (by unfold SZ; exact h)
theorem szlt {n : Nat} (h : n < 16777216) : (n < SZ) = True := eq_true (by unfold SZ; exact h)
end Py
end
section
set_option Elab.async false
set_option linter.all false
namespace FM
/-! ### Fourier and Motzkin, in plain Lean -/
structure Rw where
  f : List Rat
  r : Rat
  s : Bool
  w : List Rat
def dot : List Rat → List Rat → Rat
  | a :: as, b :: bs => a * b + dot as bs
  | _, _ => 0
def okv (s : Bool) (v : Rat) : Prop := if s then 0 < v else 0 ≤ v
def Rw.ok (R : Rw) (x : List Rat) : Prop := okv R.s (dot R.f x + R.r)
def Sat (rs : List Rw) (x : List Rat) : Prop := ∀ R ∈ rs, R.ok x
def Rw.scale (R : Rw) (c : Rat) : Rw := ⟨R.f.map (c * ·), c * R.r, R.s, R.w.map (c * ·)⟩
def addL : List Rat → List Rat → List Rat
  | a :: as, b :: bs => (a + b) :: addL as bs
  | _, _ => []
def Rw.sum (R S : Rw) : Rw := ⟨addL R.f S.f, R.r + S.r, R.s || S.s, addL R.w S.w⟩
theorem okv_scale {s : Bool} {v c : Rat} (hc : 0 < c) : okv s (c * v) ↔ okv s v := by
  unfold okv
  have h0 : (0 : Rat) ≤ c := Rat.le_of_lt hc
  split
  · constructor
    · intro h
      refine Rat.not_le.mp fun h' => ?_
      have := Rat.mul_le_mul_of_nonneg_left h' h0
      grind
    · intro h; exact Rat.mul_pos hc h
  · constructor
    · intro h
      refine Rat.not_lt.mp fun h' => ?_
      have := Rat.mul_lt_mul_of_pos_left h' hc
      grind
    · intro h; exact Rat.mul_nonneg h0 h
theorem dot_scale (c : Rat) : ∀ f x : List Rat, dot (f.map (c * ·)) x = c * dot f x
  | [], _ => by simp [dot]
  | _ :: _, [] => by simp [dot]
  | a :: f, b :: x => by
    simp only [List.map_cons, dot, dot_scale c f x]
    grind
theorem scale_ok {R : Rw} {c : Rat} {x : List Rat} (hc : 0 < c) : (R.scale c).ok x ↔ R.ok x := by
  unfold Rw.ok Rw.scale
  rw [dot_scale, show c * dot R.f x + c * R.r = c * (dot R.f x + R.r) by grind]
  exact okv_scale hc
theorem dot_add : ∀ f g x : List Rat, f.length = g.length → dot (addL f g) x = dot f x + dot g x
  | [], [], _, _ => by simp only [dot, addL]; grind
  | a :: f, b :: g, [], _ => by simp only [dot, addL]; grind
  | a :: f, b :: g, c :: x, h => by
    simp only [addL, dot, dot_add f g x (by simpa using h)]
    grind
  | [], _ :: _, _, h => by simp at h
  | _ :: _, [], _, h => by simp at h
theorem dot_zero : ∀ f x : List Rat, (∀ a ∈ f, a = 0) → dot f x = 0
  | [], _, _ => by simp [dot]
  | _ :: _, [], _ => by simp [dot]
  | a :: f, b :: x, h => by
    have h1 := h a (by simp)
    have h2 := dot_zero f x (fun y hy => h y (by simp [hy]))
    simp only [dot, h1, h2]
    grind
theorem dot_set : ∀ (f x : List Rat) (i : Nat) (t : Rat), i < f.length → i < x.length → dot f (x.set i t) = dot f x + (f.getD i 0) * (t - x.getD i 0)
  | a :: f, b :: x, 0, t, _, _ => by simp only [List.set_cons_zero, dot, List.getD_cons_zero]; grind
  | a :: f, b :: x, i + 1, t, h1, h2 => by
    simp only [List.set_cons_succ, dot, List.getD_cons_succ, dot_set f x i t (by simpa using h1) (by simpa using h2)]
    grind
/-! ### the least form of a list of rows -/
def Rw.nothing (R : Rw) : Bool := R.f.all (fun a => decide (a = 0)) && (decide (0 < R.r) || (decide (R.r = 0) && !R.s))
def Rw.against (R : Rw) : Bool := R.f.all (fun a => decide (a = 0)) && !R.nothing
theorem nothing_ok {R : Rw} (h : R.nothing = true) (x : List Rat) : R.ok x := by
  unfold Rw.nothing at h
  simp only [Bool.and_eq_true, List.all_eq_true, decide_eq_true_eq, Bool.or_eq_true, Bool.not_eq_true'] at h
  unfold Rw.ok okv
  rw [dot_zero _ _ h.1]
  rcases h.2 with h2 | ⟨h2, h3⟩
  · split <;> grind
  · rw [h3, if_neg Bool.false_ne_true]; grind
theorem against_not {R : Rw} (h : R.against = true) (x : List Rat) : ¬ R.ok x := by
  unfold Rw.against at h
  simp only [Bool.and_eq_true, List.all_eq_true, decide_eq_true_eq, Bool.not_eq_true'] at h
  obtain ⟨h1, h2⟩ := h
  unfold Rw.ok okv
  rw [dot_zero _ _ h1]
  unfold Rw.nothing at h2
  have h3 : R.f.all (fun a => decide (a = 0)) = true := by simpa [List.all_eq_true] using h1
  rw [h3, Bool.true_and] at h2
  simp only [Bool.or_eq_false_iff, decide_eq_false_iff_not, Bool.and_eq_false_iff, Bool.not_eq_false'] at h2
  split
  · rename_i hs
    grind
  · rename_i hs
    rcases h2.2 with h4 | h4
    · grind
    · exact absurd h4 hs
def firstNZ (f : List Rat) : Option Rat := f.find? fun a => decide (a ≠ 0)
def absR (t : Rat) : Rat := if 0 < t then t else -t
def Rw.even (R : Rw) : Rw := match firstNZ R.f with
  | none => R
  | some t => R.scale (1 / absR t)
theorem absR_pos {t : Rat} (h : t ≠ 0) : 0 < absR t := by
  unfold absR
  split <;> grind
theorem inv_pos' {t : Rat} (h : 0 < t) : 0 < 1 / t := by
  rw [Rat.div_def, Rat.one_mul]; exact Rat.inv_pos.mpr h
theorem even_ok {R : Rw} {x : List Rat} : R.even.ok x ↔ R.ok x := by
  unfold Rw.even
  split
  · exact Iff.rfl
  · rename_i t h
    have : t ≠ 0 := by simpa [firstNZ] using List.find?_some h
    exact scale_ok (inv_pos' (absR_pos this))
def binds (R S : Rw) : Bool := decide (R.r < S.r) || (decide (R.r = S.r) && (R.s || !S.s))
theorem binds_ok {R S : Rw} (hf : R.f = S.f) (h : binds R S = true) {x : List Rat} (hx : R.ok x) : S.ok x := by
  unfold binds at h
  simp only [Bool.or_eq_true, decide_eq_true_eq, Bool.and_eq_true, Bool.not_eq_true'] at h
  unfold Rw.ok okv at hx ⊢
  rw [hf] at hx
  rcases h with h | ⟨h, h2⟩
  · split at hx <;> split <;> grind
  · rw [h] at hx
    rcases h2 with h2 | h2
    · rw [h2, if_pos rfl] at hx
      split <;> grind
    · rw [h2, if_neg Bool.false_ne_true]
      split at hx <;> grind
theorem binds_not {R S : Rw} (hf : R.f = S.f) (h : binds R S = false) {x : List Rat} (hx : S.ok x) : R.ok x := by
  refine binds_ok hf.symm ?_ hx
  unfold binds at h ⊢
  simp only [Bool.or_eq_false_iff, decide_eq_false_iff_not, Bool.and_eq_false_iff, Bool.or_eq_false_iff, Bool.not_eq_false'] at h
  simp only [Bool.or_eq_true, decide_eq_true_eq, Bool.and_eq_true, Bool.not_eq_true']
  rcases h.2 with h2 | ⟨h2, h3⟩
  · exact .inl (by grind)
  · by_cases e : S.r < R.r
    · exact .inl e
    · exact .inr ⟨by grind, .inl h3⟩

/-! ### strongest: one row for each direction -/
def look (kvs : List (List Rat × Rw)) (k : List Rat) : Option Rw := (kvs.find? fun x => decide (x.1 = k)).map (·.2)
def put (kvs : List (List Rat × Rw)) (k : List Rat) (R : Rw) : List (List Rat × Rw) := if (look kvs k).isSome then kvs.map fun x => if x.1 = k then (x.1, R) else x else kvs ++ [(k, R)]
def sStep (kvs : List (List Rat × Rw)) (row : Rw) : List (List Rat × Rw) :=
  let R := row.even
  if R.nothing then kvs else match look kvs R.f with
    | none => put kvs R.f R
    | some S => if binds S R then kvs else put kvs R.f R
def strongest (rows : List Rw) : List Rw := (rows.foldl sStep []).map (·.2)
def Keyed (kvs : List (List Rat × Rw)) : Prop := (∀ p ∈ kvs, p.2.f = p.1) ∧ (kvs.map (·.1)).Nodup
theorem look_some {kvs : List (List Rat × Rw)} {k : List Rat} {R : Rw} (h : look kvs k = some R) : (k, R) ∈ kvs := by
  unfold look at h
  obtain ⟨p, h1, h2⟩ := Option.map_eq_some_iff.mp h
  have h3 := List.find?_some h1
  have h4 := List.mem_of_find?_eq_some h1
  have : p.1 = k := by simpa using h3
  rw [← h2, ← this]; exact h4
theorem look_none {kvs : List (List Rat × Rw)} {k : List Rat} (h : look kvs k = none) : ∀ p ∈ kvs, p.1 ≠ k := by
  unfold look at h
  rw [Option.map_eq_none_iff, List.find?_eq_none] at h
  intro p hp e
  exact h p hp (by simp [e])
theorem mem_put {kvs : List (List Rat × Rw)} {k : List Rat} {R : Rw} {p : List Rat × Rw} (h : p ∈ put kvs k R) : p = (k, R) ∨ (p ∈ kvs ∧ p.1 ≠ k) := by
  unfold put at h
  split at h
  · obtain ⟨q, h1, h2⟩ := List.mem_map.mp h
    split at h2
    · rename_i e; left; rw [← h2, e]
    · right; rw [← h2]; exact ⟨h1, ‹_›⟩
  · rename_i hn
    have hl : look kvs k = none := by simpa using hn
    rcases List.mem_append.mp h with h | h
    · exact .inr ⟨h, look_none hl p h⟩
    · left; simpa using h
theorem put_mem {kvs : List (List Rat × Rw)} {k : List Rat} {R : Rw} : (k, R) ∈ put kvs k R := by
  unfold put
  split
  · rename_i h
    obtain ⟨S, hS⟩ := Option.isSome_iff_exists.mp h
    exact List.mem_map.mpr ⟨(k, S), look_some hS, by simp⟩
  · simp
theorem mem_put_of {kvs : List (List Rat × Rw)} {k : List Rat} {R : Rw} {p : List Rat × Rw} (h : p ∈ kvs) (hk : p.1 ≠ k) : p ∈ put kvs k R := by
  unfold put
  split
  · exact List.mem_map.mpr ⟨p, h, by simp [hk]⟩
  · simp [h]
theorem put_keys {kvs : List (List Rat × Rw)} {k : List Rat} {R : Rw} : (put kvs k R).map (·.1) = if (look kvs k).isSome then kvs.map (·.1) else kvs.map (·.1) ++ [k] := by
  unfold put
  split
  · rw [List.map_map]
    refine List.map_congr_left fun p _ => ?_
    simp only [Function.comp]
    split <;> rfl
  · simp
theorem keyed_put {kvs : List (List Rat × Rw)} {R : Rw} (h : Keyed kvs) : Keyed (put kvs R.f R) := by
  refine ⟨fun p hp => ?_, ?_⟩
  · rcases mem_put hp with e | ⟨h1, _⟩
    · rw [e]
    · exact h.1 p h1
  · rw [put_keys]
    split
    · exact h.2
    · rename_i hn
      have hl : look kvs R.f = none := by simpa using hn
      rw [List.nodup_append]
      refine ⟨h.2, by simp, fun a ha b hb e => ?_⟩
      obtain ⟨p, hp, rfl⟩ := List.mem_map.mp ha
      exact look_none hl p hp (by rw [e]; simpa using hb)
def SatK (kvs : List (List Rat × Rw)) (x : List Rat) : Prop := ∀ p ∈ kvs, p.2.ok x
theorem keyed_unique {kvs : List (List Rat × Rw)} (h : Keyed kvs) {p q : List Rat × Rw} (hp : p ∈ kvs) (hq : q ∈ kvs) (e : p.1 = q.1) : p = q := by
  have := h.2
  clear h
  induction kvs with
  | nil => cases hp
  | cons a r ih =>
    rw [List.map_cons, List.nodup_cons] at this
    rcases List.mem_cons.mp hp with h1 | h1 <;> rcases List.mem_cons.mp hq with h2 | h2
    · rw [h1, h2]
    · exact absurd (List.mem_map.mpr ⟨q, h2, by rw [← e, h1]⟩) this.1
    · exact absurd (List.mem_map.mpr ⟨p, h1, by rw [e, h2]⟩) this.1
    · exact ih h1 h2 this.2
theorem sStep_ok {kvs : List (List Rat × Rw)} {row : Rw} (h : Keyed kvs) : Keyed (sStep kvs row) ∧ ∀ x, SatK (sStep kvs row) x ↔ (SatK kvs x ∧ row.ok x) := by
  unfold sStep
  generalize hR : row.even = R
  have heq : ∀ x, R.ok x ↔ row.ok x := fun x => by rw [← hR]; exact even_ok
  dsimp only
  by_cases hn : R.nothing = true
  · rw [if_pos hn]
    exact ⟨h, fun x => ⟨fun hx => ⟨hx, (heq x).mp (nothing_ok hn x)⟩, fun hx => hx.1⟩⟩
  · rw [if_neg hn]
    split
    · rename_i hl
      refine ⟨keyed_put h, fun x => ⟨fun hx => ⟨fun p hp => hx p (mem_put_of hp (look_none hl p hp)), (heq x).mp (hx _ put_mem)⟩, fun hx p hp => ?_⟩⟩
      rcases mem_put hp with e | ⟨h1, _⟩
      · rw [e]; exact (heq x).mpr hx.2
      · exact hx.1 p h1
    · rename_i S hl
      have hm := look_some hl
      have hf : S.f = R.f := h.1 _ hm
      split
      · rename_i hb
        exact ⟨h, fun x => ⟨fun hx => ⟨hx, (heq x).mp (binds_ok hf hb (hx _ hm))⟩, fun hx => hx.1⟩⟩
      · rename_i hb
        have hb' : binds S R = false := by simpa using hb
        refine ⟨keyed_put h, fun x => ⟨fun hx => ?_, fun hx p hp => ?_⟩⟩
        · have hRx : R.ok x := hx _ put_mem
          refine ⟨fun p hp => ?_, (heq x).mp hRx⟩
          by_cases e : p.1 = R.f
          · have : p = (R.f, S) := keyed_unique h hp hm e
            rw [this]
            exact binds_not hf hb' hRx
          · exact hx p (mem_put_of hp e)
        · rcases mem_put hp with e | ⟨h1, _⟩
          · rw [e]; exact (heq x).mpr hx.2
          · exact hx.1 p h1
theorem fold_ok : ∀ (rows : List Rw) (kvs : List (List Rat × Rw)), Keyed kvs → Keyed (rows.foldl sStep kvs) ∧ ∀ x, SatK (rows.foldl sStep kvs) x ↔ (SatK kvs x ∧ Sat rows x)
  | [], kvs, h => ⟨h, fun x => ⟨fun hx => ⟨hx, fun _ h => by cases h⟩, fun hx => hx.1⟩⟩
  | row :: rows, kvs, h => by
    obtain ⟨h1, h2⟩ := sStep_ok (row := row) h
    obtain ⟨h3, h4⟩ := fold_ok rows _ h1
    refine ⟨h3, fun x => ?_⟩
    rw [List.foldl_cons, h4, h2]
    constructor
    · rintro ⟨⟨a, b⟩, c⟩
      refine ⟨a, fun R hR => ?_⟩
      rcases List.mem_cons.mp hR with e | e
      · rw [e]; exact b
      · exact c R e
    · rintro ⟨a, b⟩
      exact ⟨⟨a, b row (by simp)⟩, fun R hR => b R (by simp [hR])⟩
theorem strongest_sat (rows : List Rw) (x : List Rat) : Sat (strongest rows) x ↔ Sat rows x := by
  obtain ⟨_, h⟩ := fold_ok rows [] ⟨(fun _ h => by cases h), List.nodup_nil⟩
  have h1 : SatK ([] : List (List Rat × Rw)) x := fun _ h => by cases h
  have h2 := h x
  unfold strongest
  constructor
  · intro hx
    exact (h2.mp fun p hp => hx p.2 (List.mem_map.mpr ⟨p, hp, rfl⟩)).2
  · intro hx R hR
    obtain ⟨p, hp, rfl⟩ := List.mem_map.mp hR
    exact h2.mpr ⟨h1, hx⟩ p hp

/-! ### a quantity taken out -/
theorem okv_lt {s : Bool} {v : Rat} (h : okv s v) : 0 ≤ v := by
  unfold okv at h
  split at h <;> grind
theorem top_low : ∀ (L : List (Rat × Bool)), L ≠ [] → ∃ l ∈ L, ∀ t, okv l.2 (t - l.1) → ∀ l' ∈ L, okv l'.2 (t - l'.1)
  | [l], _ => ⟨l, by simp, fun t h l' hl => by simp at hl; subst hl; exact h⟩
  | l :: m :: L, _ => by
    obtain ⟨k, hk, h⟩ := top_low (m :: L) (by simp)
    by_cases c : k.1 < l.1 ∨ (k.1 = l.1 ∧ l.2 = true)
    · refine ⟨l, by simp, fun t ht l' hl => ?_⟩
      rcases List.mem_cons.mp hl with e | e
      · rw [e]; exact ht
      · refine h t ?_ l' e
        unfold okv at ht ⊢
        rcases c with c | ⟨c, c2⟩
        · split at ht <;> split <;> grind
        · rw [c2, if_pos rfl] at ht
          split <;> grind
    · refine ⟨k, by simp [hk], fun t ht l' hl => ?_⟩
      rcases List.mem_cons.mp hl with e | e
      · rw [e]
        have c1 : ¬ k.1 < l.1 := fun z => c (.inl z)
        have c2 : ¬ (k.1 = l.1 ∧ l.2 = true) := fun z => c (.inr z)
        unfold okv at ht ⊢
        by_cases e2 : k.1 = l.1
        · have e3 : l.2 = false := by
            cases h : l.2 with
            | true => exact absurd ⟨e2, h⟩ c2
            | false => rfl
          rw [e3, if_neg Bool.false_ne_true]
          split at ht <;> grind
        · have : l.1 < k.1 := by grind
          split at ht <;> split <;> grind
      · exact h t ht l' e
theorem top_up (U : List (Rat × Bool)) (h : U ≠ []) : ∃ u ∈ U, ∀ t, okv u.2 (u.1 - t) → ∀ u' ∈ U, okv u'.2 (u'.1 - t) := by
  obtain ⟨l, hl, h1⟩ := top_low (U.map fun u => (-u.1, u.2)) (by simpa using h)
  obtain ⟨u, hu, rfl⟩ := List.mem_map.mp hl
  refine ⟨u, hu, fun t ht u' hu' => ?_⟩
  have := h1 (-t) (by dsimp only; rw [show -t - -u.1 = u.1 - t by grind]; exact ht) (-u'.1, u'.2) (List.mem_map.mpr ⟨u', hu', rfl⟩)
  dsimp only at this
  rwa [show -t - -u'.1 = u'.1 - t by grind] at this
theorem ex_between (L U : List (Rat × Bool)) (h : ∀ l ∈ L, ∀ u ∈ U, okv (l.2 || u.2) (u.1 - l.1)) : ∃ t, (∀ l ∈ L, okv l.2 (t - l.1)) ∧ ∀ u ∈ U, okv u.2 (u.1 - t) := by
  by_cases hL : L = []
  · by_cases hU : U = []
    · subst hL hU; exact ⟨0, (fun _ h => by cases h), fun _ h => by cases h⟩
    · obtain ⟨u, hu, h1⟩ := top_up U hU
      subst hL
      refine ⟨u.1 - 1, (fun _ h => by cases h), h1 _ ?_⟩
      unfold okv
      split <;> grind
  · obtain ⟨l, hl, h1⟩ := top_low L hL
    by_cases hU : U = []
    · subst hU
      refine ⟨l.1 + 1, h1 _ ?_, fun _ h => by cases h⟩
      unfold okv
      split <;> grind
    · obtain ⟨u, hu, h2⟩ := top_up U hU
      have h3 := h l hl u hu
      by_cases hs : (l.2 || u.2) = true
      · rw [hs] at h3
        have h4 : 0 < u.1 - l.1 := by unfold okv at h3; rwa [if_pos rfl] at h3
        refine ⟨(l.1 + u.1) / 2, h1 _ ?_, h2 _ ?_⟩
        · have : (l.1 + u.1) / 2 - l.1 = (u.1 - l.1) / 2 := by grind
          rw [this]
          unfold okv
          split <;> grind
        · have : u.1 - (l.1 + u.1) / 2 = (u.1 - l.1) / 2 := by grind
          rw [this]
          unfold okv
          split <;> grind
      · have hs' : (l.2 || u.2) = false := by simpa using hs
        rw [hs'] at h3
        have h4 : 0 ≤ u.1 - l.1 := okv_lt h3
        simp only [Bool.or_eq_false_iff] at hs'
        refine ⟨l.1, h1 _ ?_, h2 _ ?_⟩
        · unfold okv; rw [hs'.1, if_neg Bool.false_ne_true]; grind
        · unfold okv; rw [hs'.2, if_neg Bool.false_ne_true]; exact h4
def Rw.at (R : Rw) (i : Nat) : Rat := R.f.getD i 0
def elimL (i : Nat) (rows : List Rw) : List Rw :=
  (rows.filter fun R => decide (R.at i = 0)) ++ (rows.filter fun R => decide (0 < R.at i)).flatMap fun one => (rows.filter fun R => decide (R.at i < 0)).map fun other => (one.scale (1 / one.at i)).sum (other.scale (1 / -(other.at i)))
def elim (i : Nat) (rows : List Rw) : List Rw := strongest (elimL i rows)
/-- what is left of a row at a point, without the quantity i -/
def Rw.rest (R : Rw) (i : Nat) (x : List Rat) : Rat := dot R.f x - R.at i * x.getD i 0 + R.r
theorem ok_set {R : Rw} {i : Nat} {x : List Rat} {t : Rat} (h1 : i < R.f.length) (h2 : i < x.length) : R.ok (x.set i t) ↔ okv R.s (R.at i * t + R.rest i x) := by
  unfold Rw.ok Rw.rest
  rw [dot_set _ _ _ _ h1 h2]
  unfold Rw.at
  rw [show dot R.f x + R.f.getD i 0 * (t - x.getD i 0) + R.r = R.f.getD i 0 * t + (dot R.f x - R.f.getD i 0 * x.getD i 0 + R.r) by grind]
theorem ok_rest {R : Rw} {i : Nat} {x : List Rat} : R.ok x ↔ okv R.s (R.at i * x.getD i 0 + R.rest i x) := by
  unfold Rw.ok Rw.rest
  rw [show R.at i * x.getD i 0 + (dot R.f x - R.at i * x.getD i 0 + R.r) = dot R.f x + R.r by grind]
theorem pair_ok {R S : Rw} {i : Nat} {x : List Rat} (hl : R.f.length = S.f.length) (hR : 0 < R.at i) (hS : S.at i < 0) :
    ((R.scale (1 / R.at i)).sum (S.scale (1 / -(S.at i)))).ok x ↔ okv (R.s || S.s) (S.rest i x / -(S.at i) - -(R.rest i x / R.at i)) := by
  unfold Rw.ok Rw.sum Rw.scale Rw.rest
  dsimp only
  rw [dot_add _ _ _ (by simpa using hl), dot_scale, dot_scale]
  generalize R.at i = a at *
  generalize S.at i = b at *
  generalize x.getD i 0 = z
  generalize dot R.f x = p
  generalize dot S.f x = q
  have ha : a ≠ 0 := by grind
  have hb : -b ≠ 0 := by grind
  have e : 1 / a * p + 1 / -b * q + (1 / a * R.r + 1 / -b * S.r) = (q - b * z + S.r) / -b - -((p - a * z + R.r) / a) := by
    grind
  rw [e]

theorem okv_low {s : Bool} {a c t : Rat} (ha : 0 < a) : okv s (a * t + c) ↔ okv s (t - -(c / a)) := by
  rw [show a * t + c = a * (t - -(c / a)) by grind]
  exact okv_scale ha
theorem okv_up {s : Bool} {a c t : Rat} (ha : a < 0) : okv s (a * t + c) ↔ okv s (c / -a - t) := by
  have h : 0 < -a := by grind
  rw [show a * t + c = -a * (c / -a - t) by grind]
  exact okv_scale h
/-- the rows without the quantity i have a point just where the rows have one -/
theorem elim_sat {rows : List Rw} {n i : Nat} {x : List Rat} (hn : ∀ R ∈ rows, R.f.length = n) (hi : i < n) (hx : x.length = n) : Sat (elim i rows) x ↔ ∃ t, Sat rows (x.set i t) := by
  unfold elim
  rw [strongest_sat]
  have hset : ∀ R ∈ rows, ∀ t, R.ok (x.set i t) ↔ okv R.s (R.at i * t + R.rest i x) := fun R hR t => ok_set (by rw [hn R hR]; exact hi) (by rw [hx]; exact hi)
  constructor
  · intro h
    obtain ⟨t, h1, h2⟩ := ex_between ((rows.filter fun R => decide (0 < R.at i)).map fun R => (-(R.rest i x / R.at i), R.s)) ((rows.filter fun R => decide (R.at i < 0)).map fun R => (R.rest i x / -(R.at i), R.s)) (by
      intro l hl u hu
      obtain ⟨R, hR, rfl⟩ := List.mem_map.mp hl
      obtain ⟨S, hS, rfl⟩ := List.mem_map.mp hu
      obtain ⟨hR1, hR2⟩ := List.mem_filter.mp hR
      obtain ⟨hS1, hS2⟩ := List.mem_filter.mp hS
      rw [decide_eq_true_eq] at hR2 hS2
      have := h _ (List.mem_append_right _ (List.mem_flatMap.mpr ⟨R, hR, List.mem_map.mpr ⟨S, hS, rfl⟩⟩))
      exact (pair_ok (by rw [hn R hR1, hn S hS1]) hR2 hS2).mp this)
    refine ⟨t, fun R hR => (hset R hR t).mpr ?_⟩
    by_cases c1 : 0 < R.at i
    · exact (okv_low c1).mpr (h1 (-(R.rest i x / R.at i), R.s) (List.mem_map.mpr ⟨R, List.mem_filter.mpr ⟨hR, by simpa using c1⟩, rfl⟩))
    · by_cases c2 : R.at i < 0
      · exact (okv_up c2).mpr (h2 (R.rest i x / -(R.at i), R.s) (List.mem_map.mpr ⟨R, List.mem_filter.mpr ⟨hR, by simpa using c2⟩, rfl⟩))
      · have c3 : R.at i = 0 := by grind
        have := h R (List.mem_append_left _ (List.mem_filter.mpr ⟨hR, by simpa using c3⟩))
        rw [ok_rest (i := i)] at this
        rw [c3] at this ⊢
        rw [show (0 : Rat) * t + R.rest i x = 0 * x.getD i 0 + R.rest i x by grind]
        exact this
  · rintro ⟨t, h⟩ R hR
    rcases List.mem_append.mp hR with hR | hR
    · obtain ⟨hR1, hR2⟩ := List.mem_filter.mp hR
      rw [decide_eq_true_eq] at hR2
      have := (hset R hR1 t).mp (h R hR1)
      rw [ok_rest (i := i)]
      rw [hR2] at this ⊢
      rw [show (0 : Rat) * x.getD i 0 + R.rest i x = 0 * t + R.rest i x by grind]
      exact this
    · obtain ⟨S, hS, hR⟩ := List.mem_flatMap.mp hR
      obtain ⟨T, hT, rfl⟩ := List.mem_map.mp hR
      obtain ⟨hS1, hS2⟩ := List.mem_filter.mp hS
      obtain ⟨hT1, hT2⟩ := List.mem_filter.mp hT
      rw [decide_eq_true_eq] at hS2 hT2
      have k1 := (okv_low hS2).mp ((hset S hS1 t).mp (h S hS1))
      have k2 := (okv_up hT2).mp ((hset T hT1 t).mp (h T hT1))
      refine (pair_ok (by rw [hn S hS1, hn T hT1]) hS2 hT2).mpr ?_
      generalize -(S.rest i x / S.at i) = l at *
      generalize T.rest i x / -(T.at i) = u at *
      unfold okv at k1 k2 ⊢
      cases e1 : S.s <;> cases e2 : T.s <;> simp only [e1, e2, Bool.or_false, Bool.or_true, Bool.false_eq_true, if_false, if_true] at k1 k2 ⊢ <;> grind
/-! lengths, and what is gone -/
theorem addL_length : ∀ f g : List Rat, f.length = g.length → (addL f g).length = f.length
  | [], [], _ => rfl
  | a :: f, b :: g, h => by simp [addL, addL_length f g (by simpa using h)]
  | [], _ :: _, h => by simp at h
  | _ :: _, [], h => by simp at h
theorem even_length {R : Rw} : R.even.f.length = R.f.length := by
  unfold Rw.even
  split
  · rfl
  · simp [Rw.scale]
theorem strongest_mem {P : Rw → Prop} {rows : List Rw} (h : ∀ R ∈ rows, P R.even) : ∀ R ∈ strongest rows, P R := by
  have key : ∀ (rows : List Rw) (kvs : List (List Rat × Rw)), (∀ R ∈ rows, P R.even) → (∀ p ∈ kvs, P p.2) → ∀ p ∈ rows.foldl sStep kvs, P p.2 := by
    intro rows
    induction rows with
    | nil => intro kvs _ h; exact h
    | cons row rows ih =>
      intro kvs h1 h2
      refine ih _ (fun R hR => h1 R (by simp [hR])) fun p hp => ?_
      have he := h1 row (by simp)
      unfold sStep at hp
      dsimp only at hp
      split at hp
      · exact h2 p hp
      · split at hp
        · rcases mem_put hp with e | ⟨e, _⟩
          · rw [e]; exact he
          · exact h2 p e
        · split at hp
          · exact h2 p hp
          · rcases mem_put hp with e | ⟨e, _⟩
            · rw [e]; exact he
            · exact h2 p e
  intro R hR
  unfold strongest at hR
  obtain ⟨p, hp, rfl⟩ := List.mem_map.mp hR
  exact key rows [] h (fun _ h => by cases h) p hp
theorem strongest_not_nothing {rows : List Rw} : ∀ R ∈ strongest rows, R.nothing = false := by
  have key : ∀ (rows : List Rw) (kvs : List (List Rat × Rw)), (∀ p ∈ kvs, p.2.nothing = false) → ∀ p ∈ rows.foldl sStep kvs, p.2.nothing = false := by
    intro rows
    induction rows with
    | nil => intro kvs h; exact h
    | cons row rows ih =>
      intro kvs h2
      refine ih _ fun p hp => ?_
      unfold sStep at hp
      dsimp only at hp
      split at hp
      · exact h2 p hp
      · rename_i hn
        have he : row.even.nothing = false := by simpa using hn
        split at hp
        · rcases mem_put hp with e | ⟨e, _⟩
          · rw [e]; exact he
          · exact h2 p e
        · split at hp
          · exact h2 p hp
          · rcases mem_put hp with e | ⟨e, _⟩
            · rw [e]; exact he
            · exact h2 p e
  intro R hR
  unfold strongest at hR
  obtain ⟨p, hp, rfl⟩ := List.mem_map.mp hR
  exact key rows [] (fun _ h => by cases h) p hp
end FM
end
section
set_option Elab.async false
set_option linter.all false
namespace Py
open PySem L2
@[simp] theorem cmpS_in {d e : D} : cmpS .In d e = inS d e := by cases d <;> cases e <;> rfl
@[simp] theorem cmpS_notin {d e : D} : cmpS .NotIn d e = (inS d e).map not := by cases d <;> cases e <;> rfl
/-! ### walks over lists, once for all laws -/
theorem lcS_mapM {α : Type} {t : T} {c : Env → Store → Option (Bool × Store)} {f : Env → Store → Option (D × Store)} {env : Env} {μ : Store} {g h : α → D} : ∀ l : List α, (∀ a ∈ l, ∃ e, asgT t (g a) env = some e ∧ c e μ = some (true, μ) ∧ f e μ = some (h a, μ)) → lcS t c f env (l.map g) μ = some (l.map h, μ)
  | [], _ => rfl
  | a :: l, hk => by
    obtain ⟨e, h1, h2, h3⟩ := hk a (by simp)
    rw [List.map_cons, lcS_cons, h1]
    simp -implicitDefEqProofs only [Option.bind_some, h2, if_true, h3, lcS_mapM l (fun x hx => hk x (by simp [hx])), Option.map_some, List.map_cons]
theorem lcS_filterM {α : Type} {t : T} {c : Env → Store → Option (Bool × Store)} {f : Env → Store → Option (D × Store)} {env : Env} {μ : Store} {g h : α → D} {p : α → Bool} : ∀ l : List α, (∀ a ∈ l, ∃ e, asgT t (g a) env = some e ∧ c e μ = some (p a, μ) ∧ (p a = true → f e μ = some (h a, μ))) → lcS t c f env (l.map g) μ = some ((l.filter p).map h, μ)
  | [], _ => rfl
  | a :: l, hk => by
    obtain ⟨e, h1, h2, h3⟩ := hk a (by simp)
    have ih := lcS_filterM l (fun x hx => hk x (by simp [hx]))
    rw [List.map_cons, lcS_cons, h1]
    cases hp : p a with
    | true =>
      rw [hp] at h2
      simp -implicitDefEqProofs only [Option.bind_some, h2, if_true, h3 hp, ih, Option.map_some, List.filter_cons, hp, List.map_cons]
    | false =>
      rw [hp] at h2
      simp -implicitDefEqProofs only [Option.bind_some, h2, Bool.false_eq_true, if_false, ih, List.filter_cons, hp]
theorem ev_lc_map {α : Type} {Φ : FnS} {Γ : GlS} {x : E} {t : T} {it : I} {c : Eo} {vs : List Nat} {env : Env} {μ : Store} {g h : α → D} (l : List α) (hI : evI Φ Γ it env μ = some (l.map g, μ)) (hl : l.length ≤ 16777216)
    (hk : ∀ a ∈ l, ∃ e, asgT t (g a) (wipeE env vs) = some e ∧ evc Φ Γ c e μ = some (true, μ) ∧ ev Φ Γ x e μ = some (h a, μ)) : ev Φ Γ (.lc x t it c vs) env μ = some (.lst (l.map h), μ) := by
  rw [ev_lc, hI]
  simp -implicitDefEqProofs only [Option.bind_some]
  rw [if_pos (by rw [List.length_map]; unfold SZ; exact hl), lcS_mapM l hk]
  rfl
theorem ev_lc_filter {α : Type} {Φ : FnS} {Γ : GlS} {x : E} {t : T} {it : I} {c : Eo} {vs : List Nat} {env : Env} {μ : Store} {g h : α → D} {p : α → Bool} (l : List α) (hI : evI Φ Γ it env μ = some (l.map g, μ)) (hl : l.length ≤ 16777216)
    (hk : ∀ a ∈ l, ∃ e, asgT t (g a) (wipeE env vs) = some e ∧ evc Φ Γ c e μ = some (p a, μ) ∧ (p a = true → ev Φ Γ x e μ = some (h a, μ))) : ev Φ Γ (.lc x t it c vs) env μ = some (.lst ((l.filter p).map h), μ) := by
  rw [ev_lc, hI]
  simp -implicitDefEqProofs only [Option.bind_some]
  rw [if_pos (by rw [List.length_map]; unfold SZ; exact hl), lcS_filterM l hk]
  rfl
/-- [1 for x in xs if not p x], counted -/
theorem none_left {α : Type} (l : List α) (p : α → Bool) : l.all p = decide ((l.filter fun a => !p a).length = 0) := by
  rw [Bool.eq_iff_iff]
  simp [List.all_eq_true, List.filter_eq_nil_iff]
/-- a for that is a fold; the index comes along -/
theorem forS_fold {α σ : Type} {t : T} {b : Env → Store → Option Fl} {μ : Store} (g : α → D) (f : σ → α → σ) (P : Nat → σ → Env → Prop) : ∀ (l : List α) (i : Nat) (s : σ) (env : Env), P i s env →
    (∀ a ∈ l, ∀ j s env, i ≤ j → j < i + l.length → P j s env → ∃ env1 env', asgT t (g a) env = some env1 ∧ (b env1 μ = some (.nx env' μ) ∨ b env1 μ = some (.ct env' μ)) ∧ P (j + 1) (f s a) env') →
    ∃ env', forS t b (l.map g) env μ = some (.nx env' μ) ∧ P (i + l.length) (l.foldl f s) env'
  | [], i, s, env, h, _ => ⟨env, rfl, h⟩
  | a :: l, i, s, env, h, hs => by
    obtain ⟨env1, env', h1, h2, h3⟩ := hs a (by simp) i s env (Nat.le_refl _) (by simp) h
    obtain ⟨env2, h4, h5⟩ := forS_fold g f P l (i + 1) (f s a) env' h3 (fun a' ha' j s' e hj1 hj2 hp => hs a' (by simp [ha']) j s' e (by omega) (by simp only [List.length_cons]; omega) hp)
    refine ⟨env2, ?_, by rw [List.length_cons, List.foldl_cons, show i + (l.length + 1) = i + 1 + l.length by omega]; exact h5⟩
    rw [List.map_cons, forS, h1]
    rcases h2 with h2 | h2
    · simp only [Option.bind_some, h2]; exact h4
    · simp only [Option.bind_some, h2]; exact h4
/-- a for that goes back with the first that is so -/
theorem forS_find {α : Type} {t : T} {b : Env → Store → Option Fl} {μ : Store} (g res : α → D) (p : α → Bool) (P : Env → Prop) : ∀ (l : List α) (env : Env), P env →
    (∀ a ∈ l, ∀ env, P env → ∃ env1, asgT t (g a) env = some env1 ∧ (p a = true → b env1 μ = some (.rt (res a) μ)) ∧ (p a = false → ∃ env', (b env1 μ = some (.nx env' μ) ∨ b env1 μ = some (.ct env' μ)) ∧ P env')) →
    (∃ a ∈ l, l.find? p = some a ∧ forS t b (l.map g) env μ = some (.rt (res a) μ)) ∨ (l.find? p = none ∧ ∃ env', forS t b (l.map g) env μ = some (.nx env' μ) ∧ P env')
  | [], env, h, _ => .inr ⟨rfl, env, rfl, h⟩
  | a :: l, env, h, hs => by
    obtain ⟨env1, h1, h2, h3⟩ := hs a (by simp) env h
    cases hp : p a with
    | true =>
      refine .inl ⟨a, by simp, by rw [List.find?_cons, hp], ?_⟩
      rw [List.map_cons, forS, h1]
      simp only [Option.bind_some, h2 hp]
    | false =>
      obtain ⟨env', h4, h5⟩ := h3 hp
      have e : forS t b ((a :: l).map g) env μ = forS t b (l.map g) env' μ := by
        rw [List.map_cons, forS, h1]
        rcases h4 with h4 | h4 <;> simp only [Option.bind_some, h4]
      rw [e, List.find?_cons, hp]
      rcases forS_find g res p P l env' h5 (fun a' ha' => hs a' (by simp [ha'])) with ⟨a', m1, m2, m3⟩ | ⟨m1, m2⟩
      · exact .inl ⟨a', by simp [m1], m2, m3⟩
      · exact .inr ⟨m1, m2⟩
/-! ratios -/
theorem eqS_pair (a b c d : Int) : eqS (.tup [.int a, .int b]) (.tup [.int c, .int d]) = some (decide (a = c ∧ b = d)) := by
  simp [eqS, toPy, toPys, SeqAt.shaped, PyData.canLay0, PyData.canLayAll0, PyData.depth, PyData.depthAll, PyData.eqv, PyData.eqvAll]
  rfl
theorem rD_zero : rD 0 = .tup [.int 0, .int 1] := rfl
theorem rD_one : rD 1 = .tup [.int 1, .int 1] := rfl
theorem rD_int (i : Int) : rD (i : Rat) = .tup [.int i, .int 1] := rfl
theorem rD_neg' (t : Rat) : rD (-t) = .tup [.int (-t.num), .int t.den] := by
  unfold rD; rw [Rat.neg_num, Rat.neg_den]
theorem eqS_rD (s t : Rat) : eqS (rD s) (rD t) = some (decide (s = t)) := by
  unfold rD
  rw [eqS_pair]
  congr 1
  rw [decide_eq_decide]
  constructor
  · rintro ⟨h1, h2⟩; exact Rat.ext h1 (by exact_mod_cast h2)
  · rintro rfl; exact ⟨rfl, rfl⟩
theorem sz_one {b : Nat} (h : 0 < b) : Sz b 1 := ⟨Nat.one_lt_two_pow (by omega), Nat.one_lt_two_pow (by omega)⟩
theorem sz_zero {b : Nat} (h : 0 < b) : Sz b 0 := ⟨Nat.pos_of_ne_zero (by simp), Nat.one_lt_two_pow (by omega)⟩
theorem num_pos_iff {t : Rat} : 0 < t ↔ 0 < t.num := by rw [Rat.lt_iff]; simp
theorem num_neg_iff {t : Rat} : t < 0 ↔ t.num < 0 := by rw [Rat.lt_iff]; simp
theorem num_zero_iff {t : Rat} : t = 0 ↔ t.num = 0 := by
  constructor
  · rintro rfl; rfl
  · intro h; exact Rat.num_eq_zero.mp h
theorem divInt_pos {p q : Int} (h : 0 < p) (h' : 0 < q) : 0 < Rat.divInt p q := by
  rw [Rat.divInt_eq_div, Rat.div_def]
  exact Rat.mul_pos (by exact_mod_cast h) (Rat.inv_pos.mpr (by exact_mod_cast h'))
/-! ranges -/
theorem rangeD_map (n : Nat) : rangeD 0 n = (List.range n).map fun m : Nat => D.int (m : Int) := by
  unfold rangeD
  refine List.map_congr_left fun i _ => ?_
  rw [Int.zero_add]
theorem rngS_map {n : Nat} (h : n ≤ 16777216) : rngS 0 (n : Int) = some ((List.range n).map fun m : Nat => D.int (m : Int)) := by
  rw [← rangeD_map]
  unfold rngS
  rw [if_pos]
  · simp
  · simp [SZ]; omega
theorem atI_map {α : Type} {g : α → D} {l : List α} {i : Nat} (h : i < l.length) : atI (l.map g) (i : Int) = some (g l[i]) := by
  rw [atI_of (by simpa using h)]; simp
theorem atI_last {α : Type} {g : α → D} {l : List α} {a : α} (h : l.getLast? = some a) : atI (l.map g) (-1) = some (g a) := by
  have hne : l ≠ [] := fun z => by subst z; simp at h
  have hpos : 0 < l.length := List.length_pos_iff.mpr hne
  rw [List.getLast?_eq_getElem?] at h
  unfold atI ixN
  rw [List.length_map]
  simp
  have e : ((-1 : Int) + (l.length : Int)).toNat = l.length - 1 := by omega
  rw [if_pos (by omega), e]
  simp [h]
theorem zipD_map {α β : Type} (f : α → D) (g : β → D) : ∀ (l : List α) (m : List β), zipD (l.map f) (m.map g) = (l.zip m).map fun p => .tup [f p.1, g p.2]
  | [], m => by cases m <;> simp
  | a :: l, [] => by simp
  | a :: l, b :: m => by rw [List.map_cons, List.map_cons, zipD_cons, zipD_map f g l m]; rfl
theorem enumD_map {α : Type} (g : α → D) : ∀ (l : List α) (i : Nat), enumD i (l.map g) = (l.zipIdx i).map fun p => .tup [.int (p.2 : Int), g p.1]
  | [], _ => rfl
  | a :: l, i => by rw [List.map_cons, enumD, enumD_map g l (i + 1), List.zipIdx_cons]; rfl
/-! a deal's place in the store -/
def Sa (a : Nat) : Store := [[.int (a : Int)]]
theorem scalS_Sa {a : Nat} : scalS (Sa a) = true := rfl
theorem lc_draw {α : Type} {t : T} {c : Env → Store → Option (Bool × Store)} {f : Env → Store → Option (D × Store)} {env : Env} {enc : α → D} {P : α → Prop} (s lim : Nat) : ∀ (ds : List D) (a : Nat), a + s * ds.length ≤ lim →
    (∀ d ∈ ds, ∀ a, a + s ≤ lim → ∃ e x a', asgT t d env = some e ∧ c e (Sa a) = some (true, Sa a) ∧ f e (Sa a) = some (enc x, Sa a') ∧ P x ∧ a ≤ a' ∧ a' ≤ a + s) →
    ∃ (xs : List α) (a' : Nat), lcS t c f env ds (Sa a) = some (xs.map enc, Sa a') ∧ xs.length = ds.length ∧ (∀ x ∈ xs, P x) ∧ a ≤ a' ∧ a' ≤ a + s * ds.length
  | [], a, _, _ => ⟨[], a, rfl, rfl, fun _ h => (by cases h), Nat.le_refl _, by simp⟩
  | d :: ds, a, hn, hk => by
    simp only [List.length_cons, Nat.mul_succ] at hn
    obtain ⟨e, x, a1, h1, h2, h3, h4, h5, h6⟩ := hk d (by simp) a (by omega)
    obtain ⟨xs, a', g1, g2, g3, g4, g5⟩ := lc_draw s lim ds a1 (by omega) (fun d' hd' => hk d' (by simp [hd']))
    refine ⟨x :: xs, a', ?_, by simp [g2], ?_, by omega, by simp only [List.length_cons, Nat.mul_succ]; omega⟩
    · rw [lcS_cons, h1]
      simp -implicitDefEqProofs only [Option.bind_some, h2, if_true, h3, g1, Option.map_some, List.map_cons]
    · intro y hy
      rcases List.mem_cons.mp hy with rfl | hy
      · exact h4
      · exact g3 y hy
theorem ev_lc_draw {α : Type} {Φ : FnS} {Γ : GlS} {x : E} {t : T} {it : I} {vs : List Nat} {env : Env} {enc : α → D} {P : α → Prop} {a0 a : Nat} {ds : List D} (s lim : Nat) (hI : evI Φ Γ it env (Sa a0) = some (ds, Sa a)) (hl : ds.length ≤ 16777216) (hn : a + s * ds.length ≤ lim)
    (hk : ∀ d ∈ ds, ∀ a, a + s ≤ lim → ∃ e y a', asgT t d (wipeE env vs) = some e ∧ ev Φ Γ x e (Sa a) = some (enc y, Sa a') ∧ P y ∧ a ≤ a' ∧ a' ≤ a + s) :
    ∃ (xs : List α) (a' : Nat), ev Φ Γ (.lc x t it Eo.none vs) env (Sa a0) = some (.lst (xs.map enc), Sa a') ∧ xs.length = ds.length ∧ (∀ x ∈ xs, P x) ∧ a ≤ a' ∧ a' ≤ a + s * ds.length := by
  obtain ⟨xs, a', g1, g2, g3, g4, g5⟩ := lc_draw (t := t) (c := fun env' μ' => evc Φ Γ Eo.none env' μ') (f := fun env' μ' => ev Φ Γ x env' μ') (env := wipeE env vs) (enc := enc) (P := P) s lim ds a hn (fun d hd a ha => by
    obtain ⟨e, y, a', h1, h2, h3, h4, h5⟩ := hk d hd a ha
    exact ⟨e, y, a', h1, by simp, h2, h3, h4, h5⟩)
  refine ⟨xs, a', ?_, g2, g3, g4, g5⟩
  rw [ev_lc, hI]
  simp -implicitDefEqProofs only [Option.bind_some]
  rw [if_pos (by unfold SZ; exact hl), g1]
  rfl
/-- a draw whose walk knows the item (indexed by l) -/
theorem ev_lc_drawM {α β : Type} {Φ : FnS} {Γ : GlS} {x : E} {t : T} {it : I} {vs : List Nat} {env : Env} {g : α → D} {enc : β → D} {P : α → β → Prop} {a0 a : Nat} (l : List α) (s lim : Nat) (hI : evI Φ Γ it env (Sa a0) = some (l.map g, Sa a)) (hl : l.length ≤ 16777216) (hn : a + s * l.length ≤ lim)
    (hk : ∀ d ∈ l, ∀ a, a + s ≤ lim → ∃ e y a', asgT t (g d) (wipeE env vs) = some e ∧ ev Φ Γ x e (Sa a) = some (enc y, Sa a') ∧ P d y ∧ a ≤ a' ∧ a' ≤ a + s) :
    ∃ (xs : List β) (a' : Nat), ev Φ Γ (.lc x t it Eo.none vs) env (Sa a0) = some (.lst (xs.map enc), Sa a') ∧ xs.length = l.length ∧ (∀ p ∈ l.zip xs, P p.1 p.2) ∧ a ≤ a' ∧ a' ≤ a + s * l.length := by
  have key : ∀ (l : List α) (a : Nat), a + s * l.length ≤ lim → (∀ d ∈ l, ∀ a, a + s ≤ lim → ∃ e y a', asgT t (g d) (wipeE env vs) = some e ∧ ev Φ Γ x e (Sa a) = some (enc y, Sa a') ∧ P d y ∧ a ≤ a' ∧ a' ≤ a + s) →
      ∃ (xs : List β) (a' : Nat), lcS t (fun env' μ' => evc Φ Γ Eo.none env' μ') (fun env' μ' => ev Φ Γ x env' μ') (wipeE env vs) (l.map g) (Sa a) = some (xs.map enc, Sa a') ∧ xs.length = l.length ∧ (∀ p ∈ l.zip xs, P p.1 p.2) ∧ a ≤ a' ∧ a' ≤ a + s * l.length := by
    intro l
    induction l with
    | nil => intro a _ _; exact ⟨[], a, rfl, rfl, fun _ h => (by cases h), Nat.le_refl _, by simp⟩
    | cons d l ih =>
      intro a hn hk
      simp only [List.length_cons, Nat.mul_succ] at hn
      obtain ⟨e, y, a1, h1, h2, h3, h4, h5⟩ := hk d (by simp) a (by omega)
      obtain ⟨xs, a', g1, g2, g3, g4, g5⟩ := ih a1 (by omega) (fun d' hd' => hk d' (by simp [hd']))
      refine ⟨y :: xs, a', ?_, by simp [g2], ?_, by omega, by simp only [List.length_cons, Nat.mul_succ]; omega⟩
      · rw [List.map_cons, lcS_cons, h1]
        simp only [evc_none] at g1
        simp -implicitDefEqProofs only [Option.bind_some, evc_none, if_true, h2, g1, Option.map_some, List.map_cons]
      · intro p hp
        rw [List.zip_cons_cons] at hp
        rcases List.mem_cons.mp hp with rfl | hp
        · exact h3
        · exact g3 p hp
  obtain ⟨xs, a', g1, g2, g3, g4, g5⟩ := key l a hn hk
  refine ⟨xs, a', ?_, g2, g3, g4, g5⟩
  rw [ev_lc, hI]
  simp -implicitDefEqProofs only [Option.bind_some]
  rw [if_pos (by rw [List.length_map]; unfold SZ; exact hl), g1]
  rfl
end Py
end
section
set_option Elab.async false
set_option linter.all false
set_option maxRecDepth 100000
namespace Geo
open PySem L2 Py FM
/-! ### bounds, points, boxes as data -/
structure Bd where
  f : List Rat
  r : Rat
  s : Bool
def bdD (B : Bd) : D := .tup [.tup (B.f.map rD), rD B.r, .bl B.s]
def Bd.val (B : Bd) (x : List Rat) : Rat := dot B.f x + B.r
def okb (s : Bool) (v : Rat) : Bool := if s then decide (0 < v) else decide (0 ≤ v)
theorem okb_iff {s : Bool} {v : Rat} : okb s v = true ↔ okv s v := by
  unfold okb okv; split <;> simp
def BSz (b : Nat) (B : Bd) : Prop := (∀ a ∈ B.f, Sz b a) ∧ Sz b B.r
def keepsB (B : Bd) (x : List Rat) : Bool := okb B.s (B.val x)
def hasB (bs : List Bd) (x : List Rat) : Bool := bs.all fun B => keepsB B x
def bsD (bs : List Bd) : D := .tup (bs.map bdD)
def ptD (x : List Rat) : D := .tup (x.map rD)
def pairD (p : Rat × Rat) : D := .tup [rD p.1, rD p.2]
def boxD (b : List (Rat × Rat)) : D := .tup (b.map pairD)
theorem dot_take : ∀ (f x : List Rat) (i : Nat) (h1 : i < f.length) (h2 : i < x.length), dot (f.take (i + 1)) (x.take (i + 1)) = dot (f.take i) (x.take i) + f[i] * x[i]
  | a :: f, y :: x, 0, _, _ => by simp [dot]; grind
  | a :: f, y :: x, i + 1, h1, h2 => by
    have := dot_take f x i (by simpa using h1) (by simpa using h2)
    simp only [List.take_succ_cons, dot, this, List.getElem_cons_succ]
    grind
theorem sz_add_le {a b m : Nat} {s t : Rat} (h : Sz a s) (h' : Sz b t) (hm : a + b + 1 ≤ m) : Sz m (s + t) := (h.add h').mono hm
def unitL (n i : Nat) (v : Rat) : List Rat := (List.range n).map fun m => if m = i then v else 0
def movedM (x r : List Rat) (t : Rat) : List Rat := (x.zip r).map fun p => p.1 + p.2 * t
theorem movedM_length {x r : List Rat} {t : Rat} (h : x.length = r.length) : (movedM x r t).length = x.length := by unfold movedM; simp [h]
theorem movedM_sz {a b c : Nat} {x r : List Rat} {t : Rat} (hx : ∀ y ∈ x, Sz a y) (hr : ∀ y ∈ r, Sz b y) (ht : Sz c t) : ∀ y ∈ movedM x r t, Sz (a + (b + c) + 1) y := fun y hy => by
  obtain ⟨p, hp, rfl⟩ := List.mem_map.mp hy
  obtain ⟨i1, i2⟩ := List.of_mem_zip (a := p.1) (b := p.2) hp
  exact (hx _ i1).add ((hr _ i2).mul ht)
/-! plain data: numbers, None, texts, and tuples and lists of these -/
def pln : Nat → D → Bool
  | _, .int _ => true | _, .bl _ => true | _, .non => true
  | n + 1, .tup ds => decide (ds.length ≤ 10000) && ds.all (pln n)
  | n + 1, .lst ds => decide (ds.length ≤ 10000) && ds.all (pln n)
  | _, _ => false
theorem plain_rD {n : Nat} {r : Rat} : pln (n + 1) (rD r) = true := by simp [pln, rD]
theorem plain_tup {α : Type} {n : Nat} {g : α → D} {l : List α} (hl : l.length ≤ 10000) (h : ∀ a ∈ l, pln n (g a) = true) : pln (n + 1) (.tup (l.map g)) = true := by
  rw [pln, Bool.and_eq_true, decide_eq_true_iff, List.all_eq_true]
  refine ⟨by simpa using hl, fun d hd => ?_⟩
  obtain ⟨a, ha, rfl⟩ := List.mem_map.mp hd
  exact h a ha
theorem plain_lst {α : Type} {n : Nat} {g : α → D} {l : List α} (hl : l.length ≤ 10000) (h : ∀ a ∈ l, pln n (g a) = true) : pln (n + 1) (.lst (l.map g)) = true := by
  rw [pln, Bool.and_eq_true, decide_eq_true_iff, List.all_eq_true]
  refine ⟨by simpa using hl, fun d hd => ?_⟩
  obtain ⟨a, ha, rfl⟩ := List.mem_map.mp hd
  exact h a ha
theorem plain_ptD {n : Nat} {x : List Rat} (hl : x.length ≤ 10000) : pln (n + 2) (ptD x) = true := plain_tup hl fun _ _ => plain_rD
/-! no lists within -/
theorem noLs_map {α : Type} {g : α → D} {l : List α} (h : ∀ a ∈ l, noL (g a) = true) : noLs (l.map g) = true := by
  induction l with
  | nil => rfl
  | cons a l ih => rw [List.map_cons, noLs, h a (by simp), ih (fun b hb => h b (by simp [hb]))]; rfl
theorem noL_rD {r : Rat} : noL (rD r) = true := rfl
theorem noL_ptD {x : List Rat} : noL (ptD x) = true := by unfold ptD; rw [noL]; exact noLs_map fun _ _ => noL_rD
end Geo
end
section
set_option Elab.async false
set_option linter.all false
set_option maxRecDepth 100000
set_option maxHeartbeats 0
namespace P19
open PySem L2 Py
def top (i : Nat) : Stmt := PySem.Challenge.pw_surepilot_k19_whole_courses_and_where_le.main.body.getD i (.Pass ⟨0, 0, 0, 0⟩)
/-- greatest_divisor(p, q) -/
def l1_greatest_divisor : List S := [(S.par 0 1 (E.slot 1) (E.bin .Mod (E.slot 0) (E.slot 1)))]
def b_greatest_divisor : List S := [
  (S.wh (E.cmp .NotEq (E.slot 1) (E.int 0)) l1_greatest_divisor),
  (S.ret (E.bi .abs (E.slot 0) Es.nil))]
def p_greatest_divisor : PF := ⟨"greatest_divisor", ["p", "q"], ⟨2, 2, b_greatest_divisor⟩, top 2⟩
/-- ratio(p, q) -/
def b_ratio : List S := [
  (S.iff (E.cmp .Lt (E.slot 1) (E.int 0)) [(S.asg (T.nm 0) (E.neg (E.slot 0))), (S.asg (T.nm 1) (E.neg (E.slot 1)))] []),
  (S.asg (T.nm 2) (E.call 0 (E.slot 0) (Es.cons (E.slot 1) Es.nil))),
  (S.ret (E.tup (Es.cons (E.bin .FloorDiv (E.slot 0) (E.slot 2)) (Es.cons (E.bin .FloorDiv (E.slot 1) (E.slot 2)) Es.nil))))]
def p_ratio : PF := ⟨"ratio", ["p", "q", "shared"], ⟨2, 3, b_ratio⟩, top 3⟩
/-- added(s, t) -/
def b_added : List S := [
  (S.ret (E.call 1 (E.bin .Add (E.bin .Mult (E.ix (E.slot 0) (E.int 0)) (E.ix (E.slot 1) (E.int 1))) (E.bin .Mult (E.ix (E.slot 1) (E.int 0)) (E.ix (E.slot 0) (E.int 1)))) (Es.cons (E.bin .Mult (E.ix (E.slot 0) (E.int 1)) (E.ix (E.slot 1) (E.int 1))) Es.nil)))]
def p_added : PF := ⟨"added", ["s", "t"], ⟨2, 2, b_added⟩, top 4⟩
/-- opposite(t) -/
def b_opposite : List S := [
  (S.ret (E.tup (Es.cons (E.neg (E.ix (E.slot 0) (E.int 0))) (Es.cons (E.ix (E.slot 0) (E.int 1)) Es.nil))))]
def p_opposite : PF := ⟨"opposite", ["t"], ⟨1, 1, b_opposite⟩, top 5⟩
/-- less(s, t) -/
def b_less : List S := [
  (S.ret (E.call 2 (E.slot 0) (Es.cons (E.call 3 (E.slot 1) Es.nil) Es.nil)))]
def p_less : PF := ⟨"less", ["s", "t"], ⟨2, 2, b_less⟩, top 6⟩
/-- times(s, t) -/
def b_times : List S := [
  (S.ret (E.call 1 (E.bin .Mult (E.ix (E.slot 0) (E.int 0)) (E.ix (E.slot 1) (E.int 0))) (Es.cons (E.bin .Mult (E.ix (E.slot 0) (E.int 1)) (E.ix (E.slot 1) (E.int 1))) Es.nil)))]
def p_times : PF := ⟨"times", ["s", "t"], ⟨2, 2, b_times⟩, top 7⟩
/-- over(s, t) -/
def b_over : List S := [
  (S.ret (E.call 1 (E.bin .Mult (E.ix (E.slot 0) (E.int 0)) (E.ix (E.slot 1) (E.int 1))) (Es.cons (E.bin .Mult (E.ix (E.slot 0) (E.int 1)) (E.ix (E.slot 1) (E.int 0))) Es.nil)))]
def p_over : PF := ⟨"over", ["s", "t"], ⟨2, 2, b_over⟩, top 8⟩
/-- compare(s, t) -/
def b_compare : List S := [
  (S.asg (T.nm 2) (E.bin .Sub (E.bin .Mult (E.ix (E.slot 0) (E.int 0)) (E.ix (E.slot 1) (E.int 1))) (E.bin .Mult (E.ix (E.slot 1) (E.int 0)) (E.ix (E.slot 0) (E.int 1))))),
  (S.iff (E.cmp .Lt (E.slot 2) (E.int 0)) [(S.ret (E.neg (E.int 1)))] []),
  (S.iff (E.cmp .Gt (E.slot 2) (E.int 0)) [(S.ret (E.int 1))] []),
  (S.ret (E.int 0))]
def p_compare : PF := ⟨"compare", ["s", "t", "difference"], ⟨2, 3, b_compare⟩, top 9⟩
/-- blended(weights, ratios) -/
def l1_blended : List S := [(S.iff (E.and (E.cmp .NotEq (E.slot 3) (E.glob 0)) (Es.cons (E.cmp .NotEq (E.slot 4) (E.glob 0)) Es.nil)) [(S.asg (T.nm 2) (E.call 2 (E.slot 2) (Es.cons (E.call 5 (E.slot 3) (Es.cons (E.slot 4) Es.nil)) Es.nil)))] [])]
def b_blended : List S := [
  (S.asg (T.nm 2) (E.glob 0)),
  (S.for (T.tp [(T.nm 3), (T.nm 4)]) (I.zip (E.slot 0) (E.slot 1)) l1_blended),
  (S.ret (E.slot 2))]
def p_blended : PF := ⟨"blended", ["weights", "ratios", "total", "weight", "t"], ⟨2, 5, b_blended⟩, top 10⟩
/-- is_ratio(pair) -/
def b_is_ratio : List S := [
  (S.ret (E.and (E.cmp .GtE (E.ix (E.slot 0) (E.int 1)) (E.int 1)) (Es.cons (E.cmp .Eq (E.call 0 (E.ix (E.slot 0) (E.int 0)) (Es.cons (E.ix (E.slot 0) (E.int 1)) Es.nil)) (E.int 1)) Es.nil)))]
def p_is_ratio : PF := ⟨"is_ratio", ["pair"], ⟨1, 1, b_is_ratio⟩, top 11⟩
/-- height(bound, point) -/
def b_height : List S := [
  (S.ret (E.call 2 (E.call 8 (E.ix (E.slot 0) (E.int 0)) (Es.cons (E.slot 1) Es.nil)) (Es.cons (E.ix (E.slot 0) (E.int 1)) Es.nil)))]
def p_height : PF := ⟨"height", ["bound", "point"], ⟨2, 2, b_height⟩, top 13⟩
/-- keeps(bound, point) -/
def b_keeps : List S := [
  (S.asg (T.nm 2) (E.call 7 (E.call 10 (E.slot 0) (Es.cons (E.slot 1) Es.nil)) (Es.cons (E.glob 0) Es.nil))),
  (S.ret (E.or (E.cmp .Gt (E.slot 2) (E.int 0)) (Es.cons (E.and (E.cmp .Eq (E.slot 2) (E.int 0)) (Es.cons (E.not (E.ix (E.slot 0) (E.int 2))) Es.nil)) Es.nil)))]
def p_keeps : PF := ⟨"keeps", ["bound", "point", "sign"], ⟨2, 3, b_keeps⟩, top 14⟩
/-- has_point(polyhedron, point) -/
def c1_has_point : E := E.lc (E.int 1) (T.nm 2) (I.seq (E.ix (E.slot 0) (E.int 1))) (Eo.some (E.not (E.call 11 (E.slot 2) (Es.cons (E.slot 1) Es.nil)))) [2]
def b_has_point : List S := [
  (S.ret (E.cmp .Eq (E.bi .len c1_has_point Es.nil) (E.int 0)))]
def p_has_point : PF := ⟨"has_point", ["polyhedron", "point", "bound"], ⟨2, 3, b_has_point⟩, top 15⟩
/-- rates_of(plant, mode, command) -/
def b_rates_of : List S := [
  (S.ret (E.ix (E.ix (E.ix (E.slot 0) (E.int 5)) (E.slot 1)) (E.slot 2)))]
def p_rates_of : PF := ⟨"rates_of", ["plant", "mode", "command"], ⟨3, 3, b_rates_of⟩, top 19⟩
/-- switches_from(plant, mode, kind) -/
def c1_switches_from : E := E.lc (E.slot 3) (T.tp [(T.nm 3), (T.nm 4)]) (I.enum (E.ix (E.slot 0) (E.int 6))) (Eo.some (E.and (E.cmp .Eq (E.ix (E.slot 4) (E.int 0)) (E.slot 1)) (Es.cons (E.cmp .Eq (E.ix (E.slot 4) (E.int 4)) (E.slot 2)) Es.nil))) [3, 4]
def b_switches_from : List S := [
  (S.ret c1_switches_from)]
def p_switches_from : PF := ⟨"switches_from", ["plant", "mode", "kind", "k", "switch"], ⟨3, 5, b_switches_from⟩, top 20⟩
/-- guard_holds(plant, index, point) -/
def b_guard_holds : List S := [
  (S.ret (E.call 12 (E.tup (Es.cons (E.bi .len (E.slot 2) Es.nil) (Es.cons (E.ix (E.ix (E.ix (E.slot 0) (E.int 6)) (E.slot 1)) (E.int 3)) Es.nil))) (Es.cons (E.slot 2) Es.nil)))]
def p_guard_holds : PF := ⟨"guard_holds", ["plant", "index", "point"], ⟨3, 3, b_guard_holds⟩, top 21⟩
/-- choices(plant, mode, point) -/
def c1_choices : E := E.lc (E.slot 4) (T.nm 4) (I.seq (E.call 14 (E.slot 0) (Es.cons (E.slot 1) (Es.cons (E.glob 1) Es.nil)))) (Eo.some (E.call 15 (E.slot 0) (Es.cons (E.slot 4) (Es.cons (E.slot 2) Es.nil)))) [4]
def c2_choices : E := E.lc (E.slot 4) (T.nm 4) (I.seq (E.call 14 (E.slot 0) (Es.cons (E.slot 1) (Es.cons (E.glob 2) Es.nil)))) (Eo.some (E.call 15 (E.slot 0) (Es.cons (E.slot 4) (Es.cons (E.slot 2) Es.nil)))) [4]
def b_choices : List S := [
  (S.asg (T.nm 3) c1_choices),
  (S.iff (E.cmp .Gt (E.bi .len (E.slot 3) Es.nil) (E.int 0)) [(S.ret (E.slot 3))] []),
  (S.ret (E.bin .Add (E.lst (Es.cons E.non Es.nil)) c2_choices))]
def p_choices : PF := ⟨"choices", ["plant", "mode", "point", "forced", "k"], ⟨3, 5, b_choices⟩, top 22⟩
/-- sum_of_points(one, other) -/
def c1_sum_of_points : E := E.lc (E.call 2 (E.slot 2) (Es.cons (E.slot 3) Es.nil)) (T.tp [(T.nm 2), (T.nm 3)]) (I.zip (E.slot 0) (E.slot 1)) Eo.none [2, 3]
def b_sum_of_points : List S := [
  (S.ret (E.bi .tuple c1_sum_of_points Es.nil))]
def p_sum_of_points : PF := ⟨"sum_of_points", ["one", "other", "s", "t"], ⟨2, 4, b_sum_of_points⟩, top 23⟩
/-- moved(point, rates, t) -/
def c1_moved : E := E.lc (E.call 2 (E.slot 3) (Es.cons (E.call 5 (E.slot 4) (Es.cons (E.slot 2) Es.nil)) Es.nil)) (T.tp [(T.nm 3), (T.nm 4)]) (I.zip (E.slot 0) (E.slot 1)) Eo.none [3, 4]
def b_moved : List S := [
  (S.ret (E.bi .tuple c1_moved Es.nil))]
def p_moved : PF := ⟨"moved", ["point", "rates", "t", "worth", "rate"], ⟨3, 5, b_moved⟩, top 24⟩
/-- passed(point, segments) -/
def l1_passed : List S := [(S.app 2 (E.bor 2 (E.call 18 (E.ix (E.slot 2) (E.neg (E.int 1))) (Es.cons (E.slot 4) (Es.cons (E.slot 3) Es.nil)))))]
def b_passed : List S := [
  (S.asgN 2 (E.lst (Es.cons (E.slot 0) Es.nil))),
  (S.for (T.tp [(T.nm 3), (T.nm 4)]) (I.seq (E.slot 1)) l1_passed),
  (S.frz 2 (S.ret (E.slot 2)))]
def p_passed : PF := ⟨"passed", ["point", "segments", "found", "t", "rates"], ⟨2, 5, b_passed⟩, top 25⟩
/-- is_point_of(box, point) -/
def l1_is_point_of : List S := [(S.iff (E.or (E.not (E.call 9 (E.slot 2) Es.nil)) (Es.cons (E.cmp .Lt (E.call 7 (E.slot 2) (Es.cons (E.slot 3) Es.nil)) (E.int 0)) (Es.cons (E.cmp .Gt (E.call 7 (E.slot 2) (Es.cons (E.slot 4) Es.nil)) (E.int 0)) Es.nil))) [(S.ret (E.bl false))] [])]
def b_is_point_of : List S := [
  (S.iff (E.cmp .NotEq (E.bi .len (E.slot 1) Es.nil) (E.bi .len (E.slot 0) Es.nil)) [(S.ret (E.bl false))] []),
  (S.for (T.tp [(T.nm 2), (T.tp [(T.nm 3), (T.nm 4)])]) (I.zip (E.slot 1) (E.slot 0)) l1_is_point_of),
  (S.ret (E.bl true))]
def p_is_point_of : PF := ⟨"is_point_of", ["box", "point", "t", "low", "high"], ⟨2, 5, b_is_point_of⟩, top 26⟩
/-- are_segments(plant, mode, command, segments) -/
def l1_are_segments : List S := [(S.iff (E.or (E.not (E.call 9 (E.slot 6) Es.nil)) (Es.cons (E.cmp .Lt (E.call 7 (E.slot 6) (Es.cons (E.glob 0) Es.nil)) (E.int 1)) (Es.cons (E.not (E.call 20 (E.slot 4) (Es.cons (E.slot 7) Es.nil))) Es.nil))) [(S.ret (E.bl false))] []), (S.asg (T.nm 5) (E.call 2 (E.slot 5) (Es.cons (E.slot 6) Es.nil)))]
def b_are_segments : List S := [
  (S.asg (T.nm 4) (E.call 13 (E.slot 0) (Es.cons (E.slot 1) (Es.cons (E.slot 2) Es.nil)))),
  (S.asg (T.nm 5) (E.glob 0)),
  (S.for (T.tp [(T.nm 6), (T.nm 7)]) (I.seq (E.slot 3)) l1_are_segments),
  (S.ret (E.cmp .Eq (E.slot 5) (E.ix (E.slot 0) (E.int 4))))]
def p_are_segments : PF := ⟨"are_segments", ["plant", "mode", "command", "segments", "box", "total", "t", "rates"], ⟨4, 8, b_are_segments⟩, top 27⟩
/-- is_kick(plant, index, kick) -/
def b_is_kick : List S := [
  (S.iff (E.or (E.isN (E.slot 1)) (Es.cons (E.isN (E.slot 2)) Es.nil)) [(S.ret (E.and (E.isN (E.slot 1)) (Es.cons (E.isN (E.slot 2)) Es.nil)))] []),
  (S.ret (E.call 20 (E.ix (E.ix (E.ix (E.slot 0) (E.int 6)) (E.slot 1)) (E.int 5)) (Es.cons (E.slot 2) Es.nil)))]
def p_is_kick : PF := ⟨"is_kick", ["plant", "index", "kick"], ⟨3, 3, b_is_kick⟩, top 28⟩
/-- is_beat(plant, mode, command, point, beat) -/
def b_is_beat : List S := [
  (S.asg (T.tp [(T.nm 5), (T.nm 6), (T.nm 7)]) (E.slot 4)),
  (S.iff (E.not (E.call 21 (E.slot 0) (Es.cons (E.slot 1) (Es.cons (E.slot 2) (Es.cons (E.slot 5) Es.nil))))) [(S.ret (E.bl false))] []),
  (S.iff (E.cmp .NotIn (E.slot 6) (E.call 16 (E.slot 0) (Es.cons (E.slot 1) (Es.cons (E.ix (E.call 19 (E.slot 3) (Es.cons (E.slot 5) Es.nil)) (E.neg (E.int 1))) Es.nil)))) [(S.ret (E.bl false))] []),
  (S.ret (E.call 22 (E.slot 0) (Es.cons (E.slot 6) (Es.cons (E.slot 7) Es.nil))))]
def p_is_beat : PF := ⟨"is_beat", ["plant", "mode", "command", "point", "beat", "segments", "index", "kick"], ⟨5, 8, b_is_beat⟩, top 29⟩
/-- place_behind(plant, mode, point, index, kick) -/
def b_place_behind : List S := [
  (S.iff (E.isN (E.slot 3)) [(S.ret (E.tup (Es.cons (E.slot 1) (Es.cons (E.slot 2) Es.nil))))] []),
  (S.ret (E.tup (Es.cons (E.ix (E.ix (E.ix (E.slot 0) (E.int 6)) (E.slot 3)) (E.int 2)) (Es.cons (E.call 17 (E.slot 2) (Es.cons (E.slot 4) Es.nil)) Es.nil))))]
def p_place_behind : PF := ⟨"place_behind", ["plant", "mode", "point", "index", "kick"], ⟨5, 5, b_place_behind⟩, top 30⟩
/-- end_of(plant, mode, point, beat) -/
def b_end_of : List S := [
  (S.asg (T.tp [(T.nm 4), (T.nm 5), (T.nm 6)]) (E.slot 3)),
  (S.ret (E.call 24 (E.slot 0) (Es.cons (E.slot 1) (Es.cons (E.ix (E.call 19 (E.slot 2) (Es.cons (E.slot 4) Es.nil)) (E.neg (E.int 1))) (Es.cons (E.slot 5) (Es.cons (E.slot 6) Es.nil))))))]
def p_end_of : PF := ⟨"end_of", ["plant", "mode", "point", "beat", "segments", "index", "kick"], ⟨4, 7, b_end_of⟩, top 31⟩
/-- in_stay(wishes, mode, point) -/
def b_in_stay : List S := [
  (S.ret (E.call 12 (E.tup (Es.cons (E.bi .len (E.slot 2) Es.nil) (Es.cons (E.ix (E.ix (E.slot 0) (E.int 0)) (E.slot 1)) Es.nil))) (Es.cons (E.slot 2) Es.nil)))]
def p_in_stay : PF := ⟨"in_stay", ["wishes", "mode", "point"], ⟨3, 3, b_in_stay⟩, top 32⟩
/-- is_safe_beat(plant, wishes, mode, point, beat) -/
def c1_is_safe_beat : E := E.lc (E.int 1) (T.nm 5) (I.seq (E.call 19 (E.slot 3) (Es.cons (E.ix (E.slot 4) (E.int 0)) Es.nil))) (Eo.some (E.not (E.call 26 (E.slot 1) (Es.cons (E.slot 2) (Es.cons (E.slot 5) Es.nil))))) [5]
def b_is_safe_beat : List S := [
  (S.iff (E.cmp .Gt (E.bi .len c1_is_safe_beat Es.nil) (E.int 0)) [(S.ret (E.bl false))] []),
  (S.asg (T.tp [(T.nm 6), (T.nm 7)]) (E.call 25 (E.slot 0) (Es.cons (E.slot 2) (Es.cons (E.slot 3) (Es.cons (E.slot 4) Es.nil))))),
  (S.ret (E.call 26 (E.slot 1) (Es.cons (E.slot 6) (Es.cons (E.slot 7) Es.nil))))]
def p_is_safe_beat : PF := ⟨"is_safe_beat", ["plant", "wishes", "mode", "point", "beat", "told", "goal", "end"], ⟨5, 8, b_is_safe_beat⟩, top 33⟩
/-- mean_rates(plant, segments) -/
def c1_mean_rates : E := E.lc (E.slot 3) (T.tp [(T.nm 3), (T.nm 4)]) (I.seq (E.slot 1)) Eo.none [3, 4]
def c2_mean_rates : E := E.lc (E.ix (E.slot 7) (E.slot 6)) (T.tp [(T.nm 4), (T.nm 7)]) (I.seq (E.slot 1)) Eo.none [4, 7]
def l1_mean_rates : List S := [(S.app 5 (E.call 6 (E.call 8 (E.slot 2) (Es.cons c2_mean_rates Es.nil)) (Es.cons (E.ix (E.slot 0) (E.int 4)) Es.nil)))]
def b_mean_rates : List S := [
  (S.asg (T.nm 2) c1_mean_rates),
  (S.asgN 5 (E.lst Es.nil)),
  (S.for (T.nm 6) (I.rng1 (E.bi .len (E.ix (E.slot 0) (E.int 1)) Es.nil)) l1_mean_rates),
  (S.frz 5 (S.ret (E.bi .tuple (E.slot 5) Es.nil)))]
def p_mean_rates : PF := ⟨"mean_rates", ["plant", "segments", "spans", "t", "_", "found", "k", "rates"], ⟨2, 8, b_mean_rates⟩, top 34⟩
/-- mean_beat(plant, beat) -/
def b_mean_beat : List S := [
  (S.asg (T.tp [(T.nm 2), (T.nm 3), (T.nm 4)]) (E.slot 1)),
  (S.ret (E.tup (Es.cons (E.tup (Es.cons (E.tup (Es.cons (E.ix (E.slot 0) (E.int 4)) (Es.cons (E.call 28 (E.slot 0) (Es.cons (E.slot 2) Es.nil)) Es.nil))) Es.nil)) (Es.cons (E.slot 3) (Es.cons (E.slot 4) Es.nil)))))]
def p_mean_beat : PF := ⟨"mean_beat", ["plant", "beat", "segments", "index", "kick"], ⟨2, 5, b_mean_beat⟩, top 35⟩
/-- corner(box, number) -/
def c1_corner : E := E.lc (E.ite (E.cmp .Eq (E.bin .BitAnd (E.bin .RShift (E.slot 1) (E.slot 2)) (E.int 1)) (E.int 1)) (E.ix (E.ix (E.slot 0) (E.slot 2)) (E.int 1)) (E.ix (E.ix (E.slot 0) (E.slot 2)) (E.int 0))) (T.nm 2) (I.rng1 (E.bi .len (E.slot 0) Es.nil)) Eo.none [2]
def b_corner : List S := [
  (S.ret (E.bi .tuple c1_corner Es.nil))]
def p_corner : PF := ⟨"corner", ["box", "number", "k"], ⟨2, 3, b_corner⟩, top 36⟩
/-- drawn_end(plant, mode, point, number) -/
def b_drawn_end : List S := [
  (S.asg (T.nm 4) (E.call 16 (E.slot 0) (Es.cons (E.slot 1) (Es.cons (E.slot 2) Es.nil)))),
  (S.asg (T.nm 5) (E.ix (E.slot 4) (E.bin .Mod (E.slot 3) (E.bi .len (E.slot 4) Es.nil)))),
  (S.iff (E.isN (E.slot 5)) [(S.ret (E.tup (Es.cons E.non (Es.cons E.non Es.nil))))] []),
  (S.ret (E.tup (Es.cons (E.slot 5) (Es.cons (E.call 30 (E.ix (E.ix (E.ix (E.slot 0) (E.int 6)) (E.slot 5)) (E.int 5)) (Es.cons (E.bin .FloorDiv (E.slot 3) (E.bi .len (E.slot 4) Es.nil)) Es.nil)) Es.nil))))]
def p_drawn_end : PF := ⟨"drawn_end", ["plant", "mode", "point", "number", "told", "index"], ⟨4, 6, b_drawn_end⟩, top 37⟩
/-- drawn_beat(plant, mode, command, point, number) -/
def b_drawn_beat : List S := [
  (S.asg (T.nm 5) (E.call 30 (E.call 13 (E.slot 0) (Es.cons (E.slot 1) (Es.cons (E.slot 2) Es.nil))) (Es.cons (E.slot 4) Es.nil))),
  (S.asg (T.tp [(T.nm 6), (T.nm 7)]) (E.call 31 (E.slot 0) (Es.cons (E.slot 1) (Es.cons (E.call 18 (E.slot 3) (Es.cons (E.slot 5) (Es.cons (E.ix (E.slot 0) (E.int 4)) Es.nil))) (Es.cons (E.bin .RShift (E.slot 4) (E.bi .len (E.slot 5) Es.nil)) Es.nil))))),
  (S.ret (E.tup (Es.cons (E.tup (Es.cons (E.tup (Es.cons (E.ix (E.slot 0) (E.int 4)) (Es.cons (E.slot 5) Es.nil))) Es.nil)) (Es.cons (E.slot 6) (Es.cons (E.slot 7) Es.nil)))))]
def p_drawn_beat : PF := ⟨"drawn_beat", ["plant", "mode", "command", "point", "number", "rates", "index", "kick"], ⟨5, 8, b_drawn_beat⟩, top 38⟩
/-- crossing(bound, high, slope) -/
def b_crossing : List S := [
  (S.asg (T.nm 3) (E.call 7 (E.slot 1) (Es.cons (E.glob 0) Es.nil))),
  (S.iff (E.or (E.cmp .Lt (E.slot 3) (E.int 0)) (Es.cons (E.and (E.cmp .Eq (E.slot 3) (E.int 0)) (Es.cons (E.ix (E.slot 0) (E.int 2)) Es.nil)) Es.nil)) [(S.ret (E.glob 0))] []),
  (S.iff (E.cmp .Gt (E.call 7 (E.slot 2) (Es.cons (E.glob 0) Es.nil)) (E.neg (E.int 1))) [(S.ret E.non)] []),
  (S.ret (E.call 6 (E.slot 1) (Es.cons (E.call 3 (E.slot 2) Es.nil) Es.nil)))]
def p_crossing : PF := ⟨"crossing", ["bound", "high", "slope", "sign"], ⟨3, 4, b_crossing⟩, top 40⟩
/-- least_time(most, crossings) -/
def l1_least_time : List S := [(S.iff (E.and (E.notN (E.slot 3)) (Es.cons (E.cmp .Lt (E.call 7 (E.slot 3) (Es.cons (E.slot 2) Es.nil)) (E.int 0)) Es.nil)) [(S.asg (T.nm 2) (E.slot 3))] [])]
def b_least_time : List S := [
  (S.asg (T.nm 2) (E.slot 0)),
  (S.for (T.nm 3) (I.seq (E.slot 1)) l1_least_time),
  (S.ret (E.slot 2))]
def p_least_time : PF := ⟨"least_time", ["most", "crossings", "found", "t"], ⟨2, 4, b_least_time⟩, top 41⟩
/-- is_place(plant, mode, point) -/
def c1_is_place : E := E.lc (E.int 1) (T.nm 3) (I.seq (E.slot 2)) (Eo.some (E.not (E.call 9 (E.slot 3) Es.nil))) [3]
def b_is_place : List S := [
  (S.iff (E.or (E.not (E.chain .LtE .Lt (E.int 0) (E.slot 1) (E.bi .len (E.ix (E.slot 0) (E.int 2)) Es.nil))) (Es.cons (E.cmp .NotEq (E.bi .len (E.slot 2) Es.nil) (E.bi .len (E.ix (E.slot 0) (E.int 1)) Es.nil)) Es.nil)) [(S.ret (E.bl false))] []),
  (S.ret (E.cmp .Eq (E.bi .len c1_is_place Es.nil) (E.int 0)))]
def p_is_place : PF := ⟨"is_place", ["plant", "mode", "point", "t"], ⟨3, 4, b_is_place⟩, top 43⟩
/-- shows_course(plant, mode, course) -/
def l1_shows_course : List S := [(S.iff (E.or (E.not (E.chain .LtE .Lt (E.int 0) (E.slot 6) (E.bi .len (E.ix (E.slot 0) (E.int 3)) Es.nil))) (Es.cons (E.not (E.call 23 (E.slot 0) (Es.cons (E.ix (E.slot 5) (E.int 0)) (Es.cons (E.slot 6) (Es.cons (E.ix (E.slot 5) (E.int 1)) (Es.cons (E.slot 7) Es.nil)))))) Es.nil)) [(S.ret (E.bl false))] []), (S.asg (T.nm 5) (E.call 25 (E.slot 0) (Es.cons (E.ix (E.slot 5) (E.int 0)) (Es.cons (E.ix (E.slot 5) (E.int 1)) (Es.cons (E.slot 7) Es.nil)))))]
def b_shows_course : List S := [
  (S.asg (T.tp [(T.nm 3), (T.nm 4)]) (E.slot 2)),
  (S.iff (E.not (E.call 35 (E.slot 0) (Es.cons (E.slot 1) (Es.cons (E.slot 3) Es.nil)))) [(S.ret (E.bl false))] []),
  (S.asg (T.nm 5) (E.tup (Es.cons (E.slot 1) (Es.cons (E.slot 3) Es.nil)))),
  (S.for (T.tp [(T.nm 6), (T.nm 7)]) (I.seq (E.slot 4)) l1_shows_course),
  (S.ret (E.bl true))]
def p_shows_course : PF := ⟨"shows_course", ["plant", "mode", "course", "point", "steps", "place", "command", "beat"], ⟨3, 8, b_shows_course⟩, top 44⟩
/-- replayed(plant, mode, course) -/
def l1_replayed : List S := [(S.app 5 (E.bor 5 (E.call 25 (E.slot 0) (Es.cons (E.ix (E.ix (E.slot 5) (E.neg (E.int 1))) (E.int 0)) (Es.cons (E.ix (E.ix (E.slot 5) (E.neg (E.int 1))) (E.int 1)) (Es.cons (E.slot 7) Es.nil))))))]
def b_replayed : List S := [
  (S.asg (T.tp [(T.nm 3), (T.nm 4)]) (E.slot 2)),
  (S.asgN 5 (E.lst (Es.cons (E.tup (Es.cons (E.slot 1) (Es.cons (E.slot 3) Es.nil))) Es.nil))),
  (S.for (T.tp [(T.nm 6), (T.nm 7)]) (I.seq (E.slot 4)) l1_replayed),
  (S.frz 5 (S.ret (E.slot 5)))]
def p_replayed : PF := ⟨"replayed", ["plant", "mode", "course", "point", "steps", "found", "_", "beat"], ⟨3, 8, b_replayed⟩, top 45⟩
/-- first_bad_step(plant, wishes, mode, course) -/
def l1_first_bad_step : List S := [(S.asg (T.tp [(T.nm 6), (T.nm 7)]) (E.ix (E.slot 4) (E.slot 5))), (S.iff (E.not (E.call 27 (E.slot 0) (Es.cons (E.slot 1) (Es.cons (E.slot 6) (Es.cons (E.slot 7) (Es.cons (E.ix (E.ix (E.ix (E.slot 3) (E.int 1)) (E.slot 5)) (E.int 1)) Es.nil)))))) [(S.ret (E.tup (Es.cons (E.slot 5) (Es.cons (E.ix (E.slot 4) (E.slot 5)) Es.nil))))] [])]
def b_first_bad_step : List S := [
  (S.asg (T.nm 4) (E.call 37 (E.slot 0) (Es.cons (E.slot 2) (Es.cons (E.slot 3) Es.nil)))),
  (S.for (T.nm 5) (I.rng1 (E.bi .len (E.ix (E.slot 3) (E.int 1)) Es.nil)) l1_first_bad_step),
  (S.ret E.non)]
def p_first_bad_step : PF := ⟨"first_bad_step", ["plant", "wishes", "mode", "course", "places", "k", "now", "point"], ⟨4, 8, b_first_bad_step⟩, top 46⟩
/-- is_safe_course(plant, wishes, mode, course) -/
def b_is_safe_course : List S := [
  (S.ret (E.isN (E.call 38 (E.slot 0) (Es.cons (E.slot 1) (Es.cons (E.slot 2) (Es.cons (E.slot 3) Es.nil))))))]
def p_is_safe_course : PF := ⟨"is_safe_course", ["plant", "wishes", "mode", "course"], ⟨4, 4, b_is_safe_course⟩, top 47⟩
/-- time_in_segment(stay, point, span, rates) -/
def l1_time_in_segment : List S := [(S.iff (E.not (E.call 11 (E.slot 6) (Es.cons (E.slot 4) Es.nil))) [(S.app 5 (E.call 33 (E.slot 6) (Es.cons (E.call 10 (E.slot 6) (Es.cons (E.slot 1) Es.nil)) (Es.cons (E.call 8 (E.ix (E.slot 6) (E.int 0)) (Es.cons (E.slot 3) Es.nil)) Es.nil))))] [])]
def b_time_in_segment : List S := [
  (S.asg (T.nm 4) (E.call 18 (E.slot 1) (Es.cons (E.slot 3) (Es.cons (E.slot 2) Es.nil)))),
  (S.asgN 5 (E.lst Es.nil)),
  (S.for (T.nm 6) (I.seq (E.slot 0)) l1_time_in_segment),
  (S.frz 5 (S.ret (E.ite (E.cmp .Eq (E.bi .len (E.slot 5) Es.nil) (E.int 0)) E.non (E.call 34 (E.slot 2) (Es.cons (E.slot 5) Es.nil)))))]
def p_time_in_segment : PF := ⟨"time_in_segment", ["stay", "point", "span", "rates", "end", "told", "bound"], ⟨4, 7, b_time_in_segment⟩, top 48⟩
/-- time_left(plant, wishes, mode, point, segments) -/
def l1_time_left : List S := [(S.asg (T.tp [(T.nm 8), (T.nm 9)]) (E.ix (E.slot 4) (E.slot 7))), (S.asg (T.nm 10) (E.call 40 (E.ix (E.ix (E.slot 1) (E.int 0)) (E.slot 2)) (Es.cons (E.ix (E.slot 6) (E.slot 7)) (Es.cons (E.slot 8) (Es.cons (E.slot 9) Es.nil))))), (S.iff (E.notN (E.slot 10)) [(S.ret (E.call 2 (E.slot 5) (Es.cons (E.slot 10) Es.nil)))] []), (S.asg (T.nm 5) (E.call 2 (E.slot 5) (Es.cons (E.slot 8) Es.nil)))]
def b_time_left : List S := [
  (S.iff (E.not (E.call 26 (E.slot 1) (Es.cons (E.slot 2) (Es.cons (E.slot 3) Es.nil)))) [(S.ret (E.glob 0))] []),
  (S.asg (T.nm 5) (E.glob 0)),
  (S.asg (T.nm 6) (E.call 19 (E.slot 3) (Es.cons (E.slot 4) Es.nil))),
  (S.for (T.nm 7) (I.rng1 (E.bi .len (E.slot 4) Es.nil)) l1_time_left),
  (S.ret (E.ix (E.slot 0) (E.int 4)))]
def p_time_left : PF := ⟨"time_left", ["plant", "wishes", "mode", "point", "segments", "now", "points", "k", "span", "rates", "t"], ⟨5, 11, b_time_left⟩, top 49⟩
/-- left_at(plant, wishes, mode, course) -/
def b_left_at : List S := [
  (S.asg (T.nm 4) (E.call 38 (E.slot 0) (Es.cons (E.slot 1) (Es.cons (E.slot 2) (Es.cons (E.slot 3) Es.nil))))),
  (S.iff (E.isN (E.slot 4)) [(S.ret E.non)] []),
  (S.asg (T.tp [(T.nm 5), (T.nm 6)]) (E.slot 4)),
  (S.ret (E.tup (Es.cons (E.slot 5) (Es.cons (E.call 41 (E.slot 0) (Es.cons (E.slot 1) (Es.cons (E.ix (E.slot 6) (E.int 0)) (Es.cons (E.ix (E.slot 6) (E.int 1)) (Es.cons (E.ix (E.ix (E.ix (E.ix (E.slot 3) (E.int 1)) (E.slot 5)) (E.int 1)) (E.int 0)) Es.nil))))) Es.nil))))]
def p_left_at : PF := ⟨"left_at", ["plant", "wishes", "mode", "course", "found", "k", "place"], ⟨4, 7, b_left_at⟩, top 50⟩
/-- point_within(point, segments, t) -/
def l1_point_within : List S := [(S.asg (T.nm 7) (E.ite (E.cmp .Lt (E.call 7 (E.slot 5) (Es.cons (E.slot 3) Es.nil)) (E.int 0)) (E.slot 5) (E.slot 3))), (S.asg (T.nm 4) (E.call 18 (E.slot 4) (Es.cons (E.slot 6) (Es.cons (E.slot 7) Es.nil)))), (S.asg (T.nm 3) (E.call 4 (E.slot 3) (Es.cons (E.slot 7) Es.nil)))]
def b_point_within : List S := [
  (S.asg (T.nm 3) (E.slot 2)),
  (S.asg (T.nm 4) (E.slot 0)),
  (S.for (T.tp [(T.nm 5), (T.nm 6)]) (I.seq (E.slot 1)) l1_point_within),
  (S.ret (E.slot 4))]
def p_point_within : PF := ⟨"point_within", ["point", "segments", "t", "left", "found", "span", "rates", "own"], ⟨3, 8, b_point_within⟩, top 51⟩
/-- point_at(plant, mode, course, moment) -/
def b_point_at : List S := [
  (S.asg (T.tp [(T.nm 4), (T.nm 5)]) (E.slot 3)),
  (S.asg (T.nm 6) (E.ix (E.call 37 (E.slot 0) (Es.cons (E.slot 1) (Es.cons (E.call 45 (E.slot 2) (Es.cons (E.slot 4) Es.nil)) Es.nil))) (E.neg (E.int 1)))),
  (S.ret (E.call 43 (E.ix (E.slot 6) (E.int 1)) (Es.cons (E.ix (E.ix (E.ix (E.ix (E.slot 2) (E.int 1)) (E.slot 4)) (E.int 1)) (E.int 0)) (Es.cons (E.slot 5) Es.nil))))]
def p_point_at : PF := ⟨"point_at", ["plant", "mode", "course", "moment", "k", "t", "place"], ⟨4, 7, b_point_at⟩, top 52⟩
/-- first_steps(course, k) -/
def b_first_steps : List S := [
  (S.ret (E.tup (Es.cons (E.ix (E.slot 0) (E.int 0)) (Es.cons (E.bi .tuple (E.slc (E.ix (E.slot 0) (E.int 1)) Eo.none (Eo.some (E.slot 1))) Es.nil) Es.nil))))]
def p_first_steps : PF := ⟨"first_steps", ["course", "k"], ⟨2, 2, b_first_steps⟩, top 53⟩
/-- course_behind(plant, mode, course, k) -/
def b_course_behind : List S := [
  (S.asg (T.tp [(T.nm 4), (T.nm 5)]) (E.ix (E.call 37 (E.slot 0) (Es.cons (E.slot 1) (Es.cons (E.call 45 (E.slot 2) (Es.cons (E.slot 3) Es.nil)) Es.nil))) (E.neg (E.int 1)))),
  (S.ret (E.tup (Es.cons (E.slot 4) (Es.cons (E.tup (Es.cons (E.slot 5) (Es.cons (E.bi .tuple (E.slc (E.ix (E.slot 2) (E.int 1)) (Eo.some (E.slot 3)) Eo.none) Es.nil) Es.nil))) Es.nil))))]
def p_course_behind : PF := ⟨"course_behind", ["plant", "mode", "course", "k", "now", "point"], ⟨4, 6, b_course_behind⟩, top 54⟩
/-- mean_course(plant, course) -/
def c1_mean_course : E := E.lc (E.tup (Es.cons (E.slot 2) (Es.cons (E.call 29 (E.slot 0) (Es.cons (E.slot 3) Es.nil)) Es.nil))) (T.tp [(T.nm 2), (T.nm 3)]) (I.seq (E.ix (E.slot 1) (E.int 1))) Eo.none [2, 3]
def b_mean_course : List S := [
  (S.ret (E.tup (Es.cons (E.ix (E.slot 1) (E.int 0)) (Es.cons (E.bi .tuple c1_mean_course Es.nil) Es.nil))))]
def p_mean_course : PF := ⟨"mean_course", ["plant", "course", "command", "beat"], ⟨2, 4, b_mean_course⟩, top 55⟩
/-- drawn_course(plant, mode, point, draws) -/
def l1_drawn_course : List S := [(S.asg (T.nm 8) (E.call 32 (E.slot 0) (Es.cons (E.ix (E.slot 5) (E.int 0)) (Es.cons (E.slot 6) (Es.cons (E.ix (E.slot 5) (E.int 1)) (Es.cons (E.slot 7) Es.nil)))))), (S.app 4 (E.tup (Es.cons (E.slot 6) (Es.cons (E.slot 8) Es.nil)))), (S.asg (T.nm 5) (E.call 25 (E.slot 0) (Es.cons (E.ix (E.slot 5) (E.int 0)) (Es.cons (E.ix (E.slot 5) (E.int 1)) (Es.cons (E.slot 8) Es.nil)))))]
def b_drawn_course : List S := [
  (S.asgN 4 (E.lst Es.nil)),
  (S.asg (T.nm 5) (E.tup (Es.cons (E.slot 1) (Es.cons (E.slot 2) Es.nil)))),
  (S.for (T.tp [(T.nm 6), (T.nm 7)]) (I.seq (E.slot 3)) l1_drawn_course),
  (S.frz 4 (S.ret (E.tup (Es.cons (E.slot 2) (Es.cons (E.bi .tuple (E.slot 4) Es.nil) Es.nil)))))]
def p_drawn_course : PF := ⟨"drawn_course", ["plant", "mode", "point", "draws", "steps", "place", "command", "number", "beat"], ⟨4, 9, b_drawn_course⟩, top 56⟩
/-- _law_deal(script) -/
def l1__law_deal : List S := [(S.iff (E.cmp .Gt (E.slot 3) (E.int 0)) [(S.app 1 (E.bin .Mod (E.slot 3) (E.int 1009))), (S.asg (T.nm 3) (E.bin .FloorDiv (E.slot 3) (E.int 1009)))] [])]
def l2__law_deal : List S := [(S.asg (T.nm 3) (E.bin .Mod (E.bin .Add (E.bin .Add (E.bin .Mult (E.slot 3) (E.int 16807)) (E.int 12345)) (E.slot 4)) (E.int 2147483647))), (S.app 1 (E.bin .Mod (E.bin .FloorDiv (E.slot 3) (E.int 7)) (E.int 1009)))]
def l3__law_deal : List S := [(S.asg (T.nm 3) (E.bi .abs (E.bi .int (E.ix (E.slot 0) (E.slot 2)) Es.nil) Es.nil)), (S.iff (E.cmp .GtE (E.slot 3) (E.bin .Pow (E.int 10) (E.int 18))) [(S.for (T.nm 4) (I.rng1 (E.int 40)) l1__law_deal)] [(S.asg (T.nm 3) (E.bin .Add (E.bin .Add (E.bin .Mult (E.bin .Mod (E.slot 3) (E.int 2147483629)) (E.int 48271)) (E.bin .Mult (E.slot 2) (E.int 69621))) (E.int 11))), (S.for (T.nm 4) (I.rng1 (E.int 5)) l2__law_deal)])]
def b__law_deal : List S := [
  (S.asgN 1 (E.lst Es.nil)),
  (S.for (T.nm 2) (I.rng1 (E.bi .min (E.bi .len (E.slot 0) Es.nil) (Es.cons (E.int 63) Es.nil))) l3__law_deal),
  (S.frz 1 (S.asg (T.nm 5) (E.bin .Add (E.bi .sum (E.slot 1) Es.nil) (E.bi .len (E.slot 0) Es.nil)))),
  (S.ret (E.lst (Es.cons (E.slot 1) (Es.cons (E.mlst (Es.cons (E.int 0) Es.nil)) (Es.cons (E.slot 5) Es.nil)))))]
def p__law_deal : PF := ⟨"_law_deal", ["script", "row", "k", "cell", "turn", "total"], ⟨1, 6, b__law_deal⟩, top 58⟩
/-- _law_take(deal, many) -/
def b__law_take : List S := [
  (S.asg (T.nm 2) (E.ix (E.ix (E.slot 0) (E.int 1)) (E.int 0))),
  (S.setm (E.ix (E.slot 0) (E.int 1)) (E.int 0) (E.bin .Add (E.slot 2) (E.int 1))),
  (S.iff (E.cmp .Lt (E.slot 2) (E.bi .len (E.ix (E.slot 0) (E.int 0)) Es.nil)) [(S.ret (E.bin .Mod (E.ix (E.ix (E.slot 0) (E.int 0)) (E.slot 2)) (E.slot 1)))] []),
  (S.ret (E.bin .Mod (E.bin .FloorDiv (E.bin .Add (E.bin .Add (E.bin .Mult (E.slot 2) (E.int 7919)) (E.bin .Mult (E.ix (E.slot 0) (E.int 2)) (E.int 31))) (E.bin .Mult (E.bin .Mult (E.slot 2) (E.slot 2)) (E.int 17))) (E.int 3)) (E.slot 1)))]
def p__law_take : PF := ⟨"_law_take", ["deal", "many", "at"], ⟨2, 3, b__law_take⟩, top 59⟩
/-- _law_same(a, b) -/
def l1__law_same : List S := [(S.iff (E.not (E.call 51 (E.ix (E.slot 0) (E.slot 2)) (Es.cons (E.ix (E.slot 1) (E.slot 2)) Es.nil))) [(S.ret (E.bl false))] [])]
def b__law_same : List S := [
  (S.iff (E.or (E.isi (E.slot 1) .tup) (Es.cons (E.isi (E.slot 1) .lst) Es.nil)) [(S.iff (E.or (E.and (E.isi (E.slot 1) .tup) (Es.cons (E.not (E.isi (E.slot 0) .tup)) Es.nil)) (Es.cons (E.and (E.isi (E.slot 1) .lst) (Es.cons (E.not (E.isi (E.slot 0) .lst)) Es.nil)) Es.nil)) [(S.ret (E.bl false))] []), (S.iff (E.cmp .NotEq (E.bi .len (E.slot 0) Es.nil) (E.bi .len (E.slot 1) Es.nil)) [(S.ret (E.bl false))] []), (S.for (T.nm 2) (I.rng1 (E.bi .len (E.slot 1) Es.nil)) l1__law_same), (S.ret (E.bl true))] []),
  (S.iff (E.or (E.isi (E.slot 0) .bool) (Es.cons (E.isi (E.slot 1) .bool) Es.nil)) [(S.ret (E.and (E.isi (E.slot 0) .bool) (Es.cons (E.isi (E.slot 1) .bool) (Es.cons (E.cmp .Eq (E.slot 0) (E.slot 1)) Es.nil))))] []),
  (S.iff (E.isi (E.slot 1) .int) [(S.ret (E.and (E.isi (E.slot 0) .int) (Es.cons (E.cmp .Eq (E.slot 0) (E.slot 1)) Es.nil)))] []),
  (S.iff (E.isi (E.slot 1) .str) [(S.ret (E.and (E.isi (E.slot 0) .str) (Es.cons (E.cmp .Eq (E.slot 0) (E.slot 1)) Es.nil)))] []),
  (S.ret (E.and (E.isN (E.slot 0)) (Es.cons (E.isN (E.slot 1)) Es.nil)))]
def p__law_same : PF := ⟨"_law_same", ["a", "b", "k"], ⟨2, 3, b__law_same⟩, top 60⟩
/-- _law_bool(answer, due) -/
def b__law_bool : List S := [
  (S.ret (E.and (E.isi (E.slot 0) .bool) (Es.cons (E.cmp .Eq (E.slot 0) (E.slot 1)) Es.nil)))]
def p__law_bool : PF := ⟨"_law_bool", ["answer", "due"], ⟨2, 2, b__law_bool⟩, top 61⟩
/-- _law_ratio(p, q) -/
def l1__law_ratio : List S := [(S.iff (E.cmp .Eq (E.slot 2) (E.int 0)) [S.brk] []), (S.par 2 3 (E.bin .Mod (E.slot 3) (E.slot 2)) (E.slot 2))]
def b__law_ratio : List S := [
  (S.iff (E.cmp .Lt (E.slot 1) (E.int 0)) [(S.asg (T.nm 0) (E.neg (E.slot 0))), (S.asg (T.nm 1) (E.neg (E.slot 1)))] []),
  (S.asg (T.nm 2) (E.bi .abs (E.slot 0) Es.nil)),
  (S.asg (T.nm 3) (E.slot 1)),
  (S.for (T.nm 4) (I.rng1 (E.int 100000)) l1__law_ratio),
  (S.ret (E.tup (Es.cons (E.bin .FloorDiv (E.slot 0) (E.slot 3)) (Es.cons (E.bin .FloorDiv (E.slot 1) (E.slot 3)) Es.nil))))]
def p__law_ratio : PF := ⟨"_law_ratio", ["p", "q", "a", "b", "turn"], ⟨2, 5, b__law_ratio⟩, top 62⟩
/-- _law_plus(s, t) -/
def b__law_plus : List S := [
  (S.ret (E.call 53 (E.bin .Add (E.bin .Mult (E.ix (E.slot 0) (E.int 0)) (E.ix (E.slot 1) (E.int 1))) (E.bin .Mult (E.ix (E.slot 1) (E.int 0)) (E.ix (E.slot 0) (E.int 1)))) (Es.cons (E.bin .Mult (E.ix (E.slot 0) (E.int 1)) (E.ix (E.slot 1) (E.int 1))) Es.nil)))]
def p__law_plus : PF := ⟨"_law_plus", ["s", "t"], ⟨2, 2, b__law_plus⟩, top 63⟩
/-- _law_mult(s, t) -/
def b__law_mult : List S := [
  (S.ret (E.call 53 (E.bin .Mult (E.ix (E.slot 0) (E.int 0)) (E.ix (E.slot 1) (E.int 0))) (Es.cons (E.bin .Mult (E.ix (E.slot 0) (E.int 1)) (E.ix (E.slot 1) (E.int 1))) Es.nil)))]
def p__law_mult : PF := ⟨"_law_mult", ["s", "t"], ⟨2, 2, b__law_mult⟩, top 64⟩
/-- _law_minus(s, t) -/
def b__law_minus : List S := [
  (S.ret (E.call 54 (E.slot 0) (Es.cons (E.tup (Es.cons (E.neg (E.ix (E.slot 1) (E.int 0))) (Es.cons (E.ix (E.slot 1) (E.int 1)) Es.nil))) Es.nil)))]
def p__law_minus : PF := ⟨"_law_minus", ["s", "t"], ⟨2, 2, b__law_minus⟩, top 65⟩
/-- _law_height(bound, point) -/
def l1__law_height : List S := [(S.asg (T.nm 2) (E.call 54 (E.slot 2) (Es.cons (E.call 55 (E.ix (E.ix (E.slot 0) (E.int 0)) (E.slot 3)) (Es.cons (E.ix (E.slot 1) (E.slot 3)) Es.nil)) Es.nil)))]
def b__law_height : List S := [
  (S.asg (T.nm 2) (E.ix (E.slot 0) (E.int 1))),
  (S.for (T.nm 3) (I.rng1 (E.bi .len (E.slot 1) Es.nil)) l1__law_height),
  (S.ret (E.slot 2))]
def p__law_height : PF := ⟨"_law_height", ["bound", "point", "total", "k"], ⟨2, 4, b__law_height⟩, top 66⟩
/-- _law_keeps(bound, point) -/
def b__law_keeps : List S := [
  (S.asg (T.nm 2) (E.call 57 (E.slot 0) (Es.cons (E.slot 1) Es.nil))),
  (S.ret (E.or (E.cmp .Gt (E.ix (E.slot 2) (E.int 0)) (E.int 0)) (Es.cons (E.and (E.cmp .Eq (E.ix (E.slot 2) (E.int 0)) (E.int 0)) (Es.cons (E.not (E.ix (E.slot 0) (E.int 2))) Es.nil)) Es.nil)))]
def p__law_keeps : PF := ⟨"_law_keeps", ["bound", "point", "high"], ⟨2, 3, b__law_keeps⟩, top 67⟩
/-- _law_has(polyhedron, point) -/
def c1__law_has : E := E.lc (E.int 1) (T.nm 2) (I.seq (E.ix (E.slot 0) (E.int 1))) (Eo.some (E.not (E.call 58 (E.slot 2) (Es.cons (E.slot 1) Es.nil)))) [2]
def b__law_has : List S := [
  (S.ret (E.cmp .Eq (E.bi .len c1__law_has Es.nil) (E.int 0)))]
def p__law_has : PF := ⟨"_law_has", ["polyhedron", "point", "bound"], ⟨2, 3, b__law_has⟩, top 68⟩
/-- _law_pick(deal, things) -/
def b__law_pick : List S := [
  (S.ret (E.ix (E.slot 1) (E.call 50 (E.slot 0) (Es.cons (E.bi .len (E.slot 1) Es.nil) Es.nil))))]
def p__law_pick : PF := ⟨"_law_pick", ["deal", "things"], ⟨2, 2, b__law_pick⟩, top 69⟩
/-- _law_small(deal) -/
def b__law_small : List S := [
  (S.iff (E.cmp .Eq (E.call 50 (E.slot 0) (Es.cons (E.int 4) Es.nil)) (E.int 0)) [(S.ret (E.call 53 (E.bin .Sub (E.call 50 (E.slot 0) (Es.cons (E.int 7) Es.nil)) (E.int 3)) (Es.cons (E.bin .Add (E.int 1) (E.call 50 (E.slot 0) (Es.cons (E.int 3) Es.nil))) Es.nil)))] []),
  (S.ret (E.tup (Es.cons (E.bin .Sub (E.call 50 (E.slot 0) (Es.cons (E.int 9) Es.nil)) (E.int 4)) (Es.cons (E.int 1) Es.nil))))]
def p__law_small : PF := ⟨"_law_small", ["deal"], ⟨1, 1, b__law_small⟩, top 70⟩
/-- _law_pair(deal, wide) -/
def b__law_pair : List S := [
  (S.asg (T.nm 2) (E.call 61 (E.slot 0) Es.nil)),
  (S.ret (E.tup (Es.cons (E.slot 2) (Es.cons (E.call 54 (E.slot 2) (Es.cons (E.tup (Es.cons (E.call 50 (E.slot 0) (Es.cons (E.bin .Add (E.slot 1) (E.int 1)) Es.nil)) (Es.cons (E.int 1) Es.nil))) Es.nil)) Es.nil))))]
def p__law_pair : PF := ⟨"_law_pair", ["deal", "wide", "low"], ⟨2, 3, b__law_pair⟩, top 71⟩
/-- _law_line(k, n, low, high) -/
def c1__law_line : E := E.lc (E.ite (E.cmp .Eq (E.slot 5) (E.slot 0)) (E.tup (Es.cons (E.int 1) (Es.cons (E.int 1) Es.nil))) (E.tup (Es.cons (E.int 0) (Es.cons (E.int 1) Es.nil)))) (T.nm 5) (I.rng1 (E.slot 1)) Eo.none [5]
def c2__law_line : E := E.lc (E.ite (E.cmp .Eq (E.slot 5) (E.slot 0)) (E.tup (Es.cons (E.neg (E.int 1)) (Es.cons (E.int 1) Es.nil))) (E.tup (Es.cons (E.int 0) (Es.cons (E.int 1) Es.nil)))) (T.nm 5) (I.rng1 (E.slot 1)) Eo.none [5]
def b__law_line : List S := [
  (S.asg (T.nm 4) (E.bi .tuple c1__law_line Es.nil)),
  (S.asg (T.nm 6) (E.bi .tuple c2__law_line Es.nil)),
  (S.ret (E.tup (Es.cons (E.tup (Es.cons (E.slot 4) (Es.cons (E.tup (Es.cons (E.neg (E.ix (E.slot 2) (E.int 0))) (Es.cons (E.ix (E.slot 2) (E.int 1)) Es.nil))) (Es.cons (E.bl false) Es.nil)))) (Es.cons (E.tup (Es.cons (E.slot 6) (Es.cons (E.slot 3) (Es.cons (E.bl false) Es.nil)))) Es.nil))))]
def p__law_line : PF := ⟨"_law_line", ["k", "n", "low", "high", "one", "m", "other"], ⟨4, 7, b__law_line⟩, top 72⟩
/-- _law_stay(deal, n) -/
def l1__law_stay : List S := [(S.asg (T.nm 4) (E.tup (Es.cons (E.neg (E.bin .Add (E.int 2) (E.call 50 (E.slot 0) (Es.cons (E.int 6) Es.nil)))) (Es.cons (E.int 1) Es.nil)))), (S.asg (T.nm 2) (E.bin .Add (E.slot 2) (E.call 63 (E.slot 3) (Es.cons (E.slot 1) (Es.cons (E.slot 4) (Es.cons (E.tup (Es.cons (E.bin .Add (E.int 2) (E.call 50 (E.slot 0) (Es.cons (E.int 6) Es.nil))) (Es.cons (E.int 1) Es.nil))) Es.nil))))))]
def b__law_stay : List S := [
  (S.asg (T.nm 2) (E.tup Es.nil)),
  (S.for (T.nm 3) (I.rng1 (E.slot 1)) l1__law_stay),
  (S.ret (E.slot 2))]
def p__law_stay : PF := ⟨"_law_stay", ["deal", "n", "bounds", "k", "low"], ⟨2, 5, b__law_stay⟩, top 73⟩
/-- _law_guard(deal, n) -/
def b__law_guard : List S := [
  (S.iff (E.cmp .Eq (E.call 50 (E.slot 0) (Es.cons (E.int 3) Es.nil)) (E.int 0)) [(S.ret (E.tup Es.nil))] []),
  (S.asg (T.nm 2) (E.call 50 (E.slot 0) (Es.cons (E.slot 1) Es.nil))),
  (S.asg (T.nm 3) (E.tup (Es.cons (E.bin .Sub (E.call 50 (E.slot 0) (Es.cons (E.int 7) Es.nil)) (E.int 3)) (Es.cons (E.int 1) Es.nil)))),
  (S.ret (E.ite (E.cmp .Eq (E.call 50 (E.slot 0) (Es.cons (E.int 2) Es.nil)) (E.int 0)) (E.slc (E.call 63 (E.slot 2) (Es.cons (E.slot 1) (Es.cons (E.slot 3) (Es.cons (E.tup (Es.cons (E.int 0) (Es.cons (E.int 1) Es.nil))) Es.nil)))) Eo.none (Eo.some (E.int 1))) (E.slc (E.call 63 (E.slot 2) (Es.cons (E.slot 1) (Es.cons (E.tup (Es.cons (E.int 0) (Es.cons (E.int 1) Es.nil))) (Es.cons (E.slot 3) Es.nil)))) (Eo.some (E.int 1)) Eo.none)))]
def p__law_guard : PF := ⟨"_law_guard", ["deal", "n", "k", "low"], ⟨2, 4, b__law_guard⟩, top 74⟩
/-- _law_plant(deal, n) -/
def c1__law_plant : E := E.lc (E.call 62 (E.slot 0) (Es.cons (E.int 2) Es.nil)) (T.nm 7) (I.rng1 (E.slot 1)) Eo.none [7]
def c2__law_plant : E := E.lc (E.bi .tuple c1__law_plant Es.nil) (T.nm 8) (I.seq (E.slot 4)) Eo.none [8]
def c3__law_plant : E := E.lc (E.bi .tuple c2__law_plant Es.nil) (T.nm 9) (I.seq (E.slot 3)) Eo.none [9]
def c4__law_plant : E := E.lc (E.ite (E.cmp .Eq (E.call 50 (E.slot 0) (Es.cons (E.int 3) Es.nil)) (E.int 0)) (E.call 62 (E.slot 0) (Es.cons (E.int 1) Es.nil)) (E.tup (Es.cons (E.tup (Es.cons (E.int 0) (Es.cons (E.int 1) Es.nil))) (Es.cons (E.tup (Es.cons (E.int 0) (Es.cons (E.int 1) Es.nil))) Es.nil)))) (T.nm 7) (I.rng1 (E.slot 1)) Eo.none [7]
def l1__law_plant : List S := [(S.asg (T.nm 12) (E.bi .tuple c4__law_plant Es.nil)), (S.asg (T.nm 13) (E.ix (E.lst (Es.cons (E.str "may") (Es.cons (E.str "must") Es.nil))) (E.call 50 (E.slot 0) (Es.cons (E.int 2) Es.nil)))), (S.app 10 (E.tup (Es.cons (E.call 50 (E.slot 0) (Es.cons (E.bi .len (E.slot 3) Es.nil) Es.nil)) (Es.cons (E.call 60 (E.slot 0) (Es.cons (E.lst (Es.cons (E.str "go") (Es.cons (E.str "fall") Es.nil))) Es.nil)) (Es.cons (E.call 50 (E.slot 0) (Es.cons (E.bi .len (E.slot 3) Es.nil) Es.nil)) (Es.cons (E.call 65 (E.slot 0) (Es.cons (E.slot 1) Es.nil)) (Es.cons (E.slot 13) (Es.cons (E.slot 12) Es.nil))))))))]
def c5__law_plant : E := E.lc (E.call 53 (E.call 50 (E.slot 0) (Es.cons (E.int 3) Es.nil)) (Es.cons (E.int 2) Es.nil)) (T.nm 7) (I.rng1 (E.slot 1)) Eo.none [7]
def l2__law_plant : List S := [(S.asg (T.nm 16) (E.tup (Es.cons (E.bin .Sub (E.call 50 (E.slot 0) (Es.cons (E.int 5) Es.nil)) (E.int 2)) (Es.cons (E.int 1) Es.nil)))), (S.asg (T.nm 15) (E.bin .Add (E.slot 15) (E.call 63 (E.slot 7) (Es.cons (E.slot 1) (Es.cons (E.slot 16) (Es.cons (E.slot 16) Es.nil))))))]
def b__law_plant : List S := [
  (S.asg (T.nm 2) (E.slc (E.tup (Es.cons (E.str "x") (Es.cons (E.str "y") (Es.cons (E.str "z") Es.nil)))) Eo.none (Eo.some (E.slot 1)))),
  (S.asg (T.nm 3) (E.slc (E.tup (Es.cons (E.str "m0") (Es.cons (E.str "m1") Es.nil))) Eo.none (Eo.some (E.bin .Add (E.int 1) (E.call 50 (E.slot 0) (Es.cons (E.int 2) Es.nil)))))),
  (S.asg (T.nm 4) (E.slc (E.tup (Es.cons (E.str "up") (Es.cons (E.str "down") (Es.cons (E.str "wait") Es.nil)))) Eo.none (Eo.some (E.bin .Add (E.int 1) (E.call 50 (E.slot 0) (Es.cons (E.int 3) Es.nil)))))),
  (S.asg (T.nm 5) (E.call 60 (E.slot 0) (Es.cons (E.lst (Es.cons (E.tup (Es.cons (E.int 1) (Es.cons (E.int 1) Es.nil))) (Es.cons (E.tup (Es.cons (E.int 1) (Es.cons (E.int 2) Es.nil))) (Es.cons (E.tup (Es.cons (E.int 2) (Es.cons (E.int 1) Es.nil))) Es.nil)))) Es.nil))),
  (S.asg (T.nm 6) (E.bi .tuple c3__law_plant Es.nil)),
  (S.asgN 10 (E.lst Es.nil)),
  (S.for (T.nm 11) (I.rng1 (E.call 50 (E.slot 0) (Es.cons (E.int 3) Es.nil))) l1__law_plant),
  (S.asg (T.nm 14) (E.bi .tuple c5__law_plant Es.nil)),
  (S.asg (T.nm 15) (E.tup Es.nil)),
  (S.for (T.nm 7) (I.rng1 (E.slot 1)) l2__law_plant),
  (S.frz 10 (S.ret (E.tup (Es.cons (E.str "p") (Es.cons (E.slot 2) (Es.cons (E.slot 3) (Es.cons (E.slot 4) (Es.cons (E.slot 5) (Es.cons (E.slot 6) (Es.cons (E.bi .tuple (E.slot 10) Es.nil) (Es.cons (E.tup (Es.cons (E.slot 14) (Es.cons (E.call 50 (E.slot 0) (Es.cons (E.int 3) Es.nil)) Es.nil))) (Es.cons (E.tup (Es.cons (E.int 0) (Es.cons (E.slot 15) Es.nil))) Es.nil))))))))))))]
def p__law_plant : PF := ⟨"_law_plant", ["deal", "n", "names", "modes", "commands", "beat", "rates", "k", "c", "m", "switches", "turn", "kicks", "kind", "errors", "start", "at"], ⟨2, 17, b__law_plant⟩, top 75⟩
/-- _law_strictly(deal, bounds) -/
def c1__law_strictly : E := E.lc (E.tup (Es.cons (E.slot 2) (Es.cons (E.slot 3) (Es.cons (E.cmp .Eq (E.call 50 (E.slot 0) (Es.cons (E.int 4) Es.nil)) (E.int 0)) Es.nil)))) (T.tp [(T.nm 2), (T.nm 3), (T.nm 4)]) (I.seq (E.slot 1)) Eo.none [2, 3, 4]
def b__law_strictly : List S := [
  (S.ret (E.bi .tuple c1__law_strictly Es.nil))]
def p__law_strictly : PF := ⟨"_law_strictly", ["deal", "bounds", "factors", "rest", "strict"], ⟨2, 5, b__law_strictly⟩, top 76⟩
/-- _law_edged(deal, plant) -/
def c1__law_edged : E := E.lc (E.tup (Es.cons (E.slot 3) (Es.cons (E.slot 4) (Es.cons (E.slot 5) (Es.cons (E.call 67 (E.slot 0) (Es.cons (E.slot 6) Es.nil)) (Es.cons (E.slot 7) (Es.cons (E.slot 8) Es.nil))))))) (T.tp [(T.nm 3), (T.nm 4), (T.nm 5), (T.nm 6), (T.nm 7), (T.nm 8)]) (I.seq (E.ix (E.slot 1) (E.int 6))) Eo.none [3, 4, 5, 6, 7, 8]
def b__law_edged : List S := [
  (S.asg (T.nm 2) c1__law_edged),
  (S.ret (E.bin .Add (E.bin .Add (E.slc (E.slot 1) Eo.none (Eo.some (E.int 6))) (E.tup (Es.cons (E.bi .tuple (E.slot 2) Es.nil) Es.nil))) (E.slc (E.slot 1) (Eo.some (E.int 7)) Eo.none)))]
def p__law_edged : PF := ⟨"_law_edged", ["deal", "plant", "switches", "a", "b", "c", "guard", "kind", "kicks"], ⟨2, 9, b__law_edged⟩, top 77⟩
/-- _law_stays(deal, plant) -/
def c1__law_stays : E := E.lc (E.call 67 (E.slot 0) (Es.cons (E.call 64 (E.slot 0) (Es.cons (E.bi .len (E.ix (E.slot 1) (E.int 1)) Es.nil) Es.nil)) Es.nil)) (T.nm 2) (I.seq (E.ix (E.slot 1) (E.int 2))) Eo.none [2]
def b__law_stays : List S := [
  (S.ret (E.bi .tuple c1__law_stays Es.nil))]
def p__law_stays : PF := ⟨"_law_stays", ["deal", "plant", "name"], ⟨2, 3, b__law_stays⟩, top 78⟩
/-- _law_choices(plant, mode, point) -/
def c1__law_choices : E := E.lc (E.slot 5) (T.nm 5) (I.rng1 (E.bi .len (E.ix (E.slot 0) (E.int 6)) Es.nil)) (Eo.some (E.and (E.cmp .Eq (E.ix (E.ix (E.ix (E.slot 0) (E.int 6)) (E.slot 5)) (E.int 0)) (E.slot 1)) (Es.cons (E.call 59 (E.tup (Es.cons (E.slot 3) (Es.cons (E.ix (E.ix (E.ix (E.slot 0) (E.int 6)) (E.slot 5)) (E.int 3)) Es.nil))) (Es.cons (E.slot 2) Es.nil)) Es.nil))) [5]
def c2__law_choices : E := E.lc (E.slot 5) (T.nm 5) (I.seq (E.slot 4)) (Eo.some (E.cmp .Eq (E.ix (E.ix (E.ix (E.slot 0) (E.int 6)) (E.slot 5)) (E.int 4)) (E.str "must"))) [5]
def b__law_choices : List S := [
  (S.asg (T.nm 3) (E.bi .len (E.slot 2) Es.nil)),
  (S.asg (T.nm 4) c1__law_choices),
  (S.asg (T.nm 6) c2__law_choices),
  (S.ret (E.ite (E.cmp .Gt (E.bi .len (E.slot 6) Es.nil) (E.int 0)) (E.slot 6) (E.bin .Add (E.lst (Es.cons E.non Es.nil)) (E.slot 4))))]
def p__law_choices : PF := ⟨"_law_choices", ["plant", "mode", "point", "n", "holds", "k", "forced"], ⟨3, 7, b__law_choices⟩, top 79⟩
/-- _law_moved(point, rates, t) -/
def c1__law_moved : E := E.lc (E.call 54 (E.ix (E.slot 0) (E.slot 3)) (Es.cons (E.call 55 (E.ix (E.slot 1) (E.slot 3)) (Es.cons (E.slot 2) Es.nil)) Es.nil)) (T.nm 3) (I.rng1 (E.bi .len (E.slot 0) Es.nil)) Eo.none [3]
def b__law_moved : List S := [
  (S.ret (E.bi .tuple c1__law_moved Es.nil))]
def p__law_moved : PF := ⟨"_law_moved", ["point", "rates", "t", "k"], ⟨3, 4, b__law_moved⟩, top 80⟩
/-- _law_passed(point, segments) -/
def l1__law_passed : List S := [(S.app 2 (E.bor 2 (E.call 71 (E.ix (E.slot 2) (E.neg (E.int 1))) (Es.cons (E.slot 4) (Es.cons (E.slot 3) Es.nil)))))]
def b__law_passed : List S := [
  (S.asgN 2 (E.lst (Es.cons (E.slot 0) Es.nil))),
  (S.for (T.tp [(T.nm 3), (T.nm 4)]) (I.seq (E.slot 1)) l1__law_passed),
  (S.frz 2 (S.ret (E.slot 2)))]
def p__law_passed : PF := ⟨"_law_passed", ["point", "segments", "found", "t", "rates"], ⟨2, 5, b__law_passed⟩, top 81⟩
/-- _law_end(plant, mode, point, beat) -/
def b__law_end : List S := [
  (S.asg (T.nm 4) (E.ix (E.call 72 (E.slot 2) (Es.cons (E.ix (E.slot 3) (E.int 0)) Es.nil)) (E.neg (E.int 1)))),
  (S.iff (E.isN (E.ix (E.slot 3) (E.int 1))) [(S.ret (E.tup (Es.cons (E.slot 1) (Es.cons (E.slot 4) Es.nil))))] []),
  (S.ret (E.tup (Es.cons (E.ix (E.ix (E.ix (E.slot 0) (E.int 6)) (E.ix (E.slot 3) (E.int 1))) (E.int 2)) (Es.cons (E.call 71 (E.slot 4) (Es.cons (E.ix (E.slot 3) (E.int 2)) (Es.cons (E.tup (Es.cons (E.int 1) (Es.cons (E.int 1) Es.nil))) Es.nil))) Es.nil))))]
def p__law_end : PF := ⟨"_law_end", ["plant", "mode", "point", "beat", "end"], ⟨4, 5, b__law_end⟩, top 82⟩
/-- _law_safe(plant, wishes, mode, point, beat) -/
def c1__law_safe : E := E.lc (E.slot 6) (T.nm 6) (I.seq (E.call 72 (E.slot 3) (Es.cons (E.ix (E.slot 4) (E.int 0)) Es.nil))) (Eo.some (E.not (E.call 59 (E.tup (Es.cons (E.slot 5) (Es.cons (E.ix (E.ix (E.slot 1) (E.int 0)) (E.slot 2)) Es.nil))) (Es.cons (E.slot 6) Es.nil)))) [6]
def b__law_safe : List S := [
  (S.asg (T.nm 5) (E.bi .len (E.slot 3) Es.nil)),
  (S.iff (E.cmp .Gt (E.bi .len c1__law_safe Es.nil) (E.int 0)) [(S.ret (E.bl false))] []),
  (S.asg (T.tp [(T.nm 7), (T.nm 8)]) (E.call 73 (E.slot 0) (Es.cons (E.slot 2) (Es.cons (E.slot 3) (Es.cons (E.slot 4) Es.nil))))),
  (S.ret (E.call 59 (E.tup (Es.cons (E.slot 5) (Es.cons (E.ix (E.ix (E.slot 1) (E.int 0)) (E.slot 7)) Es.nil))) (Es.cons (E.slot 8) Es.nil)))]
def p__law_safe : PF := ⟨"_law_safe", ["plant", "wishes", "mode", "point", "beat", "n", "told", "goal", "end"], ⟨5, 9, b__law_safe⟩, top 83⟩
/-- _law_between(deal, box) -/
def c1__law_between : E := E.lc (E.call 54 (E.slot 2) (Es.cons (E.call 55 (E.call 56 (E.slot 3) (Es.cons (E.slot 2) Es.nil)) (Es.cons (E.call 53 (E.call 50 (E.slot 0) (Es.cons (E.int 5) Es.nil)) (Es.cons (E.int 4) Es.nil)) Es.nil)) Es.nil)) (T.tp [(T.nm 2), (T.nm 3)]) (I.seq (E.slot 1)) Eo.none [2, 3]
def b__law_between : List S := [
  (S.ret (E.bi .tuple c1__law_between Es.nil))]
def p__law_between : PF := ⟨"_law_between", ["deal", "box", "low", "high"], ⟨2, 4, b__law_between⟩, top 84⟩
/-- _law_beat(deal, plant, mode, command, point) -/
def c1__law_beat : E := E.lc (E.bin .Add (E.int 1) (E.call 50 (E.slot 0) (Es.cons (E.int 3) Es.nil))) (T.nm 6) (I.rng1 (E.bin .Add (E.int 1) (E.call 50 (E.slot 0) (Es.cons (E.int 3) Es.nil)))) Eo.none [6]
def c2__law_beat : E := E.lc (E.call 55 (E.ix (E.slot 1) (E.int 4)) (Es.cons (E.call 53 (E.slot 8) (Es.cons (E.bi .sum (E.slot 5) Es.nil) Es.nil)) Es.nil)) (T.nm 8) (I.seq (E.slot 5)) Eo.none [8]
def c3__law_beat : E := E.lc (E.tup (Es.cons (E.slot 10) (Es.cons (E.call 75 (E.slot 0) (Es.cons (E.ix (E.ix (E.ix (E.slot 1) (E.int 5)) (E.slot 2)) (E.slot 3)) Es.nil)) Es.nil))) (T.nm 10) (I.seq (E.slot 7)) Eo.none [10]
def b__law_beat : List S := [
  (S.asg (T.nm 5) c1__law_beat),
  (S.asg (T.nm 7) c2__law_beat),
  (S.asg (T.nm 9) (E.bi .tuple c3__law_beat Es.nil)),
  (S.asg (T.nm 11) (E.call 60 (E.slot 0) (Es.cons (E.call 70 (E.slot 1) (Es.cons (E.slot 2) (Es.cons (E.ix (E.call 72 (E.slot 4) (Es.cons (E.slot 9) Es.nil)) (E.neg (E.int 1))) Es.nil))) Es.nil))),
  (S.ret (E.tup (Es.cons (E.slot 9) (Es.cons (E.slot 11) (Es.cons (E.ite (E.isN (E.slot 11)) E.non (E.call 75 (E.slot 0) (Es.cons (E.ix (E.ix (E.ix (E.slot 1) (E.int 6)) (E.slot 11)) (E.int 5)) Es.nil))) Es.nil)))))]
def p__law_beat : PF := ⟨"_law_beat", ["deal", "plant", "mode", "command", "point", "parts", "turn", "spans", "part", "segments", "span", "index"], ⟨5, 12, b__law_beat⟩, top 85⟩
/-- _law_course(deal, plant, mode, point, many) -/
def l1__law_course : List S := [(S.asg (T.nm 8) (E.call 50 (E.slot 0) (Es.cons (E.bi .len (E.ix (E.slot 1) (E.int 3)) Es.nil) Es.nil))), (S.asg (T.nm 9) (E.call 76 (E.slot 0) (Es.cons (E.slot 1) (Es.cons (E.ix (E.slot 6) (E.int 0)) (Es.cons (E.slot 8) (Es.cons (E.ix (E.slot 6) (E.int 1)) Es.nil)))))), (S.app 5 (E.tup (Es.cons (E.slot 8) (Es.cons (E.slot 9) Es.nil)))), (S.asg (T.nm 6) (E.call 73 (E.slot 1) (Es.cons (E.ix (E.slot 6) (E.int 0)) (Es.cons (E.ix (E.slot 6) (E.int 1)) (Es.cons (E.slot 9) Es.nil)))))]
def b__law_course : List S := [
  (S.asgN 5 (E.lst Es.nil)),
  (S.asg (T.nm 6) (E.tup (Es.cons (E.slot 2) (Es.cons (E.slot 3) Es.nil)))),
  (S.for (T.nm 7) (I.rng1 (E.slot 4)) l1__law_course),
  (S.frz 5 (S.ret (E.tup (Es.cons (E.slot 3) (Es.cons (E.bi .tuple (E.slot 5) Es.nil) Es.nil)))))]
def p__law_course : PF := ⟨"_law_course", ["deal", "plant", "mode", "point", "many", "steps", "place", "turn", "command", "beat"], ⟨5, 10, b__law_course⟩, top 86⟩
/-- _law_places(plant, mode, course) -/
def l1__law_places : List S := [(S.app 3 (E.bor 3 (E.call 73 (E.slot 0) (Es.cons (E.ix (E.ix (E.slot 3) (E.neg (E.int 1))) (E.int 0)) (Es.cons (E.ix (E.ix (E.slot 3) (E.neg (E.int 1))) (E.int 1)) (Es.cons (E.slot 5) Es.nil))))))]
def b__law_places : List S := [
  (S.asgN 3 (E.lst (Es.cons (E.tup (Es.cons (E.slot 1) (Es.cons (E.ix (E.slot 2) (E.int 0)) Es.nil))) Es.nil))),
  (S.for (T.tp [(T.nm 4), (T.nm 5)]) (I.seq (E.ix (E.slot 2) (E.int 1))) l1__law_places),
  (S.frz 3 (S.ret (E.slot 3)))]
def p__law_places : PF := ⟨"_law_places", ["plant", "mode", "course", "found", "command", "beat"], ⟨3, 6, b__law_places⟩, top 87⟩
/-- _law_point(deal, n) -/
def c1__law_point : E := E.lc (E.call 61 (E.slot 0) Es.nil) (T.nm 2) (I.rng1 (E.slot 1)) Eo.none [2]
def b__law_point : List S := [
  (S.ret (E.bi .tuple c1__law_point Es.nil))]
def p__law_point : PF := ⟨"_law_point", ["deal", "n", "k"], ⟨2, 3, b__law_point⟩, top 88⟩
/-- _law_left(plant, wishes, mode, course) -/
def l1__law_left : List S := [(S.asg (T.tp [(T.nm 6), (T.nm 7)]) (E.ix (E.slot 4) (E.slot 5))), (S.iff (E.not (E.call 74 (E.slot 0) (Es.cons (E.slot 1) (Es.cons (E.slot 6) (Es.cons (E.slot 7) (Es.cons (E.ix (E.ix (E.ix (E.slot 3) (E.int 1)) (E.slot 5)) (E.int 1)) Es.nil)))))) [(S.ret (E.tup (Es.cons (E.slot 5) (Es.cons (E.call 81 (E.ix (E.ix (E.slot 1) (E.int 0)) (E.slot 6)) (Es.cons (E.slot 7) (Es.cons (E.ix (E.ix (E.ix (E.ix (E.slot 3) (E.int 1)) (E.slot 5)) (E.int 1)) (E.int 0)) Es.nil))) Es.nil))))] [])]
def b__law_left : List S := [
  (S.asg (T.nm 4) (E.call 78 (E.slot 0) (Es.cons (E.slot 2) (Es.cons (E.slot 3) Es.nil)))),
  (S.for (T.nm 5) (I.rng1 (E.bi .len (E.ix (E.slot 3) (E.int 1)) Es.nil)) l1__law_left),
  (S.ret E.non)]
def p__law_left : PF := ⟨"_law_left", ["plant", "wishes", "mode", "course", "places", "k", "now", "point"], ⟨4, 8, b__law_left⟩, top 89⟩
/-- _law_time(stay, point, segments) -/
def l1__law_time : List S := [(S.iff (E.not (E.call 58 (E.slot 9) (Es.cons (E.slot 7) Es.nil))) [(S.asg (T.nm 10) (E.call 57 (E.slot 9) (Es.cons (E.slot 4) Es.nil))), (S.asg (T.nm 11) (E.call 56 (E.slot 10) (Es.cons (E.call 57 (E.slot 9) (Es.cons (E.slot 7) Es.nil)) Es.nil))), (S.asg (T.nm 12) (E.call 55 (E.slot 5) (Es.cons (E.call 53 (E.bin .Mult (E.ix (E.slot 10) (E.int 0)) (E.ix (E.slot 11) (E.int 1))) (Es.cons (E.bin .Mult (E.ix (E.slot 10) (E.int 1)) (E.ix (E.slot 11) (E.int 0))) Es.nil)) Es.nil))), (S.asg (T.nm 8) (E.ite (E.or (E.isN (E.slot 8)) (Es.cons (E.cmp .Lt (E.ix (E.call 56 (E.slot 12) (Es.cons (E.slot 8) Es.nil)) (E.int 0)) (E.int 0)) Es.nil)) (E.slot 12) (E.slot 8)))] [])]
def l2__law_time : List S := [(S.asg (T.nm 7) (E.call 71 (E.slot 4) (Es.cons (E.slot 6) (Es.cons (E.slot 5) Es.nil)))), (S.asg (T.nm 8) E.non), (S.for (T.nm 9) (I.seq (E.slot 0)) l1__law_time), (S.iff (E.notN (E.slot 8)) [(S.ret (E.call 54 (E.slot 3) (Es.cons (E.slot 8) Es.nil)))] []), (S.asg (T.nm 3) (E.call 54 (E.slot 3) (Es.cons (E.slot 5) Es.nil))), (S.asg (T.nm 4) (E.slot 7))]
def b__law_time : List S := [
  (S.asg (T.nm 3) (E.tup (Es.cons (E.int 0) (Es.cons (E.int 1) Es.nil)))),
  (S.asg (T.nm 4) (E.slot 1)),
  (S.iff (E.not (E.call 59 (E.tup (Es.cons (E.bi .len (E.slot 1) Es.nil) (Es.cons (E.slot 0) Es.nil))) (Es.cons (E.slot 1) Es.nil))) [(S.ret (E.slot 3))] []),
  (S.for (T.tp [(T.nm 5), (T.nm 6)]) (I.seq (E.slot 2)) l2__law_time),
  (S.ret (E.slot 3))]
def p__law_time : PF := ⟨"_law_time", ["stay", "point", "segments", "now", "here", "span", "rates", "end", "best", "bound", "high", "fall", "t"], ⟨3, 13, b__law_time⟩, top 90⟩
/-- _law_with(course, k, step) -/
def b__law_with : List S := [
  (S.ret (E.tup (Es.cons (E.ix (E.slot 0) (E.int 0)) (Es.cons (E.bin .Add (E.bin .Add (E.slc (E.ix (E.slot 0) (E.int 1)) Eo.none (Eo.some (E.slot 1))) (E.tup (Es.cons (E.slot 2) Es.nil))) (E.slc (E.ix (E.slot 0) (E.int 1)) (Eo.some (E.bin .Add (E.slot 1) (E.int 1))) Eo.none)) Es.nil))))]
def p__law_with : PF := ⟨"_law_with", ["course", "k", "step"], ⟨3, 3, b__law_with⟩, top 91⟩
/-- _law_spoilt(plant, course, k, places) -/
def c1__law_spoilt : E := E.lc (E.tup (Es.cons (E.int 0) (Es.cons (E.int 1) Es.nil))) (T.nm 13) (I.seq (E.slot 10)) Eo.none [13]
def c2__law_spoilt : E := E.lc (E.call 82 (E.slot 1) (Es.cons (E.slot 2) (Es.cons (E.slot 14) Es.nil))) (T.nm 14) (I.seq (E.slot 12)) Eo.none [14]
def b__law_spoilt : List S := [
  (S.asg (T.tp [(T.nm 4), (T.nm 5)]) (E.ix (E.ix (E.slot 1) (E.int 1)) (E.slot 2))),
  (S.asg (T.tp [(T.nm 6), (T.nm 7), (T.nm 8)]) (E.slot 5)),
  (S.asg (T.tp [(T.nm 9), (T.nm 10)]) (E.ix (E.slot 6) (E.int 0))),
  (S.asg (T.nm 11) (E.bin .Add (E.tup (Es.cons (E.call 54 (E.ix (E.ix (E.ix (E.ix (E.ix (E.slot 0) (E.int 5)) (E.ix (E.ix (E.slot 3) (E.slot 2)) (E.int 0))) (E.slot 4)) (E.int 0)) (E.int 1)) (Es.cons (E.tup (Es.cons (E.int 1) (Es.cons (E.int 3) Es.nil))) Es.nil)) Es.nil)) (E.slc (E.slot 10) (Eo.some (E.int 1)) Eo.none))),
  (S.asgN 12 (E.lst (Es.cons (E.tup (Es.cons (E.bi .len (E.ix (E.slot 0) (E.int 3)) Es.nil) (Es.cons (E.slot 5) Es.nil))) (Es.cons (E.tup (Es.cons (E.neg (E.int 1)) (Es.cons (E.slot 5) Es.nil))) (Es.cons (E.tup (Es.cons (E.slot 4) (Es.cons (E.tup (Es.cons (E.slc (E.slot 6) Eo.none (Eo.some (E.neg (E.int 1)))) (Es.cons (E.slot 7) (Es.cons (E.slot 8) Es.nil)))) Es.nil))) (Es.cons (E.tup (Es.cons (E.slot 4) (Es.cons (E.tup (Es.cons (E.bin .Add (E.slot 6) (E.tup (Es.cons (E.tup (Es.cons (E.ix (E.slot 0) (E.int 4)) (Es.cons (E.slot 10) Es.nil))) Es.nil))) (Es.cons (E.slot 7) (Es.cons (E.slot 8) Es.nil)))) Es.nil))) Es.nil)))))),
  (S.app 12 (E.tup (Es.cons (E.slot 4) (Es.cons (E.tup (Es.cons (E.bin .Add (E.tup (Es.cons (E.tup (Es.cons (E.slot 9) (Es.cons (E.slot 11) Es.nil))) Es.nil)) (E.slc (E.slot 6) (Eo.some (E.int 1)) Eo.none)) (Es.cons (E.slot 7) (Es.cons (E.slot 8) Es.nil)))) Es.nil)))),
  (S.app 12 (E.tup (Es.cons (E.slot 4) (Es.cons (E.tup (Es.cons (E.bin .Add (E.tup (Es.cons (E.tup (Es.cons (E.tup (Es.cons (E.bin .Mult (E.int 2) (E.ix (E.slot 9) (E.int 0))) (Es.cons (E.bin .Mult (E.int 2) (E.ix (E.slot 9) (E.int 1))) Es.nil))) (Es.cons (E.slot 10) Es.nil))) Es.nil)) (E.slc (E.slot 6) (Eo.some (E.int 1)) Eo.none)) (Es.cons (E.slot 7) (Es.cons (E.slot 8) Es.nil)))) Es.nil)))),
  (S.app 12 (E.tup (Es.cons (E.slot 4) (Es.cons (E.tup (Es.cons (E.bin .Add (E.tup (Es.cons (E.tup (Es.cons (E.tup (Es.cons (E.int 0) (Es.cons (E.int 1) Es.nil))) (Es.cons (E.slot 10) Es.nil))) Es.nil)) (E.slot 6)) (Es.cons (E.slot 7) (Es.cons (E.slot 8) Es.nil)))) Es.nil)))),
  (S.app 12 (E.tup (Es.cons (E.slot 4) (Es.cons (E.tup (Es.cons (E.bin .Add (E.tup (Es.cons (E.tup (Es.cons (E.slot 9) (Es.cons (E.bin .Add (E.slot 10) (E.tup (Es.cons (E.tup (Es.cons (E.int 0) (Es.cons (E.int 1) Es.nil))) Es.nil))) Es.nil))) Es.nil)) (E.slc (E.slot 6) (Eo.some (E.int 1)) Eo.none)) (Es.cons (E.slot 7) (Es.cons (E.slot 8) Es.nil)))) Es.nil)))),
  (S.app 12 (E.tup (Es.cons (E.slot 4) (Es.cons (E.tup (Es.cons (E.slot 6) (Es.cons (E.bi .len (E.ix (E.slot 0) (E.int 6)) Es.nil) (Es.cons (E.bi .tuple c1__law_spoilt Es.nil) Es.nil)))) Es.nil)))),
  (S.iff (E.isN (E.slot 7)) [(S.app 12 (E.tup (Es.cons (E.slot 4) (Es.cons (E.tup (Es.cons (E.slot 6) (Es.cons E.non (Es.cons (E.slot 10) Es.nil)))) Es.nil))))] [(S.app 12 (E.tup (Es.cons (E.slot 4) (Es.cons (E.tup (Es.cons (E.slot 6) (Es.cons (E.slot 7) (Es.cons E.non Es.nil)))) Es.nil)))), (S.app 12 (E.tup (Es.cons (E.slot 4) (Es.cons (E.tup (Es.cons (E.slot 6) (Es.cons (E.slot 7) (Es.cons (E.bin .Add (E.tup (Es.cons (E.call 54 (E.ix (E.ix (E.ix (E.ix (E.ix (E.slot 0) (E.int 6)) (E.slot 7)) (E.int 5)) (E.int 0)) (E.int 1)) (Es.cons (E.tup (Es.cons (E.int 1) (Es.cons (E.int 1) Es.nil))) Es.nil)) Es.nil)) (E.slc (E.slot 8) (Eo.some (E.int 1)) Eo.none)) Es.nil)))) Es.nil))))]),
  (S.iff (E.cmp .NotIn E.non (E.call 70 (E.slot 0) (Es.cons (E.ix (E.ix (E.slot 3) (E.slot 2)) (E.int 0)) (Es.cons (E.ix (E.call 72 (E.ix (E.ix (E.slot 3) (E.slot 2)) (E.int 1)) (Es.cons (E.slot 6) Es.nil)) (E.neg (E.int 1))) Es.nil)))) [(S.app 12 (E.tup (Es.cons (E.slot 4) (Es.cons (E.tup (Es.cons (E.slot 6) (Es.cons E.non (Es.cons E.non Es.nil)))) Es.nil))))] []),
  (S.frz 12 (S.ret c2__law_spoilt))]
def p__law_spoilt : PF := ⟨"_law_spoilt", ["plant", "course", "k", "places", "command", "beat", "segments", "index", "kick", "span", "rates", "beyond", "told", "t", "step"], ⟨4, 15, b__law_spoilt⟩, top 92⟩
/-- _law_cut(plant, wishes, mode, course, places, k) -/
def b__law_cut : List S := [
  (S.asg (T.nm 6) (E.call 45 (E.slot 3) (Es.cons (E.slot 5) Es.nil))),
  (S.asg (T.tp [(T.nm 7), (T.nm 8)]) (E.call 46 (E.slot 0) (Es.cons (E.slot 2) (Es.cons (E.slot 3) (Es.cons (E.slot 5) Es.nil))))),
  (S.iff (E.or (E.not (E.call 51 (E.slot 6) (Es.cons (E.tup (Es.cons (E.ix (E.slot 3) (E.int 0)) (Es.cons (E.slc (E.ix (E.slot 3) (E.int 1)) Eo.none (Eo.some (E.slot 5))) Es.nil))) Es.nil))) (Es.cons (E.cmp .NotEq (E.tup (Es.cons (E.slot 7) (Es.cons (E.slot 8) Es.nil))) (E.tup (Es.cons (E.ix (E.ix (E.slot 4) (E.slot 5)) (E.int 0)) (Es.cons (E.tup (Es.cons (E.ix (E.ix (E.slot 4) (E.slot 5)) (E.int 1)) (Es.cons (E.slc (E.ix (E.slot 3) (E.int 1)) (Eo.some (E.slot 5)) Eo.none) Es.nil))) Es.nil)))) Es.nil)) [(S.ret (E.bl false))] []),
  (S.iff (E.or (E.cmp .IsNot (E.call 36 (E.slot 0) (Es.cons (E.slot 2) (Es.cons (E.slot 6) Es.nil))) (E.bl true)) (Es.cons (E.cmp .IsNot (E.call 36 (E.slot 0) (Es.cons (E.slot 7) (Es.cons (E.slot 8) Es.nil))) (E.bl true)) Es.nil)) [(S.ret (E.bl false))] []),
  (S.asg (T.nm 9) (E.and (E.call 39 (E.slot 0) (Es.cons (E.slot 1) (Es.cons (E.slot 2) (Es.cons (E.slot 6) Es.nil)))) (Es.cons (E.call 39 (E.slot 0) (Es.cons (E.slot 1) (Es.cons (E.slot 7) (Es.cons (E.slot 8) Es.nil)))) Es.nil))),
  (S.ret (E.and (E.cmp .Eq (E.call 37 (E.slot 0) (Es.cons (E.slot 2) (Es.cons (E.slot 6) Es.nil))) (E.slc (E.slot 4) Eo.none (Eo.some (E.bin .Add (E.slot 5) (E.int 1))))) (Es.cons (E.call 52 (E.call 39 (E.slot 0) (Es.cons (E.slot 1) (Es.cons (E.slot 2) (Es.cons (E.slot 3) Es.nil)))) (Es.cons (E.slot 9) Es.nil)) Es.nil)))]
def p__law_cut : PF := ⟨"_law_cut", ["plant", "wishes", "mode", "course", "places", "k", "begin", "now", "rest", "both"], ⟨6, 10, b__law_cut⟩, top 93⟩
/-- _law_at(plant, mode, course, places, k, t) -/
def l1__law_at : List S := [(S.asg (T.nm 10) (E.ite (E.cmp .Lt (E.ix (E.call 56 (E.slot 8) (Es.cons (E.slot 7) Es.nil)) (E.int 0)) (E.int 0)) (E.slot 8) (E.slot 7))), (S.asg (T.nm 6) (E.call 71 (E.slot 6) (Es.cons (E.slot 9) (Es.cons (E.slot 10) Es.nil)))), (S.asg (T.nm 7) (E.call 56 (E.slot 7) (Es.cons (E.slot 10) Es.nil)))]
def b__law_at : List S := [
  (S.asg (T.nm 6) (E.ix (E.ix (E.slot 3) (E.slot 4)) (E.int 1))),
  (S.asg (T.nm 7) (E.slot 5)),
  (S.for (T.tp [(T.nm 8), (T.nm 9)]) (I.seq (E.ix (E.ix (E.ix (E.ix (E.slot 2) (E.int 1)) (E.slot 4)) (E.int 1)) (E.int 0))) l1__law_at),
  (S.ret (E.cmp .Eq (E.call 44 (E.slot 0) (Es.cons (E.slot 1) (Es.cons (E.slot 2) (Es.cons (E.tup (Es.cons (E.slot 4) (Es.cons (E.slot 5) Es.nil))) Es.nil)))) (E.slot 6)))]
def p__law_at : PF := ⟨"_law_at", ["plant", "mode", "course", "places", "k", "t", "now", "left", "span", "rates", "own"], ⟨6, 11, b__law_at⟩, top 94⟩
/-- _law_drawn(deal, plant, mode, point) -/
def c1__law_drawn : E := E.lc (E.tup (Es.cons (E.call 50 (E.slot 0) (Es.cons (E.bi .len (E.ix (E.slot 1) (E.int 3)) Es.nil) Es.nil)) (Es.cons (E.call 50 (E.slot 0) (Es.cons (E.int 1000) Es.nil)) Es.nil))) (T.nm 5) (I.rng1 (E.call 50 (E.slot 0) (Es.cons (E.int 4) Es.nil))) Eo.none [5]
def l1__law_drawn : List S := [(S.asg (T.nm 10) (E.call 88 (E.slot 1) (Es.cons (E.ix (E.slot 7) (E.int 0)) (Es.cons (E.slot 8) (Es.cons (E.ix (E.slot 7) (E.int 1)) (Es.cons (E.slot 9) Es.nil)))))), (S.iff (E.not (E.call 51 (E.call 32 (E.slot 1) (Es.cons (E.ix (E.slot 7) (E.int 0)) (Es.cons (E.slot 8) (Es.cons (E.ix (E.slot 7) (E.int 1)) (Es.cons (E.slot 9) Es.nil))))) (Es.cons (E.slot 10) Es.nil))) [(S.ret (E.bl false))] []), (S.app 6 (E.tup (Es.cons (E.slot 8) (Es.cons (E.slot 10) Es.nil)))), (S.asg (T.nm 7) (E.call 73 (E.slot 1) (Es.cons (E.ix (E.slot 7) (E.int 0)) (Es.cons (E.ix (E.slot 7) (E.int 1)) (Es.cons (E.slot 10) Es.nil)))))]
def b__law_drawn : List S := [
  (S.asg (T.nm 4) (E.bi .tuple c1__law_drawn Es.nil)),
  (S.asgN 6 (E.lst Es.nil)),
  (S.asg (T.nm 7) (E.tup (Es.cons (E.slot 2) (Es.cons (E.slot 3) Es.nil)))),
  (S.for (T.tp [(T.nm 8), (T.nm 9)]) (I.seq (E.slot 4)) l1__law_drawn),
  (S.frz 6 (S.asg (T.nm 11) (E.tup (Es.cons (E.slot 3) (Es.cons (E.bi .tuple (E.slot 6) Es.nil) Es.nil))))),
  (S.ret (E.and (E.call 51 (E.call 48 (E.slot 1) (Es.cons (E.slot 2) (Es.cons (E.slot 3) (Es.cons (E.slot 4) Es.nil)))) (Es.cons (E.slot 11) Es.nil)) (Es.cons (E.cmp .Is (E.call 36 (E.slot 1) (Es.cons (E.slot 2) (Es.cons (E.slot 11) Es.nil))) (E.bl true)) Es.nil)))]
def p__law_drawn : PF := ⟨"_law_drawn", ["deal", "plant", "mode", "point", "draws", "turn", "steps", "place", "command", "number", "beat", "course"], ⟨4, 12, b__law_drawn⟩, top 95⟩
/-- _law_corner(box, number) -/
def c1__law_corner : E := E.lc (E.ix (E.ix (E.slot 0) (E.slot 2)) (E.bin .Mod (E.bin .FloorDiv (E.slot 1) (E.ix (E.lst (Es.cons (E.int 1) (Es.cons (E.int 2) (Es.cons (E.int 4) Es.nil)))) (E.slot 2))) (E.int 2))) (T.nm 2) (I.rng1 (E.bi .len (E.slot 0) Es.nil)) Eo.none [2]
def b__law_corner : List S := [
  (S.ret (E.bi .tuple c1__law_corner Es.nil))]
def p__law_corner : PF := ⟨"_law_corner", ["box", "number", "k"], ⟨2, 3, b__law_corner⟩, top 96⟩
/-- _law_drawn_beat(plant, mode, command, point, number) -/
def b__law_drawn_beat : List S := [
  (S.asg (T.nm 5) (E.ix (E.ix (E.ix (E.slot 0) (E.int 5)) (E.slot 1)) (E.slot 2))),
  (S.asg (T.nm 6) (E.call 87 (E.slot 5) (Es.cons (E.slot 4) Es.nil))),
  (S.asg (T.nm 7) (E.bin .FloorDiv (E.slot 4) (E.ix (E.lst (Es.cons (E.int 1) (Es.cons (E.int 2) (Es.cons (E.int 4) (Es.cons (E.int 8) Es.nil))))) (E.bi .len (E.slot 5) Es.nil)))),
  (S.asg (T.nm 8) (E.call 70 (E.slot 0) (Es.cons (E.slot 1) (Es.cons (E.call 71 (E.slot 3) (Es.cons (E.slot 6) (Es.cons (E.ix (E.slot 0) (E.int 4)) Es.nil))) Es.nil)))),
  (S.asg (T.nm 9) (E.ix (E.slot 8) (E.bin .Mod (E.slot 7) (E.bi .len (E.slot 8) Es.nil)))),
  (S.ret (E.tup (Es.cons (E.tup (Es.cons (E.tup (Es.cons (E.ix (E.slot 0) (E.int 4)) (Es.cons (E.slot 6) Es.nil))) Es.nil)) (Es.cons (E.slot 9) (Es.cons (E.ite (E.isN (E.slot 9)) E.non (E.call 87 (E.ix (E.ix (E.ix (E.slot 0) (E.int 6)) (E.slot 9)) (E.int 5)) (Es.cons (E.bin .FloorDiv (E.slot 7) (E.bi .len (E.slot 8) Es.nil)) Es.nil))) Es.nil)))))]
def p__law_drawn_beat : PF := ⟨"_law_drawn_beat", ["plant", "mode", "command", "point", "number", "box", "rates", "left", "told", "index"], ⟨5, 10, b__law_drawn_beat⟩, top 97⟩
/-- law(script) -/
def c1_law : E := E.lc (E.slot 12) (T.tp [(T.nm 11), (T.nm 12)]) (I.seq (E.ix (E.slot 10) (E.int 1))) (Eo.some (E.cmp .NotEq (E.bi .len (E.ix (E.slot 12) (E.int 0)) Es.nil) (E.int 1))) [11, 12]
def l1_law : List S := [(S.asg (T.nm 14) (E.call 72 (E.ix (E.ix (E.slot 7) (E.slot 13)) (E.int 1)) (Es.cons (E.ix (E.ix (E.ix (E.ix (E.slot 6) (E.int 1)) (E.slot 13)) (E.int 1)) (E.int 0)) Es.nil))), (S.iff (E.not (E.call 51 (E.call 19 (E.ix (E.ix (E.slot 7) (E.slot 13)) (E.int 1)) (Es.cons (E.ix (E.ix (E.ix (E.ix (E.slot 6) (E.int 1)) (E.slot 13)) (E.int 1)) (E.int 0)) Es.nil)) (Es.cons (E.slot 14) Es.nil))) [(S.ret (E.bl false))] []), (S.iff (E.not (E.call 85 (E.slot 3) (Es.cons (E.slot 5) (Es.cons (E.slot 6) (Es.cons (E.slot 7) (Es.cons (E.slot 13) (Es.cons (E.call 55 (E.ix (E.slot 3) (E.int 4)) (Es.cons (E.call 53 (E.call 50 (E.slot 1) (Es.cons (E.int 9) Es.nil)) (Es.cons (E.int 8) Es.nil)) Es.nil)) Es.nil))))))) [(S.ret (E.bl false))] [])]
def l2_law : List S := [(S.iff (E.cmp .IsNot (E.call 36 (E.slot 3) (Es.cons (E.slot 5) (Es.cons (E.slot 15) Es.nil))) (E.bl false)) [(S.ret (E.bl false))] [])]
def b_law : List S := [
  (S.asg (T.nm 1) (E.call 49 (E.slot 0) Es.nil)),
  (S.asg (T.nm 2) (E.bin .Add (E.int 1) (E.call 50 (E.slot 1) (Es.cons (E.int 2) Es.nil)))),
  (S.asg (T.nm 3) (E.call 68 (E.slot 1) (Es.cons (E.call 66 (E.slot 1) (Es.cons (E.slot 2) Es.nil)) Es.nil))),
  (S.asg (T.nm 4) (E.tup (Es.cons (E.call 69 (E.slot 1) (Es.cons (E.slot 3) Es.nil)) (Es.cons E.non Es.nil)))),
  (S.asg (T.nm 5) (E.call 50 (E.slot 1) (Es.cons (E.bi .len (E.ix (E.slot 3) (E.int 2)) Es.nil) Es.nil))),
  (S.asg (T.nm 6) (E.call 77 (E.slot 1) (Es.cons (E.slot 3) (Es.cons (E.slot 5) (Es.cons (E.call 79 (E.slot 1) (Es.cons (E.slot 2) Es.nil)) (Es.cons (E.call 50 (E.slot 1) (Es.cons (E.int 5) Es.nil)) Es.nil)))))),
  (S.asg (T.nm 7) (E.call 78 (E.slot 3) (Es.cons (E.slot 5) (Es.cons (E.slot 6) Es.nil)))),
  (S.iff (E.or (E.cmp .IsNot (E.call 36 (E.slot 3) (Es.cons (E.slot 5) (Es.cons (E.slot 6) Es.nil))) (E.bl true)) (Es.cons (E.not (E.call 51 (E.call 37 (E.slot 3) (Es.cons (E.slot 5) (Es.cons (E.slot 6) Es.nil))) (Es.cons (E.slot 7) Es.nil))) Es.nil)) [(S.ret (E.bl false))] []),
  (S.asg (T.nm 8) (E.call 80 (E.slot 3) (Es.cons (E.slot 4) (Es.cons (E.slot 5) (Es.cons (E.slot 6) Es.nil))))),
  (S.asg (T.nm 9) (E.call 42 (E.slot 3) (Es.cons (E.slot 4) (Es.cons (E.slot 5) (Es.cons (E.slot 6) Es.nil))))),
  (S.iff (E.or (E.not (E.call 51 (E.slot 9) (Es.cons (E.slot 8) Es.nil))) (Es.cons (E.not (E.call 52 (E.call 39 (E.slot 3) (Es.cons (E.slot 4) (Es.cons (E.slot 5) (Es.cons (E.slot 6) Es.nil)))) (Es.cons (E.isN (E.slot 8)) Es.nil))) Es.nil)) [(S.ret (E.bl false))] []),
  (S.iff (E.and (E.notN (E.slot 8)) (Es.cons (E.not (E.call 85 (E.slot 3) (Es.cons (E.slot 5) (Es.cons (E.slot 6) (Es.cons (E.slot 7) (Es.cons (E.ix (E.slot 8) (E.int 0)) (Es.cons (E.ix (E.slot 8) (E.int 1)) Es.nil))))))) Es.nil)) [(S.ret (E.bl false))] []),
  (S.asg (T.nm 10) (E.call 47 (E.slot 3) (Es.cons (E.slot 6) Es.nil))),
  (S.iff (E.or (E.cmp .IsNot (E.call 36 (E.slot 3) (Es.cons (E.slot 5) (Es.cons (E.slot 10) Es.nil))) (E.bl true)) (Es.cons (E.cmp .NotEq (E.call 78 (E.slot 3) (Es.cons (E.slot 5) (Es.cons (E.slot 10) Es.nil))) (E.slot 7)) Es.nil)) [(S.ret (E.bl false))] []),
  (S.iff (E.or (E.and (E.isN (E.slot 8)) (Es.cons (E.cmp .IsNot (E.call 39 (E.slot 3) (Es.cons (E.slot 4) (Es.cons (E.slot 5) (Es.cons (E.slot 10) Es.nil)))) (E.bl true)) Es.nil)) (Es.cons (E.cmp .Gt (E.bi .len c1_law Es.nil) (E.int 0)) Es.nil)) [(S.ret (E.bl false))] []),
  (S.iff (E.not (E.call 84 (E.slot 3) (Es.cons (E.slot 4) (Es.cons (E.slot 5) (Es.cons (E.slot 6) (Es.cons (E.slot 7) (Es.cons (E.call 50 (E.slot 1) (Es.cons (E.bi .len (E.slot 7) Es.nil) Es.nil)) Es.nil))))))) [(S.ret (E.bl false))] []),
  (S.iff (E.or (E.cmp .IsNot (E.call 36 (E.slot 3) (Es.cons (E.bi .len (E.ix (E.slot 3) (E.int 2)) Es.nil) (Es.cons (E.slot 6) Es.nil))) (E.bl false)) (Es.cons (E.cmp .IsNot (E.call 36 (E.slot 3) (Es.cons (E.slot 5) (Es.cons (E.tup (Es.cons (E.bin .Add (E.ix (E.slot 6) (E.int 0)) (E.tup (Es.cons (E.tup (Es.cons (E.int 0) (Es.cons (E.int 1) Es.nil))) Es.nil))) (Es.cons (E.ix (E.slot 6) (E.int 1)) Es.nil))) Es.nil))) (E.bl false)) Es.nil)) [(S.ret (E.bl false))] []),
  (S.for (T.nm 13) (I.rng1 (E.bi .len (E.ix (E.slot 6) (E.int 1)) Es.nil)) l1_law),
  (S.iff (E.not (E.call 86 (E.slot 1) (Es.cons (E.slot 3) (Es.cons (E.slot 5) (Es.cons (E.ix (E.slot 6) (E.int 0)) Es.nil))))) [(S.ret (E.bl false))] []),
  (S.iff (E.cmp .Eq (E.bi .len (E.ix (E.slot 6) (E.int 1)) Es.nil) (E.int 0)) [(S.ret (E.bl true))] []),
  (S.for (T.nm 15) (I.seq (E.call 83 (E.slot 3) (Es.cons (E.slot 6) (Es.cons (E.call 50 (E.slot 1) (Es.cons (E.bi .len (E.ix (E.slot 6) (E.int 1)) Es.nil) Es.nil)) (Es.cons (E.slot 7) Es.nil))))) l2_law),
  (S.ret (E.bl true))]
def p_law : PF := ⟨"law", ["script", "deal", "n", "plant", "wishes", "mode", "course", "places", "due", "told", "mean", "command", "beat", "k", "points", "wrong"], ⟨1, 16, b_law⟩, top 98⟩
def pfs : List PF := [p_greatest_divisor, p_ratio, p_added, p_opposite, p_less, p_times, p_over, p_compare, p_blended, p_is_ratio, p_height, p_keeps, p_has_point, p_rates_of, p_switches_from, p_guard_holds, p_choices, p_sum_of_points, p_moved, p_passed, p_is_point_of, p_are_segments, p_is_kick, p_is_beat, p_place_behind, p_end_of, p_in_stay, p_is_safe_beat, p_mean_rates, p_mean_beat, p_corner, p_drawn_end, p_drawn_beat, p_crossing, p_least_time, p_is_place, p_shows_course, p_replayed, p_first_bad_step, p_is_safe_course, p_time_in_segment, p_time_left, p_left_at, p_point_within, p_point_at, p_first_steps, p_course_behind, p_mean_course, p_drawn_course, p__law_deal, p__law_take, p__law_same, p__law_bool, p__law_ratio, p__law_plus, p__law_mult, p__law_minus, p__law_height, p__law_keeps, p__law_has, p__law_pick, p__law_small, p__law_pair, p__law_line, p__law_stay, p__law_guard, p__law_plant, p__law_strictly, p__law_edged, p__law_stays, p__law_choices, p__law_moved, p__law_passed, p__law_end, p__law_safe, p__law_between, p__law_beat, p__law_course, p__law_places, p__law_point, p__law_left, p__law_time, p__law_with, p__law_spoilt, p__law_cut, p__law_at, p__law_drawn, p__law_corner, p__law_drawn_beat, p_law]
def fs : List Fn := pfs.map (·.fn)
def cons : List (Str × D) := [("NOTHING", .tup [.int 0, .int 1]), ("MUST", .str "must"), ("MAY", .str "may")]
abbrev gls : List Str := cons.map (·.1)
def Γ : GlS := ΓC cons
@[simp] theorem Γ_0 : Γ 0 = some (.tup [.int 0, .int 1]) := rfl
@[simp] theorem Γ_1 : Γ 1 = some (.str "must") := rfl
@[simp] theorem Γ_2 : Γ 2 = some (.str "may") := rfl
abbrev f_greatest_divisor : Nat := 0
abbrev f_ratio : Nat := 1
abbrev f_added : Nat := 2
abbrev f_opposite : Nat := 3
abbrev f_less : Nat := 4
abbrev f_times : Nat := 5
abbrev f_over : Nat := 6
abbrev f_compare : Nat := 7
abbrev f_blended : Nat := 8
abbrev f_is_ratio : Nat := 9
abbrev f_height : Nat := 10
abbrev f_keeps : Nat := 11
abbrev f_has_point : Nat := 12
abbrev f_rates_of : Nat := 13
abbrev f_switches_from : Nat := 14
abbrev f_guard_holds : Nat := 15
abbrev f_choices : Nat := 16
abbrev f_sum_of_points : Nat := 17
abbrev f_moved : Nat := 18
abbrev f_passed : Nat := 19
abbrev f_is_point_of : Nat := 20
abbrev f_are_segments : Nat := 21
abbrev f_is_kick : Nat := 22
abbrev f_is_beat : Nat := 23
abbrev f_place_behind : Nat := 24
abbrev f_end_of : Nat := 25
abbrev f_in_stay : Nat := 26
abbrev f_is_safe_beat : Nat := 27
abbrev f_mean_rates : Nat := 28
abbrev f_mean_beat : Nat := 29
abbrev f_corner : Nat := 30
abbrev f_drawn_end : Nat := 31
abbrev f_drawn_beat : Nat := 32
abbrev f_crossing : Nat := 33
abbrev f_least_time : Nat := 34
abbrev f_is_place : Nat := 35
abbrev f_shows_course : Nat := 36
abbrev f_replayed : Nat := 37
abbrev f_first_bad_step : Nat := 38
abbrev f_is_safe_course : Nat := 39
abbrev f_time_in_segment : Nat := 40
abbrev f_time_left : Nat := 41
abbrev f_left_at : Nat := 42
abbrev f_point_within : Nat := 43
abbrev f_point_at : Nat := 44
abbrev f_first_steps : Nat := 45
abbrev f_course_behind : Nat := 46
abbrev f_mean_course : Nat := 47
abbrev f_drawn_course : Nat := 48
abbrev f__law_deal : Nat := 49
abbrev f__law_take : Nat := 50
abbrev f__law_same : Nat := 51
abbrev f__law_bool : Nat := 52
abbrev f__law_ratio : Nat := 53
abbrev f__law_plus : Nat := 54
abbrev f__law_mult : Nat := 55
abbrev f__law_minus : Nat := 56
abbrev f__law_height : Nat := 57
abbrev f__law_keeps : Nat := 58
abbrev f__law_has : Nat := 59
abbrev f__law_pick : Nat := 60
abbrev f__law_small : Nat := 61
abbrev f__law_pair : Nat := 62
abbrev f__law_line : Nat := 63
abbrev f__law_stay : Nat := 64
abbrev f__law_guard : Nat := 65
abbrev f__law_plant : Nat := 66
abbrev f__law_strictly : Nat := 67
abbrev f__law_edged : Nat := 68
abbrev f__law_stays : Nat := 69
abbrev f__law_choices : Nat := 70
abbrev f__law_moved : Nat := 71
abbrev f__law_passed : Nat := 72
abbrev f__law_end : Nat := 73
abbrev f__law_safe : Nat := 74
abbrev f__law_between : Nat := 75
abbrev f__law_beat : Nat := 76
abbrev f__law_course : Nat := 77
abbrev f__law_places : Nat := 78
abbrev f__law_point : Nat := 79
abbrev f__law_left : Nat := 80
abbrev f__law_time : Nat := 81
abbrev f__law_with : Nat := 82
abbrev f__law_spoilt : Nat := 83
abbrev f__law_cut : Nat := 84
abbrev f__law_at : Nat := 85
abbrev f__law_drawn : Nat := 86
abbrev f__law_corner : Nat := 87
abbrev f__law_drawn_beat : Nat := 88
abbrev f_law : Nat := 89
theorem u_greatest_divisor (k : Nat) (d0 d1 : D) (μ : Store) : Py.run fs Γ (k + 1) f_greatest_divisor [d0, d1] μ = fin (exs (Py.run fs Γ k) Γ b_greatest_divisor [some (.val d0), some (.val d1)] μ) := run_fin (fs := fs) (fn := p_greatest_divisor.fn) rfl rfl
theorem u_ratio (k : Nat) (d0 d1 : D) (μ : Store) : Py.run fs Γ (k + 1) f_ratio [d0, d1] μ = fin (exs (Py.run fs Γ k) Γ b_ratio [some (.val d0), some (.val d1), none] μ) := run_fin (fs := fs) (fn := p_ratio.fn) rfl rfl
theorem u_added (k : Nat) (d0 d1 : D) (μ : Store) : Py.run fs Γ (k + 1) f_added [d0, d1] μ = fin (exs (Py.run fs Γ k) Γ b_added [some (.val d0), some (.val d1)] μ) := run_fin (fs := fs) (fn := p_added.fn) rfl rfl
theorem u_opposite (k : Nat) (d0 : D) (μ : Store) : Py.run fs Γ (k + 1) f_opposite [d0] μ = fin (exs (Py.run fs Γ k) Γ b_opposite [some (.val d0)] μ) := run_fin (fs := fs) (fn := p_opposite.fn) rfl rfl
theorem u_less (k : Nat) (d0 d1 : D) (μ : Store) : Py.run fs Γ (k + 1) f_less [d0, d1] μ = fin (exs (Py.run fs Γ k) Γ b_less [some (.val d0), some (.val d1)] μ) := run_fin (fs := fs) (fn := p_less.fn) rfl rfl
theorem u_times (k : Nat) (d0 d1 : D) (μ : Store) : Py.run fs Γ (k + 1) f_times [d0, d1] μ = fin (exs (Py.run fs Γ k) Γ b_times [some (.val d0), some (.val d1)] μ) := run_fin (fs := fs) (fn := p_times.fn) rfl rfl
theorem u_over (k : Nat) (d0 d1 : D) (μ : Store) : Py.run fs Γ (k + 1) f_over [d0, d1] μ = fin (exs (Py.run fs Γ k) Γ b_over [some (.val d0), some (.val d1)] μ) := run_fin (fs := fs) (fn := p_over.fn) rfl rfl
theorem u_compare (k : Nat) (d0 d1 : D) (μ : Store) : Py.run fs Γ (k + 1) f_compare [d0, d1] μ = fin (exs (Py.run fs Γ k) Γ b_compare [some (.val d0), some (.val d1), none] μ) := run_fin (fs := fs) (fn := p_compare.fn) rfl rfl
theorem u_blended (k : Nat) (d0 d1 : D) (μ : Store) : Py.run fs Γ (k + 1) f_blended [d0, d1] μ = fin (exs (Py.run fs Γ k) Γ b_blended [some (.val d0), some (.val d1), none, none, none] μ) := run_fin (fs := fs) (fn := p_blended.fn) rfl rfl
theorem u_is_ratio (k : Nat) (d0 : D) (μ : Store) : Py.run fs Γ (k + 1) f_is_ratio [d0] μ = fin (exs (Py.run fs Γ k) Γ b_is_ratio [some (.val d0)] μ) := run_fin (fs := fs) (fn := p_is_ratio.fn) rfl rfl
theorem u_height (k : Nat) (d0 d1 : D) (μ : Store) : Py.run fs Γ (k + 1) f_height [d0, d1] μ = fin (exs (Py.run fs Γ k) Γ b_height [some (.val d0), some (.val d1)] μ) := run_fin (fs := fs) (fn := p_height.fn) rfl rfl
theorem u_keeps (k : Nat) (d0 d1 : D) (μ : Store) : Py.run fs Γ (k + 1) f_keeps [d0, d1] μ = fin (exs (Py.run fs Γ k) Γ b_keeps [some (.val d0), some (.val d1), none] μ) := run_fin (fs := fs) (fn := p_keeps.fn) rfl rfl
theorem u_has_point (k : Nat) (d0 d1 : D) (μ : Store) : Py.run fs Γ (k + 1) f_has_point [d0, d1] μ = fin (exs (Py.run fs Γ k) Γ b_has_point [some (.val d0), some (.val d1), none] μ) := run_fin (fs := fs) (fn := p_has_point.fn) rfl rfl
theorem u_rates_of (k : Nat) (d0 d1 d2 : D) (μ : Store) : Py.run fs Γ (k + 1) f_rates_of [d0, d1, d2] μ = fin (exs (Py.run fs Γ k) Γ b_rates_of [some (.val d0), some (.val d1), some (.val d2)] μ) := run_fin (fs := fs) (fn := p_rates_of.fn) rfl rfl
theorem u_switches_from (k : Nat) (d0 d1 d2 : D) (μ : Store) : Py.run fs Γ (k + 1) f_switches_from [d0, d1, d2] μ = fin (exs (Py.run fs Γ k) Γ b_switches_from [some (.val d0), some (.val d1), some (.val d2), none, none] μ) := run_fin (fs := fs) (fn := p_switches_from.fn) rfl rfl
theorem u_guard_holds (k : Nat) (d0 d1 d2 : D) (μ : Store) : Py.run fs Γ (k + 1) f_guard_holds [d0, d1, d2] μ = fin (exs (Py.run fs Γ k) Γ b_guard_holds [some (.val d0), some (.val d1), some (.val d2)] μ) := run_fin (fs := fs) (fn := p_guard_holds.fn) rfl rfl
theorem u_choices (k : Nat) (d0 d1 d2 : D) (μ : Store) : Py.run fs Γ (k + 1) f_choices [d0, d1, d2] μ = fin (exs (Py.run fs Γ k) Γ b_choices [some (.val d0), some (.val d1), some (.val d2), none, none] μ) := run_fin (fs := fs) (fn := p_choices.fn) rfl rfl
theorem u_sum_of_points (k : Nat) (d0 d1 : D) (μ : Store) : Py.run fs Γ (k + 1) f_sum_of_points [d0, d1] μ = fin (exs (Py.run fs Γ k) Γ b_sum_of_points [some (.val d0), some (.val d1), none, none] μ) := run_fin (fs := fs) (fn := p_sum_of_points.fn) rfl rfl
theorem u_moved (k : Nat) (d0 d1 d2 : D) (μ : Store) : Py.run fs Γ (k + 1) f_moved [d0, d1, d2] μ = fin (exs (Py.run fs Γ k) Γ b_moved [some (.val d0), some (.val d1), some (.val d2), none, none] μ) := run_fin (fs := fs) (fn := p_moved.fn) rfl rfl
theorem u_passed (k : Nat) (d0 d1 : D) (μ : Store) : Py.run fs Γ (k + 1) f_passed [d0, d1] μ = fin (exs (Py.run fs Γ k) Γ b_passed [some (.val d0), some (.val d1), none, none, none] μ) := run_fin (fs := fs) (fn := p_passed.fn) rfl rfl
theorem u_is_point_of (k : Nat) (d0 d1 : D) (μ : Store) : Py.run fs Γ (k + 1) f_is_point_of [d0, d1] μ = fin (exs (Py.run fs Γ k) Γ b_is_point_of [some (.val d0), some (.val d1), none, none, none] μ) := run_fin (fs := fs) (fn := p_is_point_of.fn) rfl rfl
theorem u_are_segments (k : Nat) (d0 d1 d2 d3 : D) (μ : Store) : Py.run fs Γ (k + 1) f_are_segments [d0, d1, d2, d3] μ = fin (exs (Py.run fs Γ k) Γ b_are_segments [some (.val d0), some (.val d1), some (.val d2), some (.val d3), none, none, none, none] μ) := run_fin (fs := fs) (fn := p_are_segments.fn) rfl rfl
theorem u_is_kick (k : Nat) (d0 d1 d2 : D) (μ : Store) : Py.run fs Γ (k + 1) f_is_kick [d0, d1, d2] μ = fin (exs (Py.run fs Γ k) Γ b_is_kick [some (.val d0), some (.val d1), some (.val d2)] μ) := run_fin (fs := fs) (fn := p_is_kick.fn) rfl rfl
theorem u_is_beat (k : Nat) (d0 d1 d2 d3 d4 : D) (μ : Store) : Py.run fs Γ (k + 1) f_is_beat [d0, d1, d2, d3, d4] μ = fin (exs (Py.run fs Γ k) Γ b_is_beat [some (.val d0), some (.val d1), some (.val d2), some (.val d3), some (.val d4), none, none, none] μ) := run_fin (fs := fs) (fn := p_is_beat.fn) rfl rfl
theorem u_place_behind (k : Nat) (d0 d1 d2 d3 d4 : D) (μ : Store) : Py.run fs Γ (k + 1) f_place_behind [d0, d1, d2, d3, d4] μ = fin (exs (Py.run fs Γ k) Γ b_place_behind [some (.val d0), some (.val d1), some (.val d2), some (.val d3), some (.val d4)] μ) := run_fin (fs := fs) (fn := p_place_behind.fn) rfl rfl
theorem u_end_of (k : Nat) (d0 d1 d2 d3 : D) (μ : Store) : Py.run fs Γ (k + 1) f_end_of [d0, d1, d2, d3] μ = fin (exs (Py.run fs Γ k) Γ b_end_of [some (.val d0), some (.val d1), some (.val d2), some (.val d3), none, none, none] μ) := run_fin (fs := fs) (fn := p_end_of.fn) rfl rfl
theorem u_in_stay (k : Nat) (d0 d1 d2 : D) (μ : Store) : Py.run fs Γ (k + 1) f_in_stay [d0, d1, d2] μ = fin (exs (Py.run fs Γ k) Γ b_in_stay [some (.val d0), some (.val d1), some (.val d2)] μ) := run_fin (fs := fs) (fn := p_in_stay.fn) rfl rfl
theorem u_is_safe_beat (k : Nat) (d0 d1 d2 d3 d4 : D) (μ : Store) : Py.run fs Γ (k + 1) f_is_safe_beat [d0, d1, d2, d3, d4] μ = fin (exs (Py.run fs Γ k) Γ b_is_safe_beat [some (.val d0), some (.val d1), some (.val d2), some (.val d3), some (.val d4), none, none, none] μ) := run_fin (fs := fs) (fn := p_is_safe_beat.fn) rfl rfl
theorem u_mean_rates (k : Nat) (d0 d1 : D) (μ : Store) : Py.run fs Γ (k + 1) f_mean_rates [d0, d1] μ = fin (exs (Py.run fs Γ k) Γ b_mean_rates [some (.val d0), some (.val d1), none, none, none, none, none, none] μ) := run_fin (fs := fs) (fn := p_mean_rates.fn) rfl rfl
theorem u_mean_beat (k : Nat) (d0 d1 : D) (μ : Store) : Py.run fs Γ (k + 1) f_mean_beat [d0, d1] μ = fin (exs (Py.run fs Γ k) Γ b_mean_beat [some (.val d0), some (.val d1), none, none, none] μ) := run_fin (fs := fs) (fn := p_mean_beat.fn) rfl rfl
theorem u_corner (k : Nat) (d0 d1 : D) (μ : Store) : Py.run fs Γ (k + 1) f_corner [d0, d1] μ = fin (exs (Py.run fs Γ k) Γ b_corner [some (.val d0), some (.val d1), none] μ) := run_fin (fs := fs) (fn := p_corner.fn) rfl rfl
theorem u_drawn_end (k : Nat) (d0 d1 d2 d3 : D) (μ : Store) : Py.run fs Γ (k + 1) f_drawn_end [d0, d1, d2, d3] μ = fin (exs (Py.run fs Γ k) Γ b_drawn_end [some (.val d0), some (.val d1), some (.val d2), some (.val d3), none, none] μ) := run_fin (fs := fs) (fn := p_drawn_end.fn) rfl rfl
theorem u_drawn_beat (k : Nat) (d0 d1 d2 d3 d4 : D) (μ : Store) : Py.run fs Γ (k + 1) f_drawn_beat [d0, d1, d2, d3, d4] μ = fin (exs (Py.run fs Γ k) Γ b_drawn_beat [some (.val d0), some (.val d1), some (.val d2), some (.val d3), some (.val d4), none, none, none] μ) := run_fin (fs := fs) (fn := p_drawn_beat.fn) rfl rfl
theorem u_crossing (k : Nat) (d0 d1 d2 : D) (μ : Store) : Py.run fs Γ (k + 1) f_crossing [d0, d1, d2] μ = fin (exs (Py.run fs Γ k) Γ b_crossing [some (.val d0), some (.val d1), some (.val d2), none] μ) := run_fin (fs := fs) (fn := p_crossing.fn) rfl rfl
theorem u_least_time (k : Nat) (d0 d1 : D) (μ : Store) : Py.run fs Γ (k + 1) f_least_time [d0, d1] μ = fin (exs (Py.run fs Γ k) Γ b_least_time [some (.val d0), some (.val d1), none, none] μ) := run_fin (fs := fs) (fn := p_least_time.fn) rfl rfl
theorem u_is_place (k : Nat) (d0 d1 d2 : D) (μ : Store) : Py.run fs Γ (k + 1) f_is_place [d0, d1, d2] μ = fin (exs (Py.run fs Γ k) Γ b_is_place [some (.val d0), some (.val d1), some (.val d2), none] μ) := run_fin (fs := fs) (fn := p_is_place.fn) rfl rfl
theorem u_shows_course (k : Nat) (d0 d1 d2 : D) (μ : Store) : Py.run fs Γ (k + 1) f_shows_course [d0, d1, d2] μ = fin (exs (Py.run fs Γ k) Γ b_shows_course [some (.val d0), some (.val d1), some (.val d2), none, none, none, none, none] μ) := run_fin (fs := fs) (fn := p_shows_course.fn) rfl rfl
theorem u_replayed (k : Nat) (d0 d1 d2 : D) (μ : Store) : Py.run fs Γ (k + 1) f_replayed [d0, d1, d2] μ = fin (exs (Py.run fs Γ k) Γ b_replayed [some (.val d0), some (.val d1), some (.val d2), none, none, none, none, none] μ) := run_fin (fs := fs) (fn := p_replayed.fn) rfl rfl
theorem u_first_bad_step (k : Nat) (d0 d1 d2 d3 : D) (μ : Store) : Py.run fs Γ (k + 1) f_first_bad_step [d0, d1, d2, d3] μ = fin (exs (Py.run fs Γ k) Γ b_first_bad_step [some (.val d0), some (.val d1), some (.val d2), some (.val d3), none, none, none, none] μ) := run_fin (fs := fs) (fn := p_first_bad_step.fn) rfl rfl
theorem u_is_safe_course (k : Nat) (d0 d1 d2 d3 : D) (μ : Store) : Py.run fs Γ (k + 1) f_is_safe_course [d0, d1, d2, d3] μ = fin (exs (Py.run fs Γ k) Γ b_is_safe_course [some (.val d0), some (.val d1), some (.val d2), some (.val d3)] μ) := run_fin (fs := fs) (fn := p_is_safe_course.fn) rfl rfl
theorem u_time_in_segment (k : Nat) (d0 d1 d2 d3 : D) (μ : Store) : Py.run fs Γ (k + 1) f_time_in_segment [d0, d1, d2, d3] μ = fin (exs (Py.run fs Γ k) Γ b_time_in_segment [some (.val d0), some (.val d1), some (.val d2), some (.val d3), none, none, none] μ) := run_fin (fs := fs) (fn := p_time_in_segment.fn) rfl rfl
theorem u_time_left (k : Nat) (d0 d1 d2 d3 d4 : D) (μ : Store) : Py.run fs Γ (k + 1) f_time_left [d0, d1, d2, d3, d4] μ = fin (exs (Py.run fs Γ k) Γ b_time_left [some (.val d0), some (.val d1), some (.val d2), some (.val d3), some (.val d4), none, none, none, none, none, none] μ) := run_fin (fs := fs) (fn := p_time_left.fn) rfl rfl
theorem u_left_at (k : Nat) (d0 d1 d2 d3 : D) (μ : Store) : Py.run fs Γ (k + 1) f_left_at [d0, d1, d2, d3] μ = fin (exs (Py.run fs Γ k) Γ b_left_at [some (.val d0), some (.val d1), some (.val d2), some (.val d3), none, none, none] μ) := run_fin (fs := fs) (fn := p_left_at.fn) rfl rfl
theorem u_point_within (k : Nat) (d0 d1 d2 : D) (μ : Store) : Py.run fs Γ (k + 1) f_point_within [d0, d1, d2] μ = fin (exs (Py.run fs Γ k) Γ b_point_within [some (.val d0), some (.val d1), some (.val d2), none, none, none, none, none] μ) := run_fin (fs := fs) (fn := p_point_within.fn) rfl rfl
theorem u_point_at (k : Nat) (d0 d1 d2 d3 : D) (μ : Store) : Py.run fs Γ (k + 1) f_point_at [d0, d1, d2, d3] μ = fin (exs (Py.run fs Γ k) Γ b_point_at [some (.val d0), some (.val d1), some (.val d2), some (.val d3), none, none, none] μ) := run_fin (fs := fs) (fn := p_point_at.fn) rfl rfl
theorem u_first_steps (k : Nat) (d0 d1 : D) (μ : Store) : Py.run fs Γ (k + 1) f_first_steps [d0, d1] μ = fin (exs (Py.run fs Γ k) Γ b_first_steps [some (.val d0), some (.val d1)] μ) := run_fin (fs := fs) (fn := p_first_steps.fn) rfl rfl
theorem u_course_behind (k : Nat) (d0 d1 d2 d3 : D) (μ : Store) : Py.run fs Γ (k + 1) f_course_behind [d0, d1, d2, d3] μ = fin (exs (Py.run fs Γ k) Γ b_course_behind [some (.val d0), some (.val d1), some (.val d2), some (.val d3), none, none] μ) := run_fin (fs := fs) (fn := p_course_behind.fn) rfl rfl
theorem u_mean_course (k : Nat) (d0 d1 : D) (μ : Store) : Py.run fs Γ (k + 1) f_mean_course [d0, d1] μ = fin (exs (Py.run fs Γ k) Γ b_mean_course [some (.val d0), some (.val d1), none, none] μ) := run_fin (fs := fs) (fn := p_mean_course.fn) rfl rfl
theorem u_drawn_course (k : Nat) (d0 d1 d2 d3 : D) (μ : Store) : Py.run fs Γ (k + 1) f_drawn_course [d0, d1, d2, d3] μ = fin (exs (Py.run fs Γ k) Γ b_drawn_course [some (.val d0), some (.val d1), some (.val d2), some (.val d3), none, none, none, none, none] μ) := run_fin (fs := fs) (fn := p_drawn_course.fn) rfl rfl
theorem u__law_deal (k : Nat) (d0 : D) (μ : Store) : Py.run fs Γ (k + 1) f__law_deal [d0] μ = fin (exs (Py.run fs Γ k) Γ b__law_deal [some (.val d0), none, none, none, none, none] μ) := run_fin (fs := fs) (fn := p__law_deal.fn) rfl rfl
theorem u__law_take (k : Nat) (d0 d1 : D) (μ : Store) : Py.run fs Γ (k + 1) f__law_take [d0, d1] μ = fin (exs (Py.run fs Γ k) Γ b__law_take [some (.val d0), some (.val d1), none] μ) := run_fin (fs := fs) (fn := p__law_take.fn) rfl rfl
theorem u__law_same (k : Nat) (d0 d1 : D) (μ : Store) : Py.run fs Γ (k + 1) f__law_same [d0, d1] μ = fin (exs (Py.run fs Γ k) Γ b__law_same [some (.val d0), some (.val d1), none] μ) := run_fin (fs := fs) (fn := p__law_same.fn) rfl rfl
theorem u__law_bool (k : Nat) (d0 d1 : D) (μ : Store) : Py.run fs Γ (k + 1) f__law_bool [d0, d1] μ = fin (exs (Py.run fs Γ k) Γ b__law_bool [some (.val d0), some (.val d1)] μ) := run_fin (fs := fs) (fn := p__law_bool.fn) rfl rfl
theorem u__law_ratio (k : Nat) (d0 d1 : D) (μ : Store) : Py.run fs Γ (k + 1) f__law_ratio [d0, d1] μ = fin (exs (Py.run fs Γ k) Γ b__law_ratio [some (.val d0), some (.val d1), none, none, none] μ) := run_fin (fs := fs) (fn := p__law_ratio.fn) rfl rfl
theorem u__law_plus (k : Nat) (d0 d1 : D) (μ : Store) : Py.run fs Γ (k + 1) f__law_plus [d0, d1] μ = fin (exs (Py.run fs Γ k) Γ b__law_plus [some (.val d0), some (.val d1)] μ) := run_fin (fs := fs) (fn := p__law_plus.fn) rfl rfl
theorem u__law_mult (k : Nat) (d0 d1 : D) (μ : Store) : Py.run fs Γ (k + 1) f__law_mult [d0, d1] μ = fin (exs (Py.run fs Γ k) Γ b__law_mult [some (.val d0), some (.val d1)] μ) := run_fin (fs := fs) (fn := p__law_mult.fn) rfl rfl
theorem u__law_minus (k : Nat) (d0 d1 : D) (μ : Store) : Py.run fs Γ (k + 1) f__law_minus [d0, d1] μ = fin (exs (Py.run fs Γ k) Γ b__law_minus [some (.val d0), some (.val d1)] μ) := run_fin (fs := fs) (fn := p__law_minus.fn) rfl rfl
theorem u__law_height (k : Nat) (d0 d1 : D) (μ : Store) : Py.run fs Γ (k + 1) f__law_height [d0, d1] μ = fin (exs (Py.run fs Γ k) Γ b__law_height [some (.val d0), some (.val d1), none, none] μ) := run_fin (fs := fs) (fn := p__law_height.fn) rfl rfl
theorem u__law_keeps (k : Nat) (d0 d1 : D) (μ : Store) : Py.run fs Γ (k + 1) f__law_keeps [d0, d1] μ = fin (exs (Py.run fs Γ k) Γ b__law_keeps [some (.val d0), some (.val d1), none] μ) := run_fin (fs := fs) (fn := p__law_keeps.fn) rfl rfl
theorem u__law_has (k : Nat) (d0 d1 : D) (μ : Store) : Py.run fs Γ (k + 1) f__law_has [d0, d1] μ = fin (exs (Py.run fs Γ k) Γ b__law_has [some (.val d0), some (.val d1), none] μ) := run_fin (fs := fs) (fn := p__law_has.fn) rfl rfl
theorem u__law_pick (k : Nat) (d0 d1 : D) (μ : Store) : Py.run fs Γ (k + 1) f__law_pick [d0, d1] μ = fin (exs (Py.run fs Γ k) Γ b__law_pick [some (.val d0), some (.val d1)] μ) := run_fin (fs := fs) (fn := p__law_pick.fn) rfl rfl
theorem u__law_small (k : Nat) (d0 : D) (μ : Store) : Py.run fs Γ (k + 1) f__law_small [d0] μ = fin (exs (Py.run fs Γ k) Γ b__law_small [some (.val d0)] μ) := run_fin (fs := fs) (fn := p__law_small.fn) rfl rfl
theorem u__law_pair (k : Nat) (d0 d1 : D) (μ : Store) : Py.run fs Γ (k + 1) f__law_pair [d0, d1] μ = fin (exs (Py.run fs Γ k) Γ b__law_pair [some (.val d0), some (.val d1), none] μ) := run_fin (fs := fs) (fn := p__law_pair.fn) rfl rfl
theorem u__law_line (k : Nat) (d0 d1 d2 d3 : D) (μ : Store) : Py.run fs Γ (k + 1) f__law_line [d0, d1, d2, d3] μ = fin (exs (Py.run fs Γ k) Γ b__law_line [some (.val d0), some (.val d1), some (.val d2), some (.val d3), none, none, none] μ) := run_fin (fs := fs) (fn := p__law_line.fn) rfl rfl
theorem u__law_stay (k : Nat) (d0 d1 : D) (μ : Store) : Py.run fs Γ (k + 1) f__law_stay [d0, d1] μ = fin (exs (Py.run fs Γ k) Γ b__law_stay [some (.val d0), some (.val d1), none, none, none] μ) := run_fin (fs := fs) (fn := p__law_stay.fn) rfl rfl
theorem u__law_guard (k : Nat) (d0 d1 : D) (μ : Store) : Py.run fs Γ (k + 1) f__law_guard [d0, d1] μ = fin (exs (Py.run fs Γ k) Γ b__law_guard [some (.val d0), some (.val d1), none, none] μ) := run_fin (fs := fs) (fn := p__law_guard.fn) rfl rfl
theorem u__law_plant (k : Nat) (d0 d1 : D) (μ : Store) : Py.run fs Γ (k + 1) f__law_plant [d0, d1] μ = fin (exs (Py.run fs Γ k) Γ b__law_plant [some (.val d0), some (.val d1), none, none, none, none, none, none, none, none, none, none, none, none, none, none, none] μ) := run_fin (fs := fs) (fn := p__law_plant.fn) rfl rfl
theorem u__law_strictly (k : Nat) (d0 d1 : D) (μ : Store) : Py.run fs Γ (k + 1) f__law_strictly [d0, d1] μ = fin (exs (Py.run fs Γ k) Γ b__law_strictly [some (.val d0), some (.val d1), none, none, none] μ) := run_fin (fs := fs) (fn := p__law_strictly.fn) rfl rfl
theorem u__law_edged (k : Nat) (d0 d1 : D) (μ : Store) : Py.run fs Γ (k + 1) f__law_edged [d0, d1] μ = fin (exs (Py.run fs Γ k) Γ b__law_edged [some (.val d0), some (.val d1), none, none, none, none, none, none, none] μ) := run_fin (fs := fs) (fn := p__law_edged.fn) rfl rfl
theorem u__law_stays (k : Nat) (d0 d1 : D) (μ : Store) : Py.run fs Γ (k + 1) f__law_stays [d0, d1] μ = fin (exs (Py.run fs Γ k) Γ b__law_stays [some (.val d0), some (.val d1), none] μ) := run_fin (fs := fs) (fn := p__law_stays.fn) rfl rfl
theorem u__law_choices (k : Nat) (d0 d1 d2 : D) (μ : Store) : Py.run fs Γ (k + 1) f__law_choices [d0, d1, d2] μ = fin (exs (Py.run fs Γ k) Γ b__law_choices [some (.val d0), some (.val d1), some (.val d2), none, none, none, none] μ) := run_fin (fs := fs) (fn := p__law_choices.fn) rfl rfl
theorem u__law_moved (k : Nat) (d0 d1 d2 : D) (μ : Store) : Py.run fs Γ (k + 1) f__law_moved [d0, d1, d2] μ = fin (exs (Py.run fs Γ k) Γ b__law_moved [some (.val d0), some (.val d1), some (.val d2), none] μ) := run_fin (fs := fs) (fn := p__law_moved.fn) rfl rfl
theorem u__law_passed (k : Nat) (d0 d1 : D) (μ : Store) : Py.run fs Γ (k + 1) f__law_passed [d0, d1] μ = fin (exs (Py.run fs Γ k) Γ b__law_passed [some (.val d0), some (.val d1), none, none, none] μ) := run_fin (fs := fs) (fn := p__law_passed.fn) rfl rfl
theorem u__law_end (k : Nat) (d0 d1 d2 d3 : D) (μ : Store) : Py.run fs Γ (k + 1) f__law_end [d0, d1, d2, d3] μ = fin (exs (Py.run fs Γ k) Γ b__law_end [some (.val d0), some (.val d1), some (.val d2), some (.val d3), none] μ) := run_fin (fs := fs) (fn := p__law_end.fn) rfl rfl
theorem u__law_safe (k : Nat) (d0 d1 d2 d3 d4 : D) (μ : Store) : Py.run fs Γ (k + 1) f__law_safe [d0, d1, d2, d3, d4] μ = fin (exs (Py.run fs Γ k) Γ b__law_safe [some (.val d0), some (.val d1), some (.val d2), some (.val d3), some (.val d4), none, none, none, none] μ) := run_fin (fs := fs) (fn := p__law_safe.fn) rfl rfl
theorem u__law_between (k : Nat) (d0 d1 : D) (μ : Store) : Py.run fs Γ (k + 1) f__law_between [d0, d1] μ = fin (exs (Py.run fs Γ k) Γ b__law_between [some (.val d0), some (.val d1), none, none] μ) := run_fin (fs := fs) (fn := p__law_between.fn) rfl rfl
theorem u__law_beat (k : Nat) (d0 d1 d2 d3 d4 : D) (μ : Store) : Py.run fs Γ (k + 1) f__law_beat [d0, d1, d2, d3, d4] μ = fin (exs (Py.run fs Γ k) Γ b__law_beat [some (.val d0), some (.val d1), some (.val d2), some (.val d3), some (.val d4), none, none, none, none, none, none, none] μ) := run_fin (fs := fs) (fn := p__law_beat.fn) rfl rfl
theorem u__law_course (k : Nat) (d0 d1 d2 d3 d4 : D) (μ : Store) : Py.run fs Γ (k + 1) f__law_course [d0, d1, d2, d3, d4] μ = fin (exs (Py.run fs Γ k) Γ b__law_course [some (.val d0), some (.val d1), some (.val d2), some (.val d3), some (.val d4), none, none, none, none, none] μ) := run_fin (fs := fs) (fn := p__law_course.fn) rfl rfl
theorem u__law_places (k : Nat) (d0 d1 d2 : D) (μ : Store) : Py.run fs Γ (k + 1) f__law_places [d0, d1, d2] μ = fin (exs (Py.run fs Γ k) Γ b__law_places [some (.val d0), some (.val d1), some (.val d2), none, none, none] μ) := run_fin (fs := fs) (fn := p__law_places.fn) rfl rfl
theorem u__law_point (k : Nat) (d0 d1 : D) (μ : Store) : Py.run fs Γ (k + 1) f__law_point [d0, d1] μ = fin (exs (Py.run fs Γ k) Γ b__law_point [some (.val d0), some (.val d1), none] μ) := run_fin (fs := fs) (fn := p__law_point.fn) rfl rfl
theorem u__law_left (k : Nat) (d0 d1 d2 d3 : D) (μ : Store) : Py.run fs Γ (k + 1) f__law_left [d0, d1, d2, d3] μ = fin (exs (Py.run fs Γ k) Γ b__law_left [some (.val d0), some (.val d1), some (.val d2), some (.val d3), none, none, none, none] μ) := run_fin (fs := fs) (fn := p__law_left.fn) rfl rfl
theorem u__law_time (k : Nat) (d0 d1 d2 : D) (μ : Store) : Py.run fs Γ (k + 1) f__law_time [d0, d1, d2] μ = fin (exs (Py.run fs Γ k) Γ b__law_time [some (.val d0), some (.val d1), some (.val d2), none, none, none, none, none, none, none, none, none, none] μ) := run_fin (fs := fs) (fn := p__law_time.fn) rfl rfl
theorem u__law_with (k : Nat) (d0 d1 d2 : D) (μ : Store) : Py.run fs Γ (k + 1) f__law_with [d0, d1, d2] μ = fin (exs (Py.run fs Γ k) Γ b__law_with [some (.val d0), some (.val d1), some (.val d2)] μ) := run_fin (fs := fs) (fn := p__law_with.fn) rfl rfl
theorem u__law_spoilt (k : Nat) (d0 d1 d2 d3 : D) (μ : Store) : Py.run fs Γ (k + 1) f__law_spoilt [d0, d1, d2, d3] μ = fin (exs (Py.run fs Γ k) Γ b__law_spoilt [some (.val d0), some (.val d1), some (.val d2), some (.val d3), none, none, none, none, none, none, none, none, none, none, none] μ) := run_fin (fs := fs) (fn := p__law_spoilt.fn) rfl rfl
theorem u__law_cut (k : Nat) (d0 d1 d2 d3 d4 d5 : D) (μ : Store) : Py.run fs Γ (k + 1) f__law_cut [d0, d1, d2, d3, d4, d5] μ = fin (exs (Py.run fs Γ k) Γ b__law_cut [some (.val d0), some (.val d1), some (.val d2), some (.val d3), some (.val d4), some (.val d5), none, none, none, none] μ) := run_fin (fs := fs) (fn := p__law_cut.fn) rfl rfl
theorem u__law_at (k : Nat) (d0 d1 d2 d3 d4 d5 : D) (μ : Store) : Py.run fs Γ (k + 1) f__law_at [d0, d1, d2, d3, d4, d5] μ = fin (exs (Py.run fs Γ k) Γ b__law_at [some (.val d0), some (.val d1), some (.val d2), some (.val d3), some (.val d4), some (.val d5), none, none, none, none, none] μ) := run_fin (fs := fs) (fn := p__law_at.fn) rfl rfl
theorem u__law_drawn (k : Nat) (d0 d1 d2 d3 : D) (μ : Store) : Py.run fs Γ (k + 1) f__law_drawn [d0, d1, d2, d3] μ = fin (exs (Py.run fs Γ k) Γ b__law_drawn [some (.val d0), some (.val d1), some (.val d2), some (.val d3), none, none, none, none, none, none, none, none] μ) := run_fin (fs := fs) (fn := p__law_drawn.fn) rfl rfl
theorem u__law_corner (k : Nat) (d0 d1 : D) (μ : Store) : Py.run fs Γ (k + 1) f__law_corner [d0, d1] μ = fin (exs (Py.run fs Γ k) Γ b__law_corner [some (.val d0), some (.val d1), none] μ) := run_fin (fs := fs) (fn := p__law_corner.fn) rfl rfl
theorem u__law_drawn_beat (k : Nat) (d0 d1 d2 d3 d4 : D) (μ : Store) : Py.run fs Γ (k + 1) f__law_drawn_beat [d0, d1, d2, d3, d4] μ = fin (exs (Py.run fs Γ k) Γ b__law_drawn_beat [some (.val d0), some (.val d1), some (.val d2), some (.val d3), some (.val d4), none, none, none, none, none] μ) := run_fin (fs := fs) (fn := p__law_drawn_beat.fn) rfl rfl
theorem u_law (k : Nat) (d0 : D) (μ : Store) : Py.run fs Γ (k + 1) f_law [d0] μ = fin (exs (Py.run fs Γ k) Γ b_law [some (.val d0), none, none, none, none, none, none, none, none, none, none, none, none, none, none, none] μ) := run_fin (fs := fs) (fn := p_law.fn) rfl rfl
end P19
end
section
set_option Elab.async false
set_option linter.all false
set_option maxRecDepth 100000
namespace Geo
open PySem L2 Py FM
/-! ### plain data are like themselves; slices -/
theorem pln_py : ∀ (n : Nat) (d : D), pln n d = true → ∃ p, toPy d = some p ∧ p.canLay0 = true ∧ p.depth ≤ n ∧ PyData.eqv p p = true
  | _, .int i, _ => ⟨.int i, by rw [toPy], by rw [PyData.canLay0], by rw [PyData.depth]; omega, by rw [PyData.eqv]; simp⟩
  | _, .bl b, _ => ⟨.bool b, by rw [toPy], by rw [PyData.canLay0], by rw [PyData.depth]; omega, by rw [PyData.eqv]; simp⟩
  | _, .non, _ => ⟨.none, by rw [toPy], by rw [PyData.canLay0], by rw [PyData.depth]; omega, by rw [PyData.eqv]⟩
  | 0, .tup _, h => by simp [pln] at h
  | 0, .lst _, h => by simp [pln] at h
  | 0, .str _, h => by simp [pln] at h
  | _ + 1, .str _, h => by simp [pln] at h
  | 0, .mr _, h => by simp [pln] at h
  | _ + 1, .mr _, h => by simp [pln] at h
  | 0, .scr _, h => by simp [pln] at h
  | _ + 1, .scr _, h => by simp [pln] at h
  | n + 1, .tup ds, h => by
    rw [pln, Bool.and_eq_true, decide_eq_true_iff, List.all_eq_true] at h
    have key : ∀ l : List D, (∀ d ∈ l, pln n d = true) → ∃ ps, toPys l = some ps ∧ PyData.canLayAll0 ps = true ∧ PyData.depthAll ps ≤ n ∧ PyData.eqvAll ps ps = true := by
      intro l
      induction l with
      | nil => intro _; exact ⟨[], by rw [toPys], by rw [PyData.canLayAll0], by rw [PyData.depthAll]; omega, by rw [PyData.eqvAll]⟩
      | cons d l ih =>
        intro hl
        obtain ⟨p, h1, h2, h3, h4⟩ := pln_py n d (hl d (by simp))
        obtain ⟨ps, g1, g2, g3, g4⟩ := ih (fun e he => hl e (by simp [he]))
        exact ⟨p :: ps, by rw [toPys, h1, g1]; rfl, by rw [PyData.canLayAll0, h2, g2]; rfl, by rw [PyData.depthAll]; omega, by rw [PyData.eqvAll, h4, g4]; rfl⟩
    obtain ⟨ps, g1, g2, g3, g4⟩ := key ds h.2
    exact ⟨.tuple ps, by rw [toPy, g1]; rfl, by rw [PyData.canLay0]; exact g2, by rw [PyData.depth]; omega, by rw [PyData.eqv]; exact g4⟩
  | n + 1, .lst ds, h => by
    rw [pln, Bool.and_eq_true, decide_eq_true_iff, List.all_eq_true] at h
    have key : ∀ l : List D, (∀ d ∈ l, pln n d = true) → ∃ ps, toPys l = some ps ∧ PyData.canLayAll0 ps = true ∧ PyData.depthAll ps ≤ n ∧ PyData.eqvAll ps ps = true := by
      intro l
      induction l with
      | nil => intro _; exact ⟨[], by rw [toPys], by rw [PyData.canLayAll0], by rw [PyData.depthAll]; omega, by rw [PyData.eqvAll]⟩
      | cons d l ih =>
        intro hl
        obtain ⟨p, h1, h2, h3, h4⟩ := pln_py n d (hl d (by simp))
        obtain ⟨ps, g1, g2, g3, g4⟩ := ih (fun e he => hl e (by simp [he]))
        exact ⟨p :: ps, by rw [toPys, h1, g1]; rfl, by rw [PyData.canLayAll0, h2, g2]; rfl, by rw [PyData.depthAll]; omega, by rw [PyData.eqvAll, h4, g4]; rfl⟩
    obtain ⟨ps, g1, g2, g3, g4⟩ := key ds h.2
    exact ⟨.list ps, by rw [toPy, g1]; rfl, by rw [PyData.canLay0]; exact g2, by rw [PyData.depth]; omega, by rw [PyData.eqv]; exact g4⟩
theorem eqS_refl {n : Nat} {d : D} (h : pln n d = true) (hn : n ≤ 64 := by decide) : eqS d d = some true := by
  obtain ⟨p, h1, h2, h3, h4⟩ := pln_py n d h
  have hs : SeqAt.shaped p = true := by unfold SeqAt.shaped; rw [h2, Bool.true_and]; exact decide_eq_true (by omega)
  unfold eqS
  rw [h1]
  dsimp only [Option.bind_some]
  rw [hs, Bool.and_self, if_pos rfl, h4]
theorem cutS_take (ds : List D) (k : Nat) : Py.cutS ds none (some (k : Int)) = ds.take k := by
  unfold Py.cutS HT.sIx
  dsimp only
  rw [if_neg (by omega)]
  simp [List.take_eq_take_iff]
theorem cutS_drop (ds : List D) (k : Nat) : Py.cutS ds (some (k : Int)) none = ds.drop k := by
  unfold Py.cutS HT.sIx
  dsimp only
  rw [if_neg (by omega)]
  by_cases h : k ≤ ds.length
  · rw [show min (k : Int).toNat ds.length = k by omega]
    rw [List.take_of_length_le (by simp)]
  · rw [show min (k : Int).toNat ds.length = ds.length by omega]
    simp [List.drop_eq_nil_of_le (show ds.length ≤ k by omega)]
end Geo
end
section
set_option Elab.async false
set_option linter.all false
set_option maxRecDepth 100000
namespace P19
open PySem L2 Py Geo FM
theorem r_gcd {k : Nat} {μ : Store} (p q : Int) (h : 0 ≤ q) : Py.run fs Γ (k + 1) f_greatest_divisor [.int p, .int q] μ = some (.int (Int.gcd p q), μ) := by
  obtain ⟨r, h1, h2⟩ := gcd_loop (c := fun env' μ' => evT (Py.run fs Γ k) Γ (E.cmp .NotEq (E.slot 1) (E.int 0)) env' μ') (b := fun env' μ' => exs (Py.run fs Γ k) Γ l1_greatest_divisor env' μ') (μ := μ)
    (fun p q => by simp [getV]) (fun p q hq => by simp [l1_greatest_divisor, hq]) q.toNat p q h (Nat.le_refl _)
  rw [u_greatest_divisor, b_greatest_divisor]
  rw [exs_nx (by rw [ex]; exact h1)]
  simp [atI, ixN, SZ]
  omega
theorem r_ratio {k n : Nat} {μ : Store} (p q : Int) (h : q ≠ 0) (hq : q.natAbs < 2 ^ n) (hn : n ≤ 8999) : Py.run fs Γ (k + 2) f_ratio [.int p, .int q] μ = some (rD (Rat.divInt p q), μ) := by
  rw [u_ratio, b_ratio]
  by_cases h0 : q < 0
  · have hq' : (-q).natAbs < 2 ^ n := by omega
    have g := r_gcd (k := k) (μ := μ) (-p) (-q) (by omega)
    have hd := divOk_of (j := (Int.gcd (-p) (-q) : Int)) (b := n) (gcd_pos' (by omega)) (gcd_lt (by omega) hq') hn
    rw [← Rat.neg_divInt_neg, rD_divInt (by omega)]
    rw [Int.neg_gcd, Int.gcd_neg] at g hd ⊢
    simp [atI, ixN, SZ, h0, g, hd]
  · have g := r_gcd (k := k) (μ := μ) p q (by omega)
    have hd := divOk_of (j := (Int.gcd p q : Int)) (b := n) (gcd_pos' h) (gcd_lt h hq) hn
    rw [rD_divInt (by omega)]
    simp [atI, ixN, SZ, h0, g, hd]
theorem r_times {k a b : Nat} {μ : Store} (s t : Rat) (hs : Sz a s) (ht : Sz b t) (hn : a + b ≤ 8999) : Py.run fs Γ (k + 3) f_times [rD s, rD t] μ = some (rD (s * t), μ) := by
  have h1 := mulOk_of hs.1 ht.1 (by omega)
  have h2 := mulOk_of hs.den ht.den (by omega)
  have g := r_ratio (k := k) (μ := μ) (s.num * t.num) (s.den * t.den) (den_mul_ne s t) (abs_mul_lt hs.den ht.den) hn
  rw [mul_divInt] at g
  rw [u_times, b_times]
  unfold rD at g ⊢
  simp [atI, ixN, SZ, h1, h2, g]
theorem r_over {k a b : Nat} {μ : Store} (s t : Rat) (h0 : t ≠ 0) (hs : Sz a s) (ht : Sz b t) (hn : a + b ≤ 8999) : Py.run fs Γ (k + 3) f_over [rD s, rD t] μ = some (rD (s / t), μ) := by
  have h1 := mulOk_of hs.1 ht.den (by omega)
  have h2 := mulOk_of hs.den ht.1 (by omega)
  have g := r_ratio (k := k) (μ := μ) (s.num * t.den) (s.den * t.num) (Int.mul_ne_zero (den_ne s) (num_ne h0)) (abs_mul_lt hs.den ht.1) hn
  rw [div_divInt] at g
  rw [u_over, b_over]
  unfold rD at g ⊢
  simp [atI, ixN, SZ, h1, h2, g]
theorem r_added {k a b : Nat} {μ : Store} (s t : Rat) (hs : Sz a s) (ht : Sz b t) (hn : a + b + 1 ≤ 8999) : Py.run fs Γ (k + 3) f_added [rD s, rD t] μ = some (rD (s + t), μ) := by
  have h1 := mulOk_of hs.1 ht.den (by omega)
  have h2 := mulOk_of ht.1 hs.den (by omega)
  have h3 := mulOk_of hs.den ht.den (by omega)
  have g := r_ratio (k := k) (n := a + b) (μ := μ) (s.num * t.den + t.num * s.den) (s.den * t.den) (den_mul_ne s t) (abs_mul_lt hs.den ht.den) (by omega)
  rw [add_divInt] at g
  rw [u_added, b_added]
  unfold rD at g ⊢
  simp -implicitDefEqProofs [atI, ixN, szle, h1, h2, h3, g]
theorem rD_neg (t : Rat) : rD (-t) = .tup [.int (-t.num), .int t.den] := rD_neg' t
theorem r_opposite {k : Nat} {μ : Store} (t : Rat) : Py.run fs Γ (k + 1) f_opposite [rD t] μ = some (rD (-t), μ) := by
  rw [u_opposite, b_opposite, rD_neg]
  unfold rD
  simp -implicitDefEqProofs [atI, ixN, szle]
def sgn (s t : Rat) : Int := if s < t then -1 else if t < s then 1 else 0
theorem r_compare {k a b : Nat} {μ : Store} (s t : Rat) (hs : Sz a s) (ht : Sz b t) (hn : a + b ≤ 8999) : Py.run fs Γ (k + 1) f_compare [rD s, rD t] μ = some (.int (sgn s t), μ) := by
  have h1 := mulOk_of hs.1 ht.den (by omega)
  have h2 := mulOk_of ht.1 hs.den (by omega)
  have l1 : s < t ↔ s.num * t.den - t.num * s.den < 0 := by rw [Rat.lt_iff]; omega
  have l2 : t < s ↔ 0 < s.num * t.den - t.num * s.den := by rw [Rat.lt_iff]; omega
  rw [u_compare, b_compare, sgn]
  simp only [l1, l2]
  unfold rD
  generalize hq : s.num * t.den - t.num * s.den = q
  by_cases c1 : q < 0
  · simp -implicitDefEqProofs [atI, ixN, szle, h1, h2, hq, c1]
  · by_cases c2 : 0 < q
    · simp -implicitDefEqProofs [atI, ixN, szle, h1, h2, hq, c1, c2]
    · simp -implicitDefEqProofs [atI, ixN, szle, h1, h2, hq, c1, c2]
end P19
end
section
set_option Elab.async false
set_option linter.all false
set_option maxRecDepth 100000
namespace P19
open PySem L2 Py
/-! ### the deal -/
def RowOk (ns : List Int) : Prop := ∀ x ∈ ns, 0 ≤ x ∧ x < 1009
theorem RowOk.nil : RowOk [] := fun _ h => by cases h
theorem RowOk.app {ns : List Int} {x : Int} (h : RowOk ns) (h0 : 0 ≤ x) (h1 : x < 1009) : RowOk (ns ++ [x]) := fun y hy => by
  rcases List.mem_append.mp hy with hy | hy
  · exact h y hy
  · have : y = x := by simpa using hy
    subst this; exact ⟨h0, h1⟩
theorem fmod_lt (a b : Int) (h : 0 < b) : 0 ≤ a.fmod b ∧ a.fmod b < b := by
  rw [Int.fmod_eq_emod_of_nonneg a (Int.le_of_lt h)]
  exact ⟨Int.emod_nonneg a (by omega), Int.emod_lt_of_pos a h⟩
theorem d1009 : divOk 1009 = true := by decide +kernel
theorem d7 : divOk 7 = true := by decide +kernel
theorem d3 : divOk 3 = true := by decide +kernel
theorem lt_pow64 {i : Int} (h : i < 18446744073709551616) (h0 : -18446744073709551616 < i) : i.natAbs < 2 ^ 64 := by
  have : (2 : Nat) ^ 64 = 18446744073709551616 := by decide
  omega
theorem mul64 {i j : Int} (h1 : i < 18446744073709551616 ∧ -18446744073709551616 < i) (h2 : j < 18446744073709551616 ∧ -18446744073709551616 < j) : mulOk i j = true := mulOk_of (lt_pow64 h1.1 h1.2) (lt_pow64 h2.1 h2.2)
theorem rangeD_get {lo : Int} {n i : Nat} {d : D} (h : (rangeD lo n)[i]? = some d) : d = .int (lo + i) ∧ i < n := by
  unfold rangeD at h
  rw [List.getElem?_map] at h
  obtain ⟨j, h1, h2⟩ := Option.map_eq_some_iff.mp h
  obtain ⟨h3, h4⟩ := List.getElem?_eq_some_iff.mp h1
  rw [List.getElem_range] at h4
  subst h4
  exact ⟨h2.symm, by simpa using h3⟩
theorem rangeD_len {lo : Int} {n : Nat} : (rangeD lo n).length = n := by unfold rangeD; simp
theorem rngS_0 {n : Nat} (h : n ≤ 16777216) : rngS 0 (n : Int) = some (rangeD 0 n) := by
  unfold rngS
  rw [if_pos]
  · simp
  · simp [SZ]; omega
section
variable {Φ : FnS} {μ : Store}
theorem deal_l1 (s kd : D) (ns : List Int) (cell : Int) (x y : Option SV) (h0 : 0 ≤ cell) (hr : RowOk ns) (hl : ns.length ≤ 4000) :
    ∃ ns' cell' x', forS (T.nm 4) (fun env' μ' => exs Φ Γ l1__law_deal env' μ') (rangeD 0 40) [some (.val s), some (.own (ns.map D.int)), some (.val kd), some (.val (.int cell)), x, y] μ =
      some (.nx [some (.val s), some (.own (ns'.map D.int)), some (.val kd), some (.val (.int cell')), x', y] μ) ∧ RowOk ns' ∧ ns'.length ≤ ns.length + 40 := by
  obtain ⟨env', μ', h1, ns', cell', x', rfl, rfl, h2, h3, h4⟩ := forS_inv (t := T.nm 4) (b := fun env' μ' => exs Φ Γ l1__law_deal env' μ') (ds := rangeD 0 40) (env := [some (.val s), some (.own (ns.map D.int)), some (.val kd), some (.val (.int cell)), x, y]) (μ := μ)
    (fun i env m => ∃ ns' cell' x', env = [some (.val s), some (.own (ns'.map D.int)), some (.val kd), some (.val (.int cell')), x', y] ∧ m = μ ∧ RowOk ns' ∧ 0 ≤ cell' ∧ ns'.length ≤ ns.length + i)
    ⟨ns, cell, x, rfl, rfl, hr, h0, Nat.le_refl _⟩ (by
      rintro i env m d hd ⟨ns', cell', x', rfl, rfl, h2, h3, h4⟩
      obtain ⟨rfl, hi⟩ := rangeD_get hd
      have hz : ns'.length < 16777216 := by omega
      refine ⟨[some (.val s), some (.own (ns'.map D.int)), some (.val kd), some (.val (.int cell')), some (.val (.int (0 + (i : Nat)))), y], ?_⟩
      by_cases hc : 0 < cell'
      · refine ⟨[some (.val s), some (.own ((ns' ++ [cell'.fmod 1009]).map D.int)), some (.val kd), some (.val (.int (cell' / 1009))), some (.val (.int (0 + (i : Nat)))), y], m, by simp, .inl ?_, ns' ++ [cell'.fmod 1009], cell' / 1009, _, rfl, rfl, ?_, ?_, ?_⟩
        · simp [l1__law_deal, hc, SZ, hz, d1009]
        · exact h2.app (fmod_lt _ _ (by decide)).1 (fmod_lt _ _ (by decide)).2
        · exact Int.ediv_nonneg h3 (by decide)
        · simp; omega
      · refine ⟨[some (.val s), some (.own (ns'.map D.int)), some (.val kd), some (.val (.int cell')), some (.val (.int (0 + (i : Nat)))), y], m, by simp, .inl ?_, ns', cell', _, rfl, rfl, h2, h3, by omega⟩
        simp [l1__law_deal, hc])
  rw [rangeD_len] at h4
  exact ⟨ns', cell', x', h1, h2, h4⟩
theorem deal_l2 (s kd : D) (ns : List Int) (cell : Int) (x y : Option SV) (h0 : 0 ≤ cell) (hc : cell < 2 ^ 50) (hr : RowOk ns) (hl : ns.length ≤ 4000) :
    ∃ ns' cell' x', forS (T.nm 4) (fun env' μ' => exs Φ Γ l2__law_deal env' μ') (rangeD 0 5) [some (.val s), some (.own (ns.map D.int)), some (.val kd), some (.val (.int cell)), x, y] μ =
      some (.nx [some (.val s), some (.own (ns'.map D.int)), some (.val kd), some (.val (.int cell')), x', y] μ) ∧ RowOk ns' ∧ ns'.length ≤ ns.length + 40 := by
  obtain ⟨env', μ', h1, ns', cell', x', rfl, rfl, h2, h3, h4⟩ := forS_inv (t := T.nm 4) (b := fun env' μ' => exs Φ Γ l2__law_deal env' μ') (ds := rangeD 0 5) (env := [some (.val s), some (.own (ns.map D.int)), some (.val kd), some (.val (.int cell)), x, y]) (μ := μ)
    (fun i env m => ∃ ns' cell' x', env = [some (.val s), some (.own (ns'.map D.int)), some (.val kd), some (.val (.int cell')), x', y] ∧ m = μ ∧ RowOk ns' ∧ (0 ≤ cell' ∧ cell' < 2 ^ 50) ∧ ns'.length ≤ ns.length + i)
    ⟨ns, cell, x, rfl, rfl, hr, ⟨h0, hc⟩, Nat.le_refl _⟩ (by
      rintro i env m d hd ⟨ns', cell', x', rfl, rfl, h2, h3, h4⟩
      obtain ⟨rfl, hi⟩ := rangeD_get hd
      have hz : ns'.length < 16777216 := by omega
      have hm : mulOk cell' 16807 = true := mul64 (by omega) (by omega)
      generalize hc' : (cell' * 16807 + 12345 + (0 + (i : Nat) : Int)).fmod 2147483647 = c
      have hcr := fmod_lt (cell' * 16807 + 12345 + (0 + (i : Nat) : Int)) 2147483647 (by decide)
      rw [hc'] at hcr
      refine ⟨[some (.val s), some (.own (ns'.map D.int)), some (.val kd), some (.val (.int cell')), some (.val (.int (0 + (i : Nat)))), y], ?_⟩
      refine ⟨[some (.val s), some (.own ((ns' ++ [(c / 7).fmod 1009]).map D.int)), some (.val kd), some (.val (.int c)), some (.val (.int (0 + (i : Nat)))), y], m, by simp, .inl ?_, ns' ++ [(c / 7).fmod 1009], c, _, rfl, rfl, ?_, ?_, ?_⟩
      · simp [l2__law_deal, hm, SZ, hz, d7, ← hc']
      · exact h2.app (fmod_lt _ _ (by decide)).1 (fmod_lt _ _ (by decide)).2
      · exact ⟨hcr.1, by omega⟩
      · simp; omega)
  rw [rangeD_len] at h4
  exact ⟨ns', cell', x', h1, h2, by omega⟩
theorem deal_l3 (ms : List Int) (n : Nat) (hn : n ≤ ms.length) (hm : n ≤ 63) (a b c e : Option SV) :
    ∃ ns a' b' c', forS (T.nm 2) (fun env' μ' => exs Φ Γ l3__law_deal env' μ') (rangeD 0 n) [some (.val (.scr (ms.map D.int))), some (.own []), a, b, c, e] μ =
      some (.nx [some (.val (.scr (ms.map D.int))), some (.own (ns.map D.int)), a', b', c', e] μ) ∧ RowOk ns ∧ ns.length ≤ 40 * n := by
  obtain ⟨env', μ', h1, ns', a', b', c', rfl, rfl, h2, h3⟩ := forS_inv (t := T.nm 2) (b := fun env' μ' => exs Φ Γ l3__law_deal env' μ') (ds := rangeD 0 n) (env := [some (.val (.scr (ms.map D.int))), some (.own []), a, b, c, e]) (μ := μ)
    (fun i env m => ∃ ns' a' b' c', env = [some (.val (.scr (ms.map D.int))), some (.own (ns'.map D.int)), a', b', c', e] ∧ m = μ ∧ RowOk ns' ∧ ns'.length ≤ 40 * i)
    ⟨[], a, b, c, rfl, rfl, RowOk.nil, Nat.le_refl _⟩ (by
      rintro i env m d hd ⟨ns', a', b', c', rfl, rfl, h2, h3⟩
      obtain ⟨rfl, hi⟩ := rangeD_get hd
      have hlt : i < ms.length := by omega
      have hat : atI (ms.map D.int) (i : Int) = some (.int ms[i]) := by
        rw [atI_of (by simpa using hlt)]
        simp
      generalize hcell : (if ms[i] < 0 then -ms[i] else ms[i]) = cell
      have hc0 : 0 ≤ cell := by subst hcell; split <;> omega
      have hpow : (10 : Int) ^ (18 : Int).toNat = 1000000000000000000 := by decide
      by_cases hbig : (1000000000000000000 : Int) ≤ cell
      · obtain ⟨ns2, cell2, x2, g1, g2, g3⟩ := deal_l1 (Φ := Φ) (μ := m) (.scr (ms.map D.int)) (.int (0 + (i : Nat))) ns' cell c' e hc0 h2 (by omega)
        refine ⟨[some (.val (.scr (ms.map D.int))), some (.own (ns'.map D.int)), some (.val (.int (0 + (i : Nat)))), b', c', e], [some (.val (.scr (ms.map D.int))), some (.own (ns2.map D.int)), some (.val (.int (0 + (i : Nat)))), some (.val (.int cell2)), x2, e], m, by simp, .inl ?_, ns2, _, _, x2, rfl, rfl, g2, by omega⟩
        · simp only [l3__law_deal]
          simp [hat, hcell, binS, hbig, ex_for]
          rw [show rngS 0 40 = some (rangeD 0 40) from rngS_0 (n := 40) (by decide)]
          simp only [Int.zero_add] at g1
          simp [g1]
      · generalize hc2 : cell.fmod 2147483629 * 48271 + (i : Int) * 69621 + 11 = c2
        have hr1 := fmod_lt cell 2147483629 (by decide)
        have hm1 : mulOk (cell.fmod 2147483629) 48271 = true := mul64 (by omega) (by omega)
        have hm2 : mulOk (i : Int) 69621 = true := mul64 (by omega) (by omega)
        obtain ⟨ns2, cell2, x2, g1, g2, g3⟩ := deal_l2 (Φ := Φ) (μ := m) (.scr (ms.map D.int)) (.int (0 + (i : Nat))) ns' c2 c' e (by omega) (by omega) h2 (by omega)
        refine ⟨[some (.val (.scr (ms.map D.int))), some (.own (ns'.map D.int)), some (.val (.int (0 + (i : Nat)))), b', c', e], [some (.val (.scr (ms.map D.int))), some (.own (ns2.map D.int)), some (.val (.int (0 + (i : Nat)))), some (.val (.int cell2)), x2, e], m, by simp, .inl ?_, ns2, _, _, x2, rfl, rfl, g2, by omega⟩
        · simp only [l3__law_deal]
          simp [hat, hcell, binS, hbig, ex_for, hm1, hm2, hc2]
          rw [show rngS 0 5 = some (rangeD 0 5) from rngS_0 (n := 5) (by decide)]
          simp only [Int.zero_add] at g1
          simp [g1])
  rw [rangeD_len] at h3
  exact ⟨ns', a', b', c', h1, h2, h3⟩
end
end P19
end
section
set_option Elab.async false
set_option linter.all false
set_option maxRecDepth 100000
namespace P19
open PySem L2 Py
theorem asInts_map (ns : List Int) : asInts (ns.map D.int) = some ns := by
  induction ns with
  | nil => rfl
  | cons x xs ih => simp [asInts, ih]
theorem RowOk.sum {ns : List Int} (h : RowOk ns) : 0 ≤ ns.sum ∧ ns.sum ≤ 1009 * ns.length := by
  induction ns with
  | nil => simp
  | cons x xs ih =>
    have h1 := h x (by simp)
    have h2 := ih (fun y hy => h y (by simp [hy]))
    simp only [List.sum_cons, List.length_cons]
    omega
/-- a deal -/
def dealD (ns : List Int) (t : Int) : D := .lst [.lst (ns.map D.int), .mr 0, .int t]
def DealOk (ns : List Int) (t : Int) : Prop := RowOk ns ∧ ns.length ≤ 4000 ∧ 0 ≤ t ∧ t ≤ 10000000
theorem r_deal {k : Nat} (ms : List Int) (hm : ms.length ≤ 63) : ∃ ns t, DealOk ns t ∧ Py.run fs Γ (k + 1) f__law_deal [.scr (ms.map D.int)] [] = some (dealD ns t, [[.int 0]]) := by
  obtain ⟨ns, a', b', c', h1, h2, h3⟩ := deal_l3 (Φ := Py.run fs Γ k) (μ := []) ms ms.length (Nat.le_refl _) hm none none none none
  have hs := h2.sum
  refine ⟨ns, ns.sum + ms.length, ⟨h2, by omega, by omega, by omega⟩, ?_⟩
  rw [u__law_deal, b__law_deal]
  have hr := rngS_0 (n := ms.length) (by omega)
  have hmin : ¬ (63 : Int) < ms.length := by omega
  simp -implicitDefEqProofs [ex_for, szle, hmin, hr, h1, asInts_map, dealD]
theorem r_take {k a : Nat} (ns : List Int) (t m : Int) (h : DealOk ns t) (hm : 0 < m) (ha : a < 100000) : ∃ r : Int, 0 ≤ r ∧ r < m ∧ Py.run fs Γ (k + 1) f__law_take [dealD ns t, .int m] (Sa a) = some (.int r, Sa (a + 1)) := by
  rw [u__law_take, b__law_take]
  obtain ⟨h1, h2, h3, h4⟩ := h
  unfold dealD Sa
  have hm' : m ≠ 0 := by omega
  by_cases hlt : a < ns.length
  · refine ⟨ns[a].fmod m, (fmod_lt _ _ hm).1, (fmod_lt _ _ hm).2, ?_⟩
    simp -implicitDefEqProofs [atI, ixN, hlt, hm']
  · have m1 : mulOk (a : Int) 7919 = true := mul64 (by omega) (by omega)
    have m2 : mulOk t 31 = true := mul64 (by omega) (by omega)
    have m3 : mulOk (a : Int) a = true := mul64 (by omega) (by omega)
    have hsq : ((a : Int) * a) ≤ 100000 * 100000 := Int.mul_le_mul (by omega) (by omega) (by omega) (by omega)
    have hsq0 : 0 ≤ ((a : Int) * a) := Int.mul_nonneg (by omega) (by omega)
    have m4 : mulOk ((a : Int) * a) 17 = true := mul64 (by omega) (by omega)
    refine ⟨((((a : Int) * 7919 + t * 31 + (a : Int) * a * 17) / 3)).fmod m, (fmod_lt _ _ hm).1, (fmod_lt _ _ hm).2, ?_⟩
    simp -implicitDefEqProofs [atI, ixN, hlt, hm', m1, m2, m3, m4, d3]
/-! ratios reckoned by Euclid in so many turns -/
theorem half {a b : Int} (ha : 0 < a) (hab : a ≤ b) : b % a * 2 < b := by
  have h1 := Int.emod_lt_of_pos b ha
  have h2 := Int.emod_add_mul_ediv b a
  have h3 : 1 ≤ b / a := by
    have := Int.ediv_le_ediv ha hab
    rwa [Int.ediv_self (by omega)] at this
  have h4 : a * 1 ≤ a * (b / a) := Int.mul_le_mul_of_nonneg_left h3 (by omega)
  omega
theorem ratio_loop {Φ : FnS} {μ : Store} (p q : D) : ∀ (n : Nat) (ds : List D) (a b : Int) (x : Option SV), 0 ≤ a → a ≤ b → 0 < b → a * b < 2 ^ n → n < ds.length →
    ∃ x', forS (T.nm 4) (fun env' μ' => exs Φ Γ l1__law_ratio env' μ') ds [some (.val p), some (.val q), some (.val (.int a)), some (.val (.int b)), x] μ =
      some (.nx [some (.val p), some (.val q), some (.val (.int 0)), some (.val (.int (Int.gcd a b))), x'] μ)
  | n, [], _, _, _, _, _, _, _, h => by simp at h
  | n, d :: ds, a, b, x, h0, hab, hb, hp, hl => by
    by_cases ha : a = 0
    · subst ha
      refine ⟨some (.val d), ?_⟩
      rw [forS_bk (env1 := [some (.val p), some (.val q), some (.val (.int 0)), some (.val (.int b)), some (.val d)]) (env' := [some (.val p), some (.val q), some (.val (.int 0)), some (.val (.int b)), some (.val d)]) (μ' := μ) (by simp) (by simp -implicitDefEqProofs [l1__law_ratio])]
      simp; omega
    · have hpos : 0 < a := by omega
      match n, hp, hl with
      | 0, hp, hl =>
        have : 1 * 1 ≤ a * b := Int.mul_le_mul (by omega) (by omega) (by omega) (by omega)
        simp at hp; omega
      | n + 1, hp, hl =>
        have e : b.fmod a = b % a := Int.fmod_eq_emod_of_nonneg b h0
        have h1 := half hpos hab
        have h2 := Int.emod_lt_of_pos b hpos
        have h3 := Int.emod_nonneg b ha
        have h4 : (b % a * 2) * a < b * a := Int.mul_lt_mul_of_pos_right h1 hpos
        have h5 : b % a * a < 2 ^ n := by
          rw [Int.pow_succ] at hp
          have : a * b = b * a := Int.mul_comm a b
          have : b % a * 2 * a = b % a * a * 2 := by rw [Int.mul_assoc, Int.mul_comm 2 a, Int.mul_assoc]
          omega
        obtain ⟨x', hx⟩ := ratio_loop (Φ := Φ) (μ := μ) p q n ds (b % a) a (some (.val d)) h3 (by omega) hpos h5 (by simpa using hl)
        refine ⟨x', ?_⟩
        rw [forS_go (env1 := [some (.val p), some (.val q), some (.val (.int a)), some (.val (.int b)), some (.val d)]) (env' := [some (.val p), some (.val q), some (.val (.int (b % a))), some (.val (.int a)), some (.val d)]) (μ' := μ) (by simp) (by simp -implicitDefEqProofs [l1__law_ratio, ha, e]), hx]
        have := gcd_fmod b a hpos
        rw [e] at this
        rw [Int.gcd_comm (b % a) a, this, Int.gcd_comm b a]
theorem ratio_loop' {Φ : FnS} {μ : Store} (p q : D) (n : Nat) (ds : List D) (a b : Int) (x : Option SV) (h0 : 0 ≤ a) (hb : 0 < b) (hp : a * b < 2 ^ n) (hl : n + 1 < ds.length) :
    ∃ x', forS (T.nm 4) (fun env' μ' => exs Φ Γ l1__law_ratio env' μ') ds [some (.val p), some (.val q), some (.val (.int a)), some (.val (.int b)), x] μ =
      some (.nx [some (.val p), some (.val q), some (.val (.int 0)), some (.val (.int (Int.gcd a b))), x'] μ) := by
  by_cases h : a ≤ b
  · exact ratio_loop p q n ds a b x h0 h hb hp (by omega)
  · match ds, hl with
    | d :: ds, hl =>
      have hpos : 0 < a := by omega
      have ha : a ≠ 0 := by omega
      have e : b.fmod a = b := by rw [Int.fmod_eq_emod_of_nonneg b h0]; exact Int.emod_eq_of_lt (by omega) (by omega)
      obtain ⟨x', hx⟩ := ratio_loop (Φ := Φ) (μ := μ) p q n ds b a (some (.val d)) (by omega) (by omega) hpos (by rw [Int.mul_comm]; exact hp) (by simpa using hl)
      refine ⟨x', ?_⟩
      rw [forS_go (env1 := [some (.val p), some (.val q), some (.val (.int a)), some (.val (.int b)), some (.val d)]) (env' := [some (.val p), some (.val q), some (.val (.int b)), some (.val (.int a)), some (.val d)]) (μ' := μ) (by simp) (by simp -implicitDefEqProofs [l1__law_ratio, ha, e]), hx]
      rw [Int.gcd_comm b a]
theorem prod_lt {a b : Int} {n : Nat} (ha : a.natAbs < 2 ^ n) (hb : b.natAbs < 2 ^ n) (h0 : 0 ≤ a) (h1 : 0 ≤ b) : a * b < 2 ^ (n + n) := by
  have h := abs_mul_lt ha hb
  have h2 : 0 ≤ a * b := Int.mul_nonneg h0 h1
  have h3 : ((2 ^ (n + n) : Nat) : Int) = 2 ^ (n + n) := by simp
  omega
theorem r_lratio {k n : Nat} {μ : Store} (p q : Int) (h : q ≠ 0) (hp : p.natAbs < 2 ^ n) (hq : q.natAbs < 2 ^ n) (hn : n ≤ 8999) : Py.run fs Γ (k + 1) f__law_ratio [.int p, .int q] μ = some (rD (Rat.divInt p q), μ) := by
  rw [u__law_ratio, b__law_ratio]
  have hr : rngS 0 (100000 : Int) = some (rangeD 0 100000) := rngS_0 (n := 100000) (by decide)
  have hrl : (rangeD 0 100000).length = 100000 := rangeD_len
  generalize rangeD 0 100000 = ds at hr hrl
  have hab : ∀ p : Int, (if p < 0 then -p else p).natAbs = p.natAbs := fun p => by split <;> omega
  have hge : ∀ p : Int, 0 ≤ (if p < 0 then -p else p) := fun p => by split <;> omega
  have hgc : ∀ p q : Int, Int.gcd (if p < 0 then -p else p) q = Int.gcd p q := fun p q => by split <;> simp
  by_cases h0 : q < 0
  · have hq' : (-q).natAbs < 2 ^ n := by omega
    have hp' : (-p).natAbs < 2 ^ n := by omega
    have hd := divOk_of (j := (Int.gcd (-p) (-q) : Int)) (b := n) (gcd_pos' (by omega)) (gcd_lt (by omega) hq') hn
    obtain ⟨x', hx⟩ := ratio_loop' (Φ := Py.run fs Γ k) (μ := μ) (.int (-p)) (.int (-q)) (n + n) ds (if -p < 0 then - -p else -p) (-q) none (hge _) (by omega) (prod_lt (by rw [hab]; exact hp') hq' (hge _) (by omega)) (by omega)
    rw [hgc] at hx
    have e : (if -p < 0 then - -p else -p) = if 0 < p then p else -p := by split <;> split <;> omega
    rw [e] at hx
    rw [← Rat.neg_divInt_neg, rD_divInt (by omega)]
    generalize (Int.gcd (-p) (-q) : Int) = g at *
    simp -implicitDefEqProofs [ex_for, h0, hr, hx, hd, szle]
  · have hd := divOk_of (j := (Int.gcd p q : Int)) (b := n) (gcd_pos' h) (gcd_lt h hq) hn
    obtain ⟨x', hx⟩ := ratio_loop' (Φ := Py.run fs Γ k) (μ := μ) (.int p) (.int q) (n + n) ds (if p < 0 then -p else p) q none (hge _) (by omega) (prod_lt (by rw [hab]; exact hp) hq (hge _) (by omega)) (by omega)
    rw [hgc] at hx
    rw [rD_divInt (by omega)]
    generalize (Int.gcd p q : Int) = g at *
    simp -implicitDefEqProofs [ex_for, h0, hr, hx, hd, szle]
theorem r_lplus {k a b n : Nat} {μ : Store} (s t : Rat) (hs : Sz a s) (ht : Sz b t) (hab : a + b + 1 ≤ n) (hn : n ≤ 8999) : Py.run fs Γ (k + 2) f__law_plus [rD s, rD t] μ = some (rD (s + t), μ) := by
  have h1 := mulOk_of hs.1 ht.den (by omega)
  have h2 := mulOk_of ht.1 hs.den (by omega)
  have h3 := mulOk_of hs.den ht.den (by omega)
  have g := r_lratio (k := k) (n := a + b + 1) (μ := μ) (s.num * t.den + t.num * s.den) (s.den * t.den) (den_mul_ne s t) (abs_add_lt (abs_mul_lt hs.1 ht.den) (by rw [Nat.add_comm]; exact abs_mul_lt ht.1 hs.den)) (Nat.lt_of_lt_of_le (abs_mul_lt hs.den ht.den) (Nat.pow_le_pow_right (by decide) (by omega))) (by omega)
  rw [add_divInt] at g
  rw [u__law_plus, b__law_plus]
  unfold rD at g ⊢
  simp -implicitDefEqProofs [atI, ixN, szle, h1, h2, h3, g]
theorem r_lmult {k a b n : Nat} {μ : Store} (s t : Rat) (hs : Sz a s) (ht : Sz b t) (hab : a + b ≤ n) (hn : n ≤ 8999) : Py.run fs Γ (k + 2) f__law_mult [rD s, rD t] μ = some (rD (s * t), μ) := by
  have h1 := mulOk_of hs.1 ht.1 (by omega)
  have h2 := mulOk_of hs.den ht.den (by omega)
  have g := r_lratio (k := k) (n := a + b) (μ := μ) (s.num * t.num) (s.den * t.den) (den_mul_ne s t) (abs_mul_lt hs.1 ht.1) (abs_mul_lt hs.den ht.den) (by omega)
  rw [mul_divInt] at g
  rw [u__law_mult, b__law_mult]
  unfold rD at g ⊢
  simp -implicitDefEqProofs [atI, ixN, szle, h1, h2, g]
end P19
end
section
set_option Elab.async false
set_option linter.all false
set_option maxRecDepth 100000
namespace P19
open PySem L2 Py Geo
/-! ### the same -/
theorem same_l1 {Φ : FnS} {μ : Store} (D1 : D) (ds : List D) (hD : itsS μ D1 = some ds) (x : Option SV) (h : ∀ d ∈ ds, Φ f__law_same [d, d] μ = some (.bl true, μ)) :
    ∃ x', forS (T.nm 2) (fun env' μ' => exs Φ Γ l1__law_same env' μ') (rangeD 0 ds.length) [some (.val D1), some (.val D1), x] μ = some (.nx [some (.val D1), some (.val D1), x'] μ) := by
  obtain ⟨env', μ', h1, x', rfl, rfl⟩ := forS_inv (t := T.nm 2) (b := fun env' μ' => exs Φ Γ l1__law_same env' μ') (ds := rangeD 0 ds.length) (env := [some (.val D1), some (.val D1), x]) (μ := μ)
    (fun i env m => ∃ x', env = [some (.val D1), some (.val D1), x'] ∧ m = μ) ⟨x, rfl, rfl⟩ (by
      rintro i env m d hd ⟨x', rfl, rfl⟩
      obtain ⟨rfl, hi⟩ := rangeD_get hd
      have hat : atI ds (i : Int) = some ds[i] := atI_of hi
      have hs := h ds[i] (List.getElem_mem hi)
      refine ⟨[some (.val D1), some (.val D1), some (.val (.int (0 + (i : Nat))))], [some (.val D1), some (.val D1), some (.val (.int (0 + (i : Nat))))], m, by simp, .inl ?_, _, rfl, rfl⟩
      simp -implicitDefEqProofs [l1__law_same, hat, hs, hD])
  exact ⟨x', h1⟩
theorem r_same {μ : Store} : ∀ (n k : Nat) (d : D), pln n d = true → Py.run fs Γ (k + n + 1) f__law_same [d, d] μ = some (.bl true, μ)
  | n, k, .int i, _ => by
    rw [u__law_same, b__law_same]
    simp -implicitDefEqProofs
  | n, k, .bl i, _ => by
    rw [u__law_same, b__law_same]
    simp -implicitDefEqProofs
  | n, k, .non, _ => by
    rw [u__law_same, b__law_same]
    simp -implicitDefEqProofs
  | 0, _, .tup _, h => by simp [pln] at h
  | 0, _, .lst _, h => by simp [pln] at h
  | 0, _, .str _, h => by simp [pln] at h
  | _ + 1, _, .str _, h => by simp [pln] at h
  | 0, _, .mr _, h => by simp [pln] at h
  | _ + 1, _, .mr _, h => by simp [pln] at h
  | 0, _, .scr _, h => by simp [pln] at h
  | _ + 1, _, .scr _, h => by simp [pln] at h
  | n + 1, k, .tup ds, h => by
    rw [pln, Bool.and_eq_true, decide_eq_true_iff, List.all_eq_true] at h
    obtain ⟨x', hx⟩ := same_l1 (Φ := Py.run fs Γ (k + n + 1)) (μ := μ) (.tup ds) ds rfl none (fun d hd => r_same n k d (h.2 d hd))
    have hr := rngS_0 (n := ds.length) (by omega)
    rw [u__law_same, b__law_same]
    simp -implicitDefEqProofs [ex_for, hr, hx, ← Nat.add_assoc]
  | n + 1, k, .lst ds, h => by
    rw [pln, Bool.and_eq_true, decide_eq_true_iff, List.all_eq_true] at h
    obtain ⟨x', hx⟩ := same_l1 (Φ := Py.run fs Γ (k + n + 1)) (μ := μ) (.lst ds) ds rfl none (fun d hd => r_same n k d (h.2 d hd))
    have hr := rngS_0 (n := ds.length) (by omega)
    rw [u__law_same, b__law_same]
    simp -implicitDefEqProofs [ex_for, hr, hx, ← Nat.add_assoc]
end P19
end
section
set_option Elab.async false
set_option linter.all false
set_option maxRecDepth 100000
set_option maxHeartbeats 0
namespace P19
open PySem L2 Py Geo FM
section
variable {k b c : Nat} {μ : Store}
theorem r_less {a b : Nat} (s t : Rat) (hs : Sz a s) (ht : Sz b t) (hn : a + b + 1 ≤ 8999) : Py.run fs Γ (k + 4) f_less [rD s, rD t] μ = some (rD (s - t), μ) := by
  have g1 := r_opposite (k := k + 2) (μ := μ) t
  have g2 := r_added (k := k) (μ := μ) s (-t) hs ht.neg hn
  rw [← Rat.sub_eq_add_neg] at g2
  rw [u_less, b_less]
  simp -implicitDefEqProofs [g1, g2]
theorem r_lminus {a b n : Nat} (s t : Rat) (hs : Sz a s) (ht : Sz b t) (hab : a + b + 1 ≤ n) (hn : n ≤ 8999) : Py.run fs Γ (k + 3) f__law_minus [rD s, rD t] μ = some (rD (s - t), μ) := by
  have g2 := r_lplus (k := k) (μ := μ) s (-t) hs ht.neg hab hn
  rw [← Rat.sub_eq_add_neg, rD_neg] at g2
  have t1 : itsS μ (rD t) = some [.int t.num, .int t.den] := rfl
  rw [u__law_minus, b__law_minus]
  simp -implicitDefEqProofs [t1, atI, ixN, szle, g2]
theorem r_is_ratio (t : Rat) : Py.run fs Γ (k + 2) f_is_ratio [rD t] μ = some (.bl true, μ) := by
  have g := r_gcd (k := k) (μ := μ) t.num t.den (by omega)
  have h1 : Int.gcd t.num t.den = 1 := by rw [Int.gcd, Int.natAbs_natCast]; exact t.reduced
  rw [h1] at g
  have h2 : (1 : Int) ≤ t.den := by have := t.den_pos; omega
  have t1 : ∀ μ : Store, itsS μ (rD t) = some [.int t.num, .int t.den] := fun _ => rfl
  rw [u_is_ratio, b_is_ratio]
  simp -implicitDefEqProofs [t1, atI, ixN, g, h2, eqS_int]
theorem r_is_ratio_dbl (t : Rat) : Py.run fs Γ (k + 2) f_is_ratio [.tup [.int (2 * t.num), .int (2 * t.den)]] μ = some (.bl false, μ) := by
  have g := r_gcd (k := k) (μ := μ) (2 * t.num) (2 * t.den) (by omega)
  have h1 : Int.gcd (2 * t.num) (2 * t.den) = 2 := by
    rw [Int.gcd_mul_left]
    have : Int.gcd t.num t.den = 1 := by rw [Int.gcd, Int.natAbs_natCast]; exact t.reduced
    rw [this]; rfl
  rw [h1] at g
  have h2 : (1 : Int) ≤ 2 * t.den := by have := t.den_pos; omega
  rw [u_is_ratio, b_is_ratio]
  simp -implicitDefEqProofs [atI, ixN, g, h2, eqS_int]
theorem bl_loop (x0 x1 : Option SV) : ∀ (f x : List Rat) (s : Nat) (t : Rat) (x3 x4 : Option SV), (∀ a ∈ f, Sz b a) → (∀ a ∈ x, Sz c a) → Sz s t → s + f.length * (b + c + 1) ≤ 8999 →
    ∃ y3 y4, forS (T.tp [(T.nm 3), (T.nm 4)]) (fun env' μ' => exs (Py.run fs Γ (k + 4)) Γ l1_blended env' μ') (zipD (f.map rD) (x.map rD)) [x0, x1, some (.val (rD t)), x3, x4] μ = some (.nx [x0, x1, some (.val (rD (t + dot f x))), y3, y4] μ) ∧ Sz (s + f.length * (b + c + 1)) (t + dot f x)
  | [], x, s, t, x3, x4, _, _, ht, _ => ⟨x3, x4, by simp [forS_nil, dot, Rat.add_zero], by simpa [dot, Rat.add_zero] using ht⟩
  | a :: f, [], s, t, x3, x4, _, _, ht, _ => ⟨x3, x4, by simp [forS_nil, dot, Rat.add_zero], by rw [dot, Rat.add_zero]; exact ht.mono (by omega); all_goals simp⟩
  | a :: f, y :: x, s, t, x3, x4, h1, h2, ht, hn => by
    have sa := h1 a (by simp)
    have sy := h2 y (by simp)
    simp only [List.length_cons, Nat.succ_mul] at hn
    have e1 := eqS_rD a 0
    have e2 := eqS_rD y 0
    rw [rD_zero] at e1 e2
    have ht' : Sz (s + (b + c + 1)) (t + a * y) := sz_add_le ht (sa.mul sy) (by omega)
    obtain ⟨y3, y4, ih, hs⟩ := bl_loop x0 x1 f x (s + (b + c + 1)) (t + a * y) (some (.val (rD a))) (some (.val (rD y))) (fun z hz => h1 z (by simp [hz])) (fun z hz => h2 z (by simp [hz])) ht' (by omega)
    have hd : t + dot (a :: f) (y :: x) = t + a * y + dot f x := by rw [dot]; grind
    refine ⟨y3, y4, ?_, by rw [hd]; exact hs.mono (by simp only [List.length_cons, Nat.succ_mul]; omega)⟩
    rw [hd, ← ih, List.map_cons, List.map_cons, zipD_cons]
    have g1 := r_times (k := k + 1) (μ := μ) a y sa sy (by omega)
    have g2 := r_added (k := k + 1) (μ := μ) t (a * y) ht (sa.mul sy) (by omega)
    refine forS_go (env1 := [x0, x1, some (.val (rD t)), some (.val (rD a)), some (.val (rD y))]) (by simp) ?_
    by_cases ca : a = 0
    · have ez : t + a * y = t := by rw [ca]; grind
      rw [ez]
      have ca' : (0 : Rat) = a := ca.symm
      subst ca'
      simp -implicitDefEqProofs [l1_blended, e1]
    · by_cases cy : y = 0
      · have ez : t + a * y = t := by rw [cy]; grind
        rw [ez]
        have cy' : (0 : Rat) = y := cy.symm
        subst cy'
        simp -implicitDefEqProofs [l1_blended, e1, e2, ca]
      · simp -implicitDefEqProofs [l1_blended, e1, e2, ca, cy, g1, g2]
theorem r_blended (f x : List Rat) (h1 : ∀ a ∈ f, Sz b a) (h2 : ∀ a ∈ x, Sz c a) (hn : 1 + f.length * (b + c + 1) ≤ 8999) : Py.run fs Γ (k + 5) f_blended [.tup (f.map rD), .tup (x.map rD)] μ = some (rD (dot f x), μ) ∧ Sz (1 + f.length * (b + c + 1)) (dot f x) := by
  obtain ⟨y3, y4, e, hs⟩ := bl_loop (k := k) (μ := μ) (some (.val (.tup (f.map rD)))) (some (.val (.tup (x.map rD)))) f x 1 0 none none h1 h2 (sz_zero (by decide)) hn
  rw [Rat.zero_add] at e hs
  refine ⟨?_, hs⟩
  rw [u_blended, b_blended]
  rw [rD_zero] at e
  simp -implicitDefEqProofs [ex_for, e]
theorem r_blended_l (f x : List Rat) (h1 : ∀ a ∈ f, Sz b a) (h2 : ∀ a ∈ x, Sz c a) (hn : 1 + f.length * (b + c + 1) ≤ 8999) : Py.run fs Γ (k + 5) f_blended [.lst (f.map rD), .lst (x.map rD)] μ = some (rD (dot f x), μ) ∧ Sz (1 + f.length * (b + c + 1)) (dot f x) := by
  obtain ⟨y3, y4, e, hs⟩ := bl_loop (k := k) (μ := μ) (some (.val (.lst (f.map rD)))) (some (.val (.lst (x.map rD)))) f x 1 0 none none h1 h2 (sz_zero (by decide)) hn
  rw [Rat.zero_add] at e hs
  refine ⟨?_, hs⟩
  rw [u_blended, b_blended]
  rw [rD_zero] at e
  simp -implicitDefEqProofs [ex_for, e]
theorem r_height (B : Bd) (x : List Rat) (h1 : BSz b B) (h2 : ∀ a ∈ x, Sz c a) (hn : 1 + B.f.length * (b + c + 1) + b + 1 ≤ 8999) : Py.run fs Γ (k + 6) f_height [bdD B, ptD x] μ = some (rD (B.val x), μ) ∧ Sz (1 + B.f.length * (b + c + 1) + b + 1) (B.val x) := by
  obtain ⟨g1, s1⟩ := r_blended (k := k) (μ := μ) B.f x h1.1 h2 (by omega)
  have g2 := r_added (k := k + 2) (μ := μ) (dot B.f x) B.r s1 h1.2 hn
  refine ⟨?_, s1.add h1.2⟩
  have t0 : itsS μ (bdD B) = some [.tup (B.f.map rD), rD B.r, .bl B.s] := rfl
  rw [u_height, b_height]
  unfold ptD
  simp -implicitDefEqProofs [t0, atI, ixN, g1, g2, Bd.val]
theorem r_keeps (B : Bd) (x : List Rat) (h1 : BSz b B) (h2 : ∀ a ∈ x, Sz c a) (hn : 1 + B.f.length * (b + c + 1) + b + 2 ≤ 8999) : Py.run fs Γ (k + 7) f_keeps [bdD B, ptD x] μ = some (.bl (keepsB B x), μ) := by
  obtain ⟨g1, s1⟩ := r_height (k := k) (μ := μ) B x h1 h2 (by omega)
  have g2 := r_compare (k := k + 5) (μ := μ) (B.val x) 0 s1 (sz_zero (b := 1) (by decide)) (by omega)
  have t0 : itsS μ (bdD B) = some [.tup (B.f.map rD), rD B.r, .bl B.s] := rfl
  rw [u_keeps, b_keeps]
  rw [rD_zero] at g2
  unfold sgn at g2
  unfold keepsB okb
  generalize B.val x = v at *
  by_cases c1 : v < 0
  · have c2 : ¬ 0 < v := by grind
    have c3 : ¬ 0 ≤ v := by grind
    simp -implicitDefEqProofs [t0, atI, ixN, g1, g2, c1, c2, c3]
  · by_cases c2 : 0 < v
    · have c3 : 0 ≤ v := by grind
      simp -implicitDefEqProofs [t0, atI, ixN, g1, g2, c1, c2, c3]
    · have c3 : 0 ≤ v := by grind
      rw [if_neg c1, if_neg c2] at g2
      cases hs : B.s <;> simp -implicitDefEqProofs [t0, atI, ixN, g1, g2, c2, c3, hs]
/-- bounds upon points of one size, in one inequality -/
def Fit (b c n : Nat) : Prop := b + n * (b + c + 1) + 3 ≤ 8999
theorem r_has_point (p0 : D) (bs : List Bd) (x : List Rat) (hl : bs.length ≤ 1000) (h1 : ∀ B ∈ bs, B.f.length = x.length ∧ BSz b B) (h2 : ∀ a ∈ x, Sz c a) (hn : Fit b c x.length) : Py.run fs Γ (k + 8) f_has_point [.tup [p0, bsD bs], ptD x] μ = some (.bl (hasB bs x), μ) := by
  unfold Fit at hn
  have hc : ∀ x2 : Option SV, ev (Py.run fs Γ (k + 7)) Γ c1_has_point [some (.val (.tup [p0, bsD bs])), some (.val (ptD x)), x2] μ = some (.lst ((bs.filter fun B => !keepsB B x).map fun _ => .int 1), μ) := by
    intro x2
    rw [c1_has_point]
    refine ev_lc_filter (g := bdD) bs (by simp -implicitDefEqProofs [atI, ixN, bsD]) (by omega) fun B hB => ?_
    obtain ⟨g1, g2⟩ := h1 B hB
    have g := r_keeps (k := k) (μ := μ) B x g2 h2 (by rw [g1]; omega)
    exact ⟨[some (.val (.tup [p0, bsD bs])), some (.val (ptD x)), some (.val (bdD B))], by simp, by simp -implicitDefEqProofs [g], by simp⟩
  rw [u_has_point, b_has_point]
  unfold hasB
  rw [none_left]
  generalize (bs.filter fun B => !keepsB B x) = l at *
  by_cases h : l = []
  · simp -implicitDefEqProofs [hc, h]
  · have h' : ¬ l.length = 0 := fun z => h (List.length_eq_zero_iff.mp z)
    simp -implicitDefEqProofs [hc, h, h']
theorem r_lheight (B : Bd) (x : List Rat) (h1 : BSz b B) (h2 : ∀ a ∈ x, Sz c a) (hl : B.f.length = x.length) (hn : b + x.length * (b + c + 1) ≤ 8999) : Py.run fs Γ (k + 3) f__law_height [bdD B, ptD x] μ = some (rD (B.val x), μ) ∧ Sz (b + x.length * (b + c + 1)) (B.val x) := by
  have t0 : ∀ μ : Store, itsS μ (bdD B) = some [.tup (B.f.map rD), rD B.r, .bl B.s] := fun _ => rfl
  have hx : x.length ≤ 8999 := by
    refine Nat.le_trans ?_ hn
    have : x.length * 1 ≤ x.length * (b + c + 1) := Nat.mul_le_mul_left _ (by omega)
    omega
  unfold ptD
  obtain ⟨env', μ', e, x3, rfl, rfl, hs⟩ := forS_inv (t := T.nm 3) (b := fun env' μ' => exs (Py.run fs Γ (k + 2)) Γ l1__law_height env' μ') (ds := rangeD 0 x.length) (env := [some (.val (bdD B)), some (.val (.tup (x.map rD))), some (.val (rD B.r)), none]) (μ := μ)
    (fun i env m => ∃ x3, env = [some (.val (bdD B)), some (.val (.tup (x.map rD))), some (.val (rD (B.r + dot (B.f.take i) (x.take i)))), x3] ∧ m = μ ∧ Sz (b + i * (b + c + 1)) (B.r + dot (B.f.take i) (x.take i)))
    ⟨none, by simp [dot, Rat.add_zero], rfl, by have hb : Sz b B.r := h1.2; simpa [dot, Rat.add_zero] using hb⟩ (by
      rintro i env m d hd ⟨x3, rfl, rfl, hs⟩
      obtain ⟨rfl, hi⟩ := rangeD_get hd
      have hif : i < B.f.length := by omega
      have a1 : atI (B.f.map rD) (i : Int) = some (rD B.f[i]) := atI_map hif
      have a2 : atI (x.map rD) (i : Int) = some (rD x[i]) := atI_map hi
      have s1 := h1.1 _ (List.getElem_mem hif)
      have s2 := h2 _ (List.getElem_mem hi)
      have hle : (i + 1) * (b + c + 1) ≤ x.length * (b + c + 1) := Nat.mul_le_mul_right _ (by omega)
      have hmul : (i + 1) * (b + c + 1) = i * (b + c + 1) + (b + c + 1) := Nat.succ_mul _ _
      have g1 := r_lmult (k := k) (n := b + c) (μ := m) B.f[i] x[i] s1 s2 (Nat.le_refl _) (by omega)
      have g2 := r_lplus (k := k) (n := b + i * (b + c + 1) + (b + c) + 1) (μ := m) (B.r + dot (B.f.take i) (x.take i)) (B.f[i] * x[i]) hs (s1.mul s2) (by omega) (by omega)
      have hd : B.r + dot (B.f.take (i + 1)) (x.take (i + 1)) = B.r + dot (B.f.take i) (x.take i) + B.f[i] * x[i] := by rw [dot_take _ _ _ hif hi]; grind
      refine ⟨[some (.val (bdD B)), some (.val (.tup (x.map rD))), some (.val (rD (B.r + dot (B.f.take i) (x.take i)))), some (.val (.int (0 + (i : Nat))))], [some (.val (bdD B)), some (.val (.tup (x.map rD))), some (.val (rD (B.r + dot (B.f.take i) (x.take i) + B.f[i] * x[i]))), some (.val (.int (0 + (i : Nat))))], m, by simp, .inl ?_, some (.val (.int (0 + (i : Nat)))), by rw [hd], rfl, ?_⟩
      · have q0 : atI [D.tup (B.f.map rD), rD B.r, .bl B.s] 0 = some (.tup (B.f.map rD)) := by simp [atI, ixN]
        simp -implicitDefEqProofs [l1__law_height, t0, q0, a1, a2, g1, g2]
      · rw [hd]
        exact sz_add_le hs (s1.mul s2) (by omega))
  rw [rangeD_len] at hs e
  have ht : B.r + dot (B.f.take x.length) (x.take x.length) = B.val x := by
    rw [← hl, List.take_length, hl, List.take_length]
    unfold Bd.val; grind
  rw [ht] at hs e
  refine ⟨?_, hs⟩
  have hr := rngS_0 (n := x.length) (by omega)
  rw [u__law_height, b__law_height]
  have q1 : atI [D.tup (B.f.map rD), rD B.r, .bl B.s] 1 = some (rD B.r) := by simp [atI, ixN]
  simp -implicitDefEqProofs [ex_for, t0, q1, hr, e]
theorem r_lkeeps (B : Bd) (x : List Rat) (h1 : BSz b B) (h2 : ∀ a ∈ x, Sz c a) (hl : B.f.length = x.length) (hn : b + x.length * (b + c + 1) ≤ 8999) : Py.run fs Γ (k + 4) f__law_keeps [bdD B, ptD x] μ = some (.bl (keepsB B x), μ) := by
  obtain ⟨g1, s1⟩ := r_lheight (k := k) (μ := μ) B x h1 h2 hl hn
  have t0 : itsS μ (bdD B) = some [.tup (B.f.map rD), rD B.r, .bl B.s] := rfl
  have t1 : ∀ v : Rat, itsS μ (rD v) = some [.int v.num, .int v.den] := fun _ => rfl
  have q1 : ∀ v : Rat, atI [D.int v.num, D.int (v.den : Int)] 0 = some (.int v.num) := fun v => by simp [atI, ixN]
  rw [u__law_keeps, b__law_keeps]
  unfold keepsB okb
  generalize B.val x = v at *
  by_cases c2 : 0 < v
  · have c2' := num_pos_iff.mp c2
    have c3 : 0 ≤ v := by grind
    simp -implicitDefEqProofs [t0, t1, q1, atI, ixN, g1, c2', c2, c3]
  · have c2' : ¬ 0 < v.num := fun z => c2 (num_pos_iff.mpr z)
    by_cases c1 : v = 0
    · have c3 : 0 ≤ v := by grind
      have c4 : v.num = 0 := num_zero_iff.mp c1
      cases hs : B.s <;> simp -implicitDefEqProofs [t0, t1, q1, atI, ixN, g1, c2', c2, c3, c4, hs]
    · have c3 : ¬ 0 ≤ v := by grind
      have c4 : ¬ v.num = 0 := fun z => c1 (num_zero_iff.mpr z)
      simp -implicitDefEqProofs [t0, t1, q1, atI, ixN, g1, c2', c2, c3, c4, c1]
theorem r_lhas (p0 : D) (bs : List Bd) (x : List Rat) (hl : bs.length ≤ 1000) (h1 : ∀ B ∈ bs, B.f.length = x.length ∧ BSz b B) (h2 : ∀ a ∈ x, Sz c a) (hn : Fit b c x.length) : Py.run fs Γ (k + 5) f__law_has [.tup [p0, bsD bs], ptD x] μ = some (.bl (hasB bs x), μ) := by
  unfold Fit at hn
  have hc : ∀ x2 : Option SV, ev (Py.run fs Γ (k + 4)) Γ c1__law_has [some (.val (.tup [p0, bsD bs])), some (.val (ptD x)), x2] μ = some (.lst ((bs.filter fun B => !keepsB B x).map fun _ => .int 1), μ) := by
    intro x2
    rw [c1__law_has]
    refine ev_lc_filter (g := bdD) bs (by simp -implicitDefEqProofs [atI, ixN, bsD]) (by omega) fun B hB => ?_
    obtain ⟨g1, g2⟩ := h1 B hB
    have g := r_lkeeps (k := k) (μ := μ) B x g2 h2 g1 (by omega)
    exact ⟨[some (.val (.tup [p0, bsD bs])), some (.val (ptD x)), some (.val (bdD B))], by simp, by simp -implicitDefEqProofs [g], by simp⟩
  rw [u__law_has, b__law_has]
  unfold hasB
  rw [none_left]
  generalize (bs.filter fun B => !keepsB B x) = l at *
  by_cases h : l = []
  · simp -implicitDefEqProofs [hc, h]
  · have h' : ¬ l.length = 0 := fun z => h (List.length_eq_zero_iff.mp z)
    simp -implicitDefEqProofs [hc, h, h']
theorem r_bool (b : Bool) : Py.run fs Γ (k + 1) f__law_bool [.bl b, .bl b] μ = some (.bl true, μ) := by
  rw [u__law_bool, b__law_bool]
  simp -implicitDefEqProofs [eqS_bl]
end
end P19
end
section
set_option Elab.async false
set_option linter.all false
set_option maxRecDepth 100000
set_option maxHeartbeats 0
namespace P19
open PySem L2 Py Geo FM
/-! ### plants -/
abbrev Box := List (Rat × Rat)
structure Sw where
  st : Nat
  nm : D
  goal : Nat
  guard : List Bd
  must : Bool
  kicks : Box
structure Pl where
  names : List D
  modes : List D
  cmds : List D
  beat : Rat
  rates : List (List Box)
  sw : List Sw
  x7 : D
  x8 : D
def kindD (b : Bool) : D := .str (if b then "must" else "may")
def swD (s : Sw) : D := .tup [.int s.st, s.nm, .int s.goal, bsD s.guard, kindD s.must, boxD s.kicks]
def rowD (r : List Box) : D := .tup (r.map boxD)
def plD (P : Pl) : D := .tup [.str "p", .tup P.names, .tup P.modes, .tup P.cmds, rD P.beat, .tup (P.rates.map rowD), .tup (P.sw.map swD), P.x7, P.x8]
def wiD (ss : List (List Bd)) : D := .tup [.tup (ss.map bsD), .non]
def BOk (n : Nat) (b : Box) : Prop := b.length = n ∧ ∀ p ∈ b, Sz 7 p.1 ∧ Sz 7 p.2 ∧ p.1 ≤ p.2
def GOk (n : Nat) (bs : List Bd) : Prop := bs.length ≤ 10 ∧ ∀ B ∈ bs, B.f.length = n ∧ BSz 4 B
structure PlOk (n : Nat) (P : Pl) : Prop where
  hn : n = 1 ∨ n = 2
  names : P.names.length = n
  m1 : 1 ≤ P.modes.length
  m2 : P.modes.length ≤ 2
  c1 : 1 ≤ P.cmds.length
  c2 : P.cmds.length ≤ 3
  b0 : 0 < P.beat
  bz : Sz 2 P.beat
  rl : P.rates.length = P.modes.length
  rr : ∀ r ∈ P.rates, r.length = P.cmds.length ∧ ∀ b ∈ r, BOk n b
  sl : P.sw.length ≤ 2
  so : ∀ s ∈ P.sw, s.st < P.modes.length ∧ s.goal < P.modes.length ∧ GOk n s.guard ∧ BOk n s.kicks
def StOk (n : Nat) (P : Pl) (ss : List (List Bd)) : Prop := ss.length = P.modes.length ∧ ∀ bs ∈ ss, GOk n bs
/-! indices of switches -/
def swP (sw : List Sw) (p : Sw → Bool) (i : Nat) : Bool := match sw[i]? with
  | some s => p s
  | none => false
def idx (sw : List Sw) (p : Sw → Bool) : List Nat := (List.range sw.length).filter (swP sw p)
def oD : Option Nat → D
  | none => .non
  | some i => .int (i : Int)
def hol (sw : List Sw) (m : Nat) (x : List Rat) : List Nat := idx sw fun s => decide (s.st = m) && hasB s.guard x
def frc (sw : List Sw) (m : Nat) (x : List Rat) : List Nat := (hol sw m x).filter (swP sw fun s => s.must)
def choicesM (sw : List Sw) (m : Nat) (x : List Rat) : List (Option Nat) := if 0 < (frc sw m x).length then (frc sw m x).map some else none :: (hol sw m x).map some
theorem zipIdx_idx (sw : List Sw) (p : Sw → Bool) : (sw.zipIdx.filter fun q => p q.1).map (·.2) = idx sw p := by
  unfold idx
  have h : List.range sw.length = sw.zipIdx.map (·.2) := by rw [List.zipIdx_map_snd, List.range_eq_range']
  rw [h, List.filter_map]
  congr 1
  refine List.filter_congr fun q hq => ?_
  have := List.mem_zipIdx_iff_getElem?.mp hq
  simp [swP, this]
theorem idx_filter (sw : List Sw) (p q : Sw → Bool) : (idx sw p).filter (swP sw q) = idx sw fun s => p s && q s := by
  unfold idx
  rw [List.filter_filter]
  refine List.filter_congr fun i _ => ?_
  unfold swP
  cases sw[i]? <;> simp [Bool.and_comm]
theorem idx_lt {sw : List Sw} {p : Sw → Bool} {i : Nat} (h : i ∈ idx sw p) : ∃ hi : i < sw.length, p sw[i] = true := by
  unfold idx at h
  obtain ⟨h1, h2⟩ := List.mem_filter.mp h
  have hi := List.mem_range.mp h1
  refine ⟨hi, ?_⟩
  unfold swP at h2
  rw [List.getElem?_eq_getElem hi] at h2
  exact h2
theorem idx_congr {sw : List Sw} {p q : Sw → Bool} (h : ∀ s ∈ sw, p s = q s) : idx sw p = idx sw q := by
  unfold idx
  refine List.filter_congr fun i hi => ?_
  unfold swP
  have hi' := List.mem_range.mp hi
  rw [List.getElem?_eq_getElem hi']
  exact h _ (List.getElem_mem hi')
theorem idx_len {sw : List Sw} {p : Sw → Bool} : (idx sw p).length ≤ sw.length := by
  unfold idx
  refine Nat.le_trans (List.length_filter_le _ _) ?_
  simp
theorem choicesM_pr (sw : List Sw) (m : Nat) (x : List Rat) : choicesM sw m x = (let f := (idx sw fun s => decide (s.st = m) && s.must).filter (swP sw fun s => hasB s.guard x)
    if 0 < f.length then f.map some else none :: ((idx sw fun s => decide (s.st = m) && !s.must).filter (swP sw fun s => hasB s.guard x)).map some) := by
  unfold choicesM frc hol
  rw [idx_filter, idx_filter, idx_filter]
  have h1 : (idx sw fun s => (decide (s.st = m) && hasB s.guard x) && s.must) = idx sw fun s => (decide (s.st = m) && s.must) && hasB s.guard x := idx_congr fun s _ => by
    cases decide (s.st = m) <;> cases s.must <;> cases hasB s.guard x <;> rfl
  rw [h1]
  dsimp only
  split
  · rfl
  · rename_i hn
    have hz : (idx sw fun s => (decide (s.st = m) && s.must) && hasB s.guard x) = [] := List.length_eq_zero_iff.mp (by omega)
    congr 2
    refine idx_congr fun s hs => ?_
    obtain ⟨i, hi, rfl⟩ := List.getElem_of_mem hs
    have hno : i ∉ idx sw fun s => (decide (s.st = m) && s.must) && hasB s.guard x := by rw [hz]; simp
    unfold idx at hno
    rw [List.mem_filter] at hno
    have : swP sw (fun s => (decide (s.st = m) && s.must) && hasB s.guard x) i = false := by
      cases h : swP sw (fun s => (decide (s.st = m) && s.must) && hasB s.guard x) i with
      | false => rfl
      | true => exact absurd ⟨List.mem_range.mpr hi, h⟩ hno
    unfold swP at this
    rw [List.getElem?_eq_getElem hi] at this
    dsimp only at this
    cases h1 : decide (sw[i].st = m) <;> cases h2 : sw[i].must <;> cases h3 : hasB sw[i].guard x <;> simp [h1, h2, h3] at this ⊢
theorem choicesM_len (sw : List Sw) (m : Nat) (x : List Rat) : 0 < (choicesM sw m x).length ∧ (choicesM sw m x).length ≤ sw.length + 1 := by
  unfold choicesM
  have h1 : (hol sw m x).length ≤ sw.length := idx_len
  have h2 : (frc sw m x).length ≤ (hol sw m x).length := List.length_filter_le _ _
  split
  · simp; omega
  · simp; omega
theorem choicesM_lt {sw : List Sw} {m : Nat} {x : List Rat} {i : Nat} (h : some i ∈ choicesM sw m x) : ∃ hi : i < sw.length, sw[i].st = m := by
  have key : i ∈ hol sw m x := by
    unfold choicesM at h
    split at h
    · obtain ⟨j, hj, e⟩ := List.mem_map.mp h
      cases e
      exact (List.mem_filter.mp hj).1
    · rcases List.mem_cons.mp h with h | h
      · cases h
      · obtain ⟨j, hj, e⟩ := List.mem_map.mp h
        cases e
        exact hj
  obtain ⟨hi, h2⟩ := idx_lt key
  rw [Bool.and_eq_true] at h2
  exact ⟨hi, of_decide_eq_true h2.1⟩
section
variable {k : Nat} {μ : Store}
theorem pl2 (P : Pl) : ∀ μ : Store, itsS μ (plD P) = some [.str "p", .tup P.names, .tup P.modes, .tup P.cmds, rD P.beat, .tup (P.rates.map rowD), .tup (P.sw.map swD), P.x7, P.x8] := fun _ => rfl
theorem sw2 (s : Sw) : ∀ μ : Store, itsS μ (swD s) = some [.int s.st, s.nm, .int s.goal, bsD s.guard, kindD s.must, boxD s.kicks] := fun _ => rfl
section
variable {d0 d1 d2 d3 d4 d5 d6 d7 d8 : D}
theorem at9_1 : atI [d0, d1, d2, d3, d4, d5, d6, d7, d8] 1 = some d1 := by simp [atI, ixN]
theorem at9_2 : atI [d0, d1, d2, d3, d4, d5, d6, d7, d8] 2 = some d2 := by simp [atI, ixN]
theorem at9_3 : atI [d0, d1, d2, d3, d4, d5, d6, d7, d8] 3 = some d3 := by simp [atI, ixN]
theorem at9_4 : atI [d0, d1, d2, d3, d4, d5, d6, d7, d8] 4 = some d4 := by simp [atI, ixN]
theorem at9_5 : atI [d0, d1, d2, d3, d4, d5, d6, d7, d8] 5 = some d5 := by simp [atI, ixN]
theorem at9_6 : atI [d0, d1, d2, d3, d4, d5, d6, d7, d8] 6 = some d6 := by simp [atI, ixN]
theorem at6_0 : atI [d0, d1, d2, d3, d4, d5] 0 = some d0 := by simp [atI, ixN]
theorem at6_2 : atI [d0, d1, d2, d3, d4, d5] 2 = some d2 := by simp [atI, ixN]
theorem at6_3 : atI [d0, d1, d2, d3, d4, d5] 3 = some d3 := by simp [atI, ixN]
theorem at6_4 : atI [d0, d1, d2, d3, d4, d5] 4 = some d4 := by simp [atI, ixN]
theorem at6_5 : atI [d0, d1, d2, d3, d4, d5] 5 = some d5 := by simp [atI, ixN]
theorem at2_0 : atI [d0, d1] 0 = some d0 := by simp [atI, ixN]
theorem at2_1 : atI [d0, d1] 1 = some d1 := by simp [atI, ixN]
theorem at3_0 : atI [d0, d1, d2] 0 = some d0 := by simp [atI, ixN]
theorem at3_1 : atI [d0, d1, d2] 1 = some d1 := by simp [atI, ixN]
theorem at3_2 : atI [d0, d1, d2] 2 = some d2 := by simp [atI, ixN]
end
theorem eqS_kind (a b : Bool) : eqS (kindD a) (.str (if b then "must" else "may")) = some (decide (a = b)) := by
  cases a <;> cases b <;> decide +kernel
theorem r_rates_of (P : Pl) (m c : Nat) (h1 : m < P.rates.length) (h2 : c < P.rates[m].length) : Py.run fs Γ (k + 1) f_rates_of [plD P, .int m, .int c] μ = some (boxD P.rates[m][c], μ) := by
  have a1 : atI (P.rates.map rowD) (m : Int) = some (rowD P.rates[m]) := atI_map h1
  have a2 : atI (P.rates[m].map boxD) (c : Int) = some (boxD P.rates[m][c]) := atI_map h2
  have t1 : itsS μ (rowD P.rates[m]) = some (P.rates[m].map boxD) := rfl
  rw [u_rates_of, b_rates_of]
  simp -implicitDefEqProofs [pl2, at9_5, a1, a2, t1]
theorem r_switches_from (P : Pl) (hs : P.sw.length ≤ 2) (m : Nat) (kd : Bool) : Py.run fs Γ (k + 1) f_switches_from [plD P, .int m, .str (if kd then "must" else "may")] μ = some (.lst ((idx P.sw fun s => decide (s.st = m) && (if kd then s.must else !s.must)).map fun i : Nat => .int i), μ) := by
  have hc : ∀ x3 x4 : Option SV, ev (Py.run fs Γ k) Γ c1_switches_from [some (.val (plD P)), some (.val (.int m)), some (.val (.str (if kd then "must" else "may"))), x3, x4] μ = some (.lst ((P.sw.zipIdx.filter fun q => decide (q.1.st = m) && (if kd then q.1.must else !q.1.must)).map fun q => .int (q.2 : Int)), μ) := by
    intro x3 x4
    rw [c1_switches_from]
    refine ev_lc_filter (g := fun q : Sw × Nat => .tup [.int (q.2 : Int), swD q.1]) P.sw.zipIdx (by simp -implicitDefEqProofs [pl2, at9_6, enumD_map]) (by simp; omega) fun q _ => ?_
    refine ⟨[some (.val (plD P)), some (.val (.int m)), some (.val (.str (if kd then "must" else "may"))), some (.val (.int (q.2 : Int))), some (.val (swD q.1))], by simp, ?_, fun _ => by simp⟩
    by_cases c : q.1.st = m
    · have c' : (q.1.st : Int) = m := by omega
      have e := eqS_kind q.1.must kd
      cases kd <;> cases hm : q.1.must <;> rw [hm] at e <;> simp only [if_true, Bool.false_eq_true, if_false, decide_true, Bool.true_eq_false, decide_false] at e <;> simp -implicitDefEqProofs [sw2, at6_0, at6_4, eqS_int, c, c', e, hm]
    · have c' : ¬ (q.1.st : Int) = m := by omega
      simp -implicitDefEqProofs [sw2, at6_0, at6_4, eqS_int, c, c']
  rw [u_switches_from, b_switches_from]
  have e := zipIdx_idx P.sw fun s => decide (s.st = m) && (if kd then s.must else !s.must)
  rw [← e, List.map_map]
  simp -implicitDefEqProofs [hc, Function.comp_def]
theorem fit4 {n c : Nat} (hn : n = 1 ∨ n = 2) (hc : c ≤ 4000) : Fit 4 c n := by
  unfold Fit; rcases hn with rfl | rfl <;> omega
theorem r_guard_holds {n c : Nat} {P : Pl} (hP : PlOk n P) (i : Nat) (hi : i < P.sw.length) (x : List Rat) (hx : x.length = n) (h2 : ∀ a ∈ x, Sz c a) (hc : c ≤ 4000) : Py.run fs Γ (k + 9) f_guard_holds [plD P, .int i, ptD x] μ = some (.bl (hasB P.sw[i].guard x), μ) := by
  obtain ⟨_, _, h3, _⟩ := hP.so _ (List.getElem_mem hi)
  have hl : x.length ≤ 2 := by rcases hP.hn with h | h <;> omega
  have g := r_has_point (k := k) (μ := μ) (.int x.length) P.sw[i].guard x (by have := h3.1; omega) (fun B hB => by rw [hx]; exact h3.2 B hB) h2 (by rw [hx]; exact fit4 hP.hn hc)
  have a1 : atI (P.sw.map swD) (i : Int) = some (swD P.sw[i]) := atI_map hi
  have tx : itsS μ (ptD x) = some (x.map rD) := rfl
  rw [u_guard_holds, b_guard_holds]
  simp -implicitDefEqProofs [pl2, at9_6, a1, sw2, at6_3, tx, szle, g]
theorem r_choices {n c : Nat} {P : Pl} (hP : PlOk n P) (m : Nat) (x : List Rat) (hx : x.length = n) (h2 : ∀ a ∈ x, Sz c a) (hc : c ≤ 4000) : Py.run fs Γ (k + 10) f_choices [plD P, .int m, ptD x] μ = some (.lst ((choicesM P.sw m x).map oD), μ) := by
  have g1 := r_switches_from (k := k + 8) (μ := μ) P hP.sl m true
  have g2 := r_switches_from (k := k + 8) (μ := μ) P hP.sl m false
  simp only [if_true, Bool.false_eq_true, if_false] at g1 g2
  have hsl := hP.sl
  have hlen : ∀ p : Sw → Bool, (idx P.sw p).length ≤ 2 := fun p => Nat.le_trans idx_len hsl
  have e1 : ∀ x3 x4 : Option SV, ev (Py.run fs Γ (k + 9)) Γ c1_choices [some (.val (plD P)), some (.val (.int m)), some (.val (ptD x)), x3, x4] μ = some (.lst (((idx P.sw fun s => decide (s.st = m) && s.must).filter (swP P.sw fun s => hasB s.guard x)).map fun i : Nat => .int i), μ) := by
    intro x3 x4
    rw [c1_choices]
    refine ev_lc_filter (g := fun i : Nat => .int (i : Int)) (idx P.sw fun s => decide (s.st = m) && s.must) (by simp -implicitDefEqProofs [g1]) (by have := hlen fun s => decide (s.st = m) && s.must; omega) fun i hi => ?_
    obtain ⟨hi', _⟩ := idx_lt hi
    have g := r_guard_holds (k := k) (μ := μ) hP i hi' x hx h2 hc
    refine ⟨[some (.val (plD P)), some (.val (.int m)), some (.val (ptD x)), x3, some (.val (.int i))], by simp, ?_, fun _ => by simp⟩
    have e : swP P.sw (fun s => hasB s.guard x) i = hasB P.sw[i].guard x := by unfold swP; rw [List.getElem?_eq_getElem hi']
    rw [e]
    simp -implicitDefEqProofs [g]
  have e2 : ∀ x3 x4 : Option SV, ev (Py.run fs Γ (k + 9)) Γ c2_choices [some (.val (plD P)), some (.val (.int m)), some (.val (ptD x)), x3, x4] μ = some (.lst (((idx P.sw fun s => decide (s.st = m) && !s.must).filter (swP P.sw fun s => hasB s.guard x)).map fun i : Nat => .int i), μ) := by
    intro x3 x4
    rw [c2_choices]
    refine ev_lc_filter (g := fun i : Nat => .int (i : Int)) (idx P.sw fun s => decide (s.st = m) && !s.must) (by simp -implicitDefEqProofs [g2]) (by have := hlen fun s => decide (s.st = m) && !s.must; omega) fun i hi => ?_
    obtain ⟨hi', _⟩ := idx_lt hi
    have g := r_guard_holds (k := k) (μ := μ) hP i hi' x hx h2 hc
    refine ⟨[some (.val (plD P)), some (.val (.int m)), some (.val (ptD x)), x3, some (.val (.int i))], by simp, ?_, fun _ => by simp⟩
    have e : swP P.sw (fun s => hasB s.guard x) i = hasB P.sw[i].guard x := by unfold swP; rw [List.getElem?_eq_getElem hi']
    rw [e]
    simp -implicitDefEqProofs [g]
  rw [u_choices, b_choices, choicesM_pr]
  have hb : ((idx P.sw fun s => decide (s.st = m) && !s.must).filter (swP P.sw fun s => hasB s.guard x)).length ≤ 2 := Nat.le_trans (List.length_filter_le _ _) (hlen _)
  dsimp only
  generalize (idx P.sw fun s => decide (s.st = m) && s.must).filter (swP P.sw fun s => hasB s.guard x) = f at *
  generalize (idx P.sw fun s => decide (s.st = m) && !s.must).filter (swP P.sw fun s => hasB s.guard x) = g at *
  have ho : ∀ l : List Nat, (l.map some).map oD = l.map fun i : Nat => .int (i : Int) := fun l => by rw [List.map_map]; rfl
  have hz : g.length + 1 ≤ 16777216 := by omega
  by_cases hf : 0 < f.length
  · rw [if_pos hf, ho]
    simp -implicitDefEqProofs [e1, hf]
  · rw [if_neg hf, List.map_cons, ho]
    have hf' : f = [] := List.length_eq_zero_iff.mp (by omega)
    subst hf'
    have hz' : 1 + g.length ≤ 16777216 := by omega
    simp -implicitDefEqProofs [e1, e2, szle, hz, hz', oD]
theorem r_lchoices {n c : Nat} {P : Pl} (hP : PlOk n P) (m : Nat) (x : List Rat) (hx : x.length = n) (h2 : ∀ a ∈ x, Sz c a) (hc : c ≤ 4000) : Py.run fs Γ (k + 6) f__law_choices [plD P, .int m, ptD x] μ = some (.lst ((choicesM P.sw m x).map oD), μ) := by
  have hsl := hP.sl
  have hr := rngS_map (n := P.sw.length) (by omega)
  have tx : itsS μ (ptD x) = some (x.map rD) := rfl
  have e1 : ∀ x4 x5 x6 : Option SV, ev (Py.run fs Γ (k + 5)) Γ c1__law_choices [some (.val (plD P)), some (.val (.int m)), some (.val (ptD x)), some (.val (.int (x.length : Int))), x4, x5, x6] μ = some (.lst ((hol P.sw m x).map fun i : Nat => .int i), μ) := by
    intro x4 x5 x6
    rw [c1__law_choices]
    unfold hol idx
    refine ev_lc_filter (g := fun i : Nat => .int (i : Int)) (List.range P.sw.length) (by simp -implicitDefEqProofs [pl2, at9_6, hr]) (by simp; omega) fun i hi => ?_
    have hi' := List.mem_range.mp hi
    obtain ⟨_, _, h3, _⟩ := hP.so _ (List.getElem_mem hi')
    have g := r_lhas (k := k) (μ := μ) (.int x.length) P.sw[i].guard x (by have := h3.1; omega) (fun B hB => by rw [hx]; exact h3.2 B hB) h2 (by rw [hx]; exact fit4 hP.hn hc)
    have a1 : atI (P.sw.map swD) (i : Int) = some (swD P.sw[i]) := atI_map hi'
    refine ⟨[some (.val (plD P)), some (.val (.int m)), some (.val (ptD x)), some (.val (.int (x.length : Int))), x4, some (.val (.int i)), x6], by simp, ?_, fun _ => by simp⟩
    have e : swP P.sw (fun s => decide (s.st = m) && hasB s.guard x) i = (decide (P.sw[i].st = m) && hasB P.sw[i].guard x) := by unfold swP; rw [List.getElem?_eq_getElem hi']
    rw [e]
    by_cases c : P.sw[i].st = m
    · have c' : (P.sw[i].st : Int) = m := by omega
      cases hh : hasB P.sw[i].guard x <;> rw [hh] at g <;> simp -implicitDefEqProofs [pl2, at9_6, a1, sw2, at6_0, at6_3, eqS_int, c, c', g, szle]
    · have c' : ¬ (P.sw[i].st : Int) = m := by omega
      simp -implicitDefEqProofs [pl2, at9_6, a1, sw2, at6_0, at6_3, eqS_int, c, c']
  have hh : (hol P.sw m x).length ≤ 2 := Nat.le_trans idx_len hsl
  have e2 : ∀ x3 x5 x6 : Option SV, ev (Py.run fs Γ (k + 5)) Γ c2__law_choices [some (.val (plD P)), some (.val (.int m)), some (.val (ptD x)), x3, some (.val (.lst ((hol P.sw m x).map fun i : Nat => .int i))), x5, x6] μ = some (.lst ((frc P.sw m x).map fun i : Nat => .int i), μ) := by
    intro x3 x5 x6
    rw [c2__law_choices]
    unfold frc
    refine ev_lc_filter (g := fun i : Nat => .int (i : Int)) (hol P.sw m x) (by simp) (by omega) fun i hi => ?_
    obtain ⟨hi', _⟩ := idx_lt hi
    have a1 : atI (P.sw.map swD) (i : Int) = some (swD P.sw[i]) := atI_map hi'
    refine ⟨[some (.val (plD P)), some (.val (.int m)), some (.val (ptD x)), x3, some (.val (.lst ((hol P.sw m x).map fun i : Nat => .int i))), some (.val (.int i)), x6], by simp, ?_, fun _ => by simp⟩
    have e : swP P.sw (fun s => s.must) i = P.sw[i].must := by unfold swP; rw [List.getElem?_eq_getElem hi']
    rw [e]
    have ek := eqS_kind P.sw[i].must true
    rw [if_pos rfl] at ek
    cases hm : P.sw[i].must <;> rw [hm] at ek <;> simp -implicitDefEqProofs [pl2, at9_6, a1, sw2, at6_4, ek, hm]
  rw [u__law_choices, b__law_choices]
  unfold choicesM
  have ho : ∀ l : List Nat, (l.map some).map oD = l.map fun i : Nat => .int (i : Int) := fun l => by rw [List.map_map]; rfl
  generalize hol P.sw m x = g at *
  generalize frc P.sw m x = f at *
  have hz : g.length + 1 ≤ 16777216 := by omega
  have hz' : 1 + g.length ≤ 16777216 := by omega
  by_cases hf : 0 < f.length
  · rw [if_pos hf, ho]
    simp -implicitDefEqProofs [e1, e2, tx, hf]
  · rw [if_neg hf, List.map_cons, ho]
    have hf' : f = [] := List.length_eq_zero_iff.mp (by omega)
    subst hf'
    simp -implicitDefEqProofs [e1, e2, tx, szle, hz, hz', oD]
end
end P19
end
section
set_option Elab.async false
set_option linter.all false
set_option maxRecDepth 100000
set_option maxHeartbeats 0
namespace P19
open PySem L2 Py Geo FM
/-! ### beats -/
abbrev Seg := Rat × List Rat
def segD (s : Seg) : D := .tup [rD s.1, ptD s.2]
def segsD (ss : List Seg) : D := .tup (ss.map segD)
structure Beat where
  segs : List Seg
  ix : Option Nat
  kick : List Rat
def kickD (B : Beat) : D := match B.ix with
  | none => .non
  | some _ => ptD B.kick
def beatD (B : Beat) : D := .tup [segsD B.segs, oD B.ix, kickD B]
def passedM (x : List Rat) : List Seg → List (List Rat)
  | [] => [x]
  | s :: r => x :: passedM (movedM x s.2 s.1) r
def endM (x : List Rat) : List Seg → List Rat
  | [] => x
  | s :: r => endM (movedM x s.2 s.1) r
theorem passedM_cons (x : List Rat) (ss : List Seg) : passedM x ss = x :: (passedM x ss).tail := by cases ss <;> rfl
theorem passedM_last : ∀ (ss : List Seg) (x : List Rat), (passedM x ss).getLast? = some (endM x ss)
  | [], x => rfl
  | s :: r, x => by rw [passedM, endM, passedM_cons (movedM x s.2 s.1) r, List.getLast?_cons_cons, ← passedM_cons]; exact passedM_last r _
theorem passedM_length : ∀ (ss : List Seg) (x : List Rat), (passedM x ss).length = ss.length + 1
  | [], _ => rfl
  | s :: r, x => by rw [passedM, List.length_cons, passedM_length r]; rfl
def SegsOk (n c e : Nat) (ss : List Seg) : Prop := ∀ s ∈ ss, s.2.length = n ∧ Sz e s.1 ∧ ∀ y ∈ s.2, Sz c y
theorem passedM_ok {n c e : Nat} : ∀ (ss : List Seg) (x : List Rat) (b : Nat), SegsOk n c e ss → x.length = n → (∀ y ∈ x, Sz b y) → ∀ y ∈ passedM x ss, y.length = n ∧ ∀ z ∈ y, Sz (b + ss.length * (c + e + 1)) z
  | [], x, b, _, hx, h => fun y hy => by
    simp [passedM] at hy
    subst hy
    exact ⟨hx, fun z hz => (h z hz).mono (by omega)⟩
  | s :: r, x, b, hs, hx, h => fun y hy => by
    obtain ⟨h1, h2, h3⟩ := hs s (by simp)
    rw [passedM] at hy
    simp only [List.length_cons, Nat.succ_mul]
    rcases List.mem_cons.mp hy with rfl | hy
    · exact ⟨hx, fun z hz => (h z hz).mono (by omega)⟩
    · obtain ⟨g1, g2⟩ := passedM_ok r (movedM x s.2 s.1) (b + (c + e) + 1) (fun t ht => hs t (by simp [ht])) (by rw [movedM_length (by rw [hx, h1])]; exact hx) (movedM_sz h h3 h2) y hy
      exact ⟨g1, fun z hz => (g2 z hz).mono (by omega)⟩
theorem endM_ok {n c e : Nat} {ss : List Seg} {x : List Rat} {b : Nat} (hs : SegsOk n c e ss) (hx : x.length = n) (h : ∀ y ∈ x, Sz b y) : (endM x ss).length = n ∧ ∀ z ∈ endM x ss, Sz (b + ss.length * (c + e + 1)) z :=
  passedM_ok ss x b hs hx h _ (List.mem_of_getLast? (passedM_last ss x))
def addM (x y : List Rat) : List Rat := (x.zip y).map fun p => p.1 + p.2
theorem moved_one (x y : List Rat) : movedM x y 1 = addM x y := by
  unfold movedM addM
  refine List.map_congr_left fun p _ => ?_
  rw [Rat.mul_one]
theorem addM_length {x y : List Rat} (h : x.length = y.length) : (addM x y).length = x.length := by unfold addM; simp [h]
theorem addM_sz {a b : Nat} {x y : List Rat} (hx : ∀ z ∈ x, Sz a z) (hy : ∀ z ∈ y, Sz b z) : ∀ z ∈ addM x y, Sz (a + b + 1) z := fun z hz => by
  obtain ⟨p, hp, rfl⟩ := List.mem_map.mp hz
  obtain ⟨i1, i2⟩ := List.of_mem_zip (a := p.1) (b := p.2) hp
  exact (hx _ i1).add (hy _ i2)
abbrev Plc := Nat × List Rat
def plcD (p : Plc) : D := .tup [.int (p.1 : Int), ptD p.2]
def goalM (P : Pl) (i : Nat) : Nat := match P.sw[i]? with
  | some s => s.goal
  | none => 0
def placeM (P : Pl) (m : Nat) (x : List Rat) (B : Beat) : Plc := match B.ix with
  | none => (m, endM x B.segs)
  | some i => (goalM P i, addM (endM x B.segs) B.kick)
def stayM (ss : List (List Bd)) (m : Nat) : List Bd := ss.getD m []
def safeM (P : Pl) (ss : List (List Bd)) (m : Nat) (x : List Rat) (B : Beat) : Bool := (passedM x B.segs).all (hasB (stayM ss m)) && hasB (stayM ss (placeM P m x B).1) (placeM P m x B).2
structure BtOk (n c e : Nat) (P : Pl) (B : Beat) : Prop where
  segs : SegsOk n c e B.segs
  len : B.segs.length ≤ 5
  ix : ∀ i, B.ix = some i → i < P.sw.length ∧ B.kick.length = n ∧ ∀ y ∈ B.kick, Sz c y
theorem placeM_ok {n c e b : Nat} {P : Pl} {B : Beat} {m : Nat} {x : List Rat} (hP : PlOk n P) (hm : m < P.modes.length) (hB : BtOk n c e P B) (hx : x.length = n) (h : ∀ y ∈ x, Sz b y) :
    (placeM P m x B).1 < P.modes.length ∧ (placeM P m x B).2.length = n ∧ ∀ y ∈ (placeM P m x B).2, Sz (b + 5 * (c + e + 1) + c + 1) y := by
  obtain ⟨h1, h2⟩ := endM_ok hB.segs hx h
  have hle : B.segs.length * (c + e + 1) ≤ 5 * (c + e + 1) := Nat.mul_le_mul_right _ hB.len
  unfold placeM
  split
  · exact ⟨hm, h1, fun y hy => (h2 y hy).mono (by omega)⟩
  · rename_i i hi
    obtain ⟨g1, g2, g3⟩ := hB.ix i hi
    refine ⟨?_, by rw [addM_length (by rw [h1, g2])]; exact h1, fun y hy => (addM_sz h2 g3 y hy).mono (by omega)⟩
    unfold goalM
    rw [List.getElem?_eq_getElem g1]
    exact (hP.so _ (List.getElem_mem g1)).2.1
section
variable {k : Nat} {μ : Store}
theorem r_moved {a b c n : Nat} (x r : List Rat) (t : Rat) (hx : x.length = n) (hr : r.length = n) (hn : n ≤ 1000) (h1 : ∀ y ∈ x, Sz a y) (h2 : ∀ y ∈ r, Sz b y) (h3 : Sz c t) (hs : a + (b + c) + 1 ≤ 8999) : Py.run fs Γ (k + 4) f_moved [ptD x, ptD r, rD t] μ = some (ptD (movedM x r t), μ) := by
  have e : ∀ x3 x4 : Option SV, ev (Py.run fs Γ (k + 3)) Γ c1_moved [some (.val (ptD x)), some (.val (ptD r)), some (.val (rD t)), x3, x4] μ = some (.lst ((movedM x r t).map rD), μ) := by
    intro x3 x4
    rw [c1_moved]
    unfold movedM
    rw [List.map_map]
    refine ev_lc_map (g := fun p : Rat × Rat => .tup [rD p.1, rD p.2]) (x.zip r) (by simp -implicitDefEqProofs [ptD, zipD_map]) (by rw [List.length_zip]; omega) fun p hp => ?_
    obtain ⟨i1, i2⟩ := List.of_mem_zip (a := p.1) (b := p.2) hp
    have g1 := r_times (k := k) (μ := μ) p.2 t (h2 _ i2) h3 (by omega)
    have g2 := r_added (k := k) (μ := μ) p.1 (p.2 * t) (h1 _ i1) ((h2 _ i2).mul h3) hs
    exact ⟨[some (.val (ptD x)), some (.val (ptD r)), some (.val (rD t)), some (.val (rD p.1)), some (.val (rD p.2))], by simp, by simp, by simp -implicitDefEqProofs [g1, g2]⟩
  rw [u_moved, b_moved]
  simp -implicitDefEqProofs [e]
  rfl
theorem r_lmoved {a b c n : Nat} (x r : List Rat) (t : Rat) (hx : x.length = n) (hr : r.length = n) (hn : n ≤ 1000) (h1 : ∀ y ∈ x, Sz a y) (h2 : ∀ y ∈ r, Sz b y) (h3 : Sz c t) (hs : a + (b + c) + 1 ≤ 8999) : Py.run fs Γ (k + 3) f__law_moved [ptD x, ptD r, rD t] μ = some (ptD (movedM x r t), μ) := by
  have hm : movedM x r t = (List.range x.length).map fun i => x.getD i 0 + r.getD i 0 * t := by
    unfold movedM
    refine List.ext_getElem (by simp [hx, hr]) fun i i1 i2 => ?_
    rw [List.length_map, List.length_zip] at i1
    have j1 : i < x.length := by omega
    have j2 : i < r.length := by omega
    simp [List.getElem_zip, List.getD_eq_getElem?_getD, List.getElem?_eq_getElem j1, List.getElem?_eq_getElem j2]
  have hrn := rngS_map (n := x.length) (by omega)
  have tx : ∀ (x : List Rat) (μ : Store), itsS μ (ptD x) = some (x.map rD) := fun _ _ => rfl
  have e : ∀ x3 : Option SV, ev (Py.run fs Γ (k + 2)) Γ c1__law_moved [some (.val (ptD x)), some (.val (ptD r)), some (.val (rD t)), x3] μ = some (.lst ((movedM x r t).map rD), μ) := by
    intro x3
    rw [c1__law_moved, hm, List.map_map]
    refine ev_lc_map (g := fun i : Nat => D.int (i : Int)) (List.range x.length) (by simp -implicitDefEqProofs [tx, hrn]) (by simp; omega) fun i hi => ?_
    have j1 := List.mem_range.mp hi
    have j2 : i < r.length := by omega
    have a1 : atI (x.map rD) (i : Int) = some (rD x[i]) := atI_map j1
    have a2 : atI (r.map rD) (i : Int) = some (rD r[i]) := atI_map j2
    have s1 := h1 _ (List.getElem_mem j1)
    have s2 := h2 _ (List.getElem_mem j2)
    have g1 := r_lmult (k := k) (n := b + c) (μ := μ) r[i] t s2 h3 (Nat.le_refl _) (by omega)
    have g2 := r_lplus (k := k) (n := a + (b + c) + 1) (μ := μ) x[i] (r[i] * t) s1 (s2.mul h3) (Nat.le_refl _) hs
    have v1 : x.getD i 0 = x[i] := by simp [List.getD_eq_getElem?_getD, List.getElem?_eq_getElem j1]
    have v2 : r.getD i 0 = r[i] := by simp [List.getD_eq_getElem?_getD, List.getElem?_eq_getElem j2]
    refine ⟨[some (.val (ptD x)), some (.val (ptD r)), some (.val (rD t)), some (.val (.int (i : Int)))], by simp, by simp, ?_⟩
    simp only [Function.comp_apply, v1, v2]
    simp -implicitDefEqProofs [tx, a1, a2, g1, g2]
  rw [u__law_moved, b__law_moved]
  simp -implicitDefEqProofs [e]
  rfl
theorem r_sum_of_points {a b n : Nat} (x y : List Rat) (hx : x.length = n) (hn : n ≤ 1000) (h1 : ∀ z ∈ x, Sz a z) (h2 : ∀ z ∈ y, Sz b z) (hs : a + b + 1 ≤ 8999) : Py.run fs Γ (k + 4) f_sum_of_points [ptD x, ptD y] μ = some (ptD (addM x y), μ) := by
  have e : ∀ x2 x3 : Option SV, ev (Py.run fs Γ (k + 3)) Γ c1_sum_of_points [some (.val (ptD x)), some (.val (ptD y)), x2, x3] μ = some (.lst ((addM x y).map rD), μ) := by
    intro x2 x3
    rw [c1_sum_of_points]
    unfold addM
    rw [List.map_map]
    refine ev_lc_map (g := fun p : Rat × Rat => .tup [rD p.1, rD p.2]) (x.zip y) (by simp -implicitDefEqProofs [ptD, zipD_map]) (by rw [List.length_zip]; omega) fun p hp => ?_
    obtain ⟨i1, i2⟩ := List.of_mem_zip (a := p.1) (b := p.2) hp
    have g2 := r_added (k := k) (μ := μ) p.1 p.2 (h1 _ i1) (h2 _ i2) hs
    exact ⟨[some (.val (ptD x)), some (.val (ptD y)), some (.val (rD p.1)), some (.val (rD p.2))], by simp, by simp, by simp -implicitDefEqProofs [g2]⟩
  rw [u_sum_of_points, b_sum_of_points]
  simp -implicitDefEqProofs [e]
  rfl
theorem ps_loop {n c e : Nat} (hn : n ≤ 1000) (hμ : scalS μ = true) (x0 x1 : Option SV) : ∀ (ss : List Seg) (l : List (List Rat)) (y : List Rat) (b : Nat) (x3 x4 : Option SV), l.getLast? = some y → SegsOk n c e ss → y.length = n → (∀ z ∈ y, Sz b z) → b + ss.length * (c + e + 1) ≤ 8999 → l.length + ss.length ≤ 1000 →
    ∃ y3 y4, forS (T.tp [(T.nm 3), (T.nm 4)]) (fun env' μ' => exs (Py.run fs Γ (k + 4)) Γ l1_passed env' μ') (ss.map segD) [x0, x1, some (.own (l.map ptD)), x3, x4] μ = some (.nx [x0, x1, some (.own ((l ++ (passedM y ss).tail).map ptD)), y3, y4] μ)
  | [], l, y, b, x3, x4, _, _, _, _, _, _ => ⟨x3, x4, by simp [forS_nil, passedM]⟩
  | s :: r, l, y, b, x3, x4, hl, hs, hy, hb, hz, hc => by
    obtain ⟨h1, h2, h3⟩ := hs s (by simp)
    simp only [List.length_cons, Nat.succ_mul] at hz hc
    have g := r_moved (k := k) (μ := μ) y s.2 s.1 hy h1 hn hb h3 h2 (by omega)
    obtain ⟨y3, y4, ih⟩ := ps_loop hn hμ x0 x1 r (l ++ [movedM y s.2 s.1]) (movedM y s.2 s.1) (b + (c + e) + 1) (some (.val (rD s.1))) (some (.val (ptD s.2))) (by simp) (fun t ht => hs t (by simp [ht])) (by rw [movedM_length (by rw [hy, h1])]; exact hy) (movedM_sz hb h3 h2) (by omega) (by simp; omega)
    refine ⟨y3, y4, ?_⟩
    have e1 : l ++ (passedM y (s :: r)).tail = l ++ [movedM y s.2 s.1] ++ (passedM (movedM y s.2 s.1) r).tail := by
      rw [passedM, List.tail_cons, List.append_assoc, List.singleton_append, ← passedM_cons]
    rw [e1, ← ih, List.map_cons]
    have hat : atI (l.map ptD) (-1) = some (ptD y) := atI_last hl
    have hlt : l.length < 16777216 := by omega
    refine forS_go (env1 := [x0, x1, some (.own (l.map ptD)), some (.val (rD s.1)), some (.val (ptD s.2))]) (by unfold segD; simp) ?_
    simp -implicitDefEqProofs [l1_passed, ev_bor, hat, g, noL_ptD, hμ, szlt, hlt]
theorem r_passed {n b c e : Nat} (hn : n ≤ 1000) (hμ : scalS μ = true) (x : List Rat) (ss : List Seg) (hs : SegsOk n c e ss) (hx : x.length = n) (hb : ∀ z ∈ x, Sz b z) (hz : b + ss.length * (c + e + 1) ≤ 8999) (hc : ss.length ≤ 500) : Py.run fs Γ (k + 5) f_passed [ptD x, segsD ss] μ = some (.lst ((passedM x ss).map ptD), μ) := by
  obtain ⟨y3, y4, g⟩ := ps_loop (k := k) (μ := μ) hn hμ (some (.val (ptD x))) (some (.val (segsD ss))) ss [x] x b none none rfl hs hx hb hz (by simp; omega)
  rw [List.singleton_append, ← passedM_cons] at g
  rw [List.map_cons, List.map_nil] at g
  rw [u_passed, b_passed]
  unfold segsD at g ⊢
  simp -implicitDefEqProofs [ex_for, szle, g]
theorem lps_loop {n c e : Nat} (hn : n ≤ 1000) (hμ : scalS μ = true) (x0 x1 : Option SV) : ∀ (ss : List Seg) (l : List (List Rat)) (y : List Rat) (b : Nat) (x3 x4 : Option SV), l.getLast? = some y → SegsOk n c e ss → y.length = n → (∀ z ∈ y, Sz b z) → b + ss.length * (c + e + 1) ≤ 8999 → l.length + ss.length ≤ 1000 →
    ∃ y3 y4, forS (T.tp [(T.nm 3), (T.nm 4)]) (fun env' μ' => exs (Py.run fs Γ (k + 3)) Γ l1__law_passed env' μ') (ss.map segD) [x0, x1, some (.own (l.map ptD)), x3, x4] μ = some (.nx [x0, x1, some (.own ((l ++ (passedM y ss).tail).map ptD)), y3, y4] μ)
  | [], l, y, b, x3, x4, _, _, _, _, _, _ => ⟨x3, x4, by simp [forS_nil, passedM]⟩
  | s :: r, l, y, b, x3, x4, hl, hs, hy, hb, hz, hc => by
    obtain ⟨h1, h2, h3⟩ := hs s (by simp)
    simp only [List.length_cons, Nat.succ_mul] at hz hc
    have g := r_lmoved (k := k) (μ := μ) y s.2 s.1 hy h1 hn hb h3 h2 (by omega)
    obtain ⟨y3, y4, ih⟩ := lps_loop hn hμ x0 x1 r (l ++ [movedM y s.2 s.1]) (movedM y s.2 s.1) (b + (c + e) + 1) (some (.val (rD s.1))) (some (.val (ptD s.2))) (by simp) (fun t ht => hs t (by simp [ht])) (by rw [movedM_length (by rw [hy, h1])]; exact hy) (movedM_sz hb h3 h2) (by omega) (by simp; omega)
    refine ⟨y3, y4, ?_⟩
    have e1 : l ++ (passedM y (s :: r)).tail = l ++ [movedM y s.2 s.1] ++ (passedM (movedM y s.2 s.1) r).tail := by
      rw [passedM, List.tail_cons, List.append_assoc, List.singleton_append, ← passedM_cons]
    rw [e1, ← ih, List.map_cons]
    have hat : atI (l.map ptD) (-1) = some (ptD y) := atI_last hl
    have hlt : l.length < 16777216 := by omega
    refine forS_go (env1 := [x0, x1, some (.own (l.map ptD)), some (.val (rD s.1)), some (.val (ptD s.2))]) (by unfold segD; simp) ?_
    simp -implicitDefEqProofs [l1__law_passed, ev_bor, hat, g, noL_ptD, hμ, szlt, hlt]
theorem r_lpassed {n b c e : Nat} (hn : n ≤ 1000) (hμ : scalS μ = true) (x : List Rat) (ss : List Seg) (hs : SegsOk n c e ss) (hx : x.length = n) (hb : ∀ z ∈ x, Sz b z) (hz : b + ss.length * (c + e + 1) ≤ 8999) (hc : ss.length ≤ 500) : Py.run fs Γ (k + 4) f__law_passed [ptD x, segsD ss] μ = some (.lst ((passedM x ss).map ptD), μ) := by
  obtain ⟨y3, y4, g⟩ := lps_loop (k := k) (μ := μ) hn hμ (some (.val (ptD x))) (some (.val (segsD ss))) ss [x] x b none none rfl hs hx hb hz (by simp; omega)
  rw [List.singleton_append, ← passedM_cons] at g
  rw [List.map_cons, List.map_nil] at g
  rw [u__law_passed, b__law_passed]
  unfold segsD at g ⊢
  simp -implicitDefEqProofs [ex_for, szle, g]
theorem r_end_of {n b c e : Nat} {P : Pl} {B : Beat} (hP : PlOk n P) (hB : BtOk n c e P B) (hμ : scalS μ = true) (m : Nat) (x : List Rat) (hx : x.length = n) (hb : ∀ z ∈ x, Sz b z) (hz : b + 5 * (c + e + 1) + c + 1 ≤ 8999) : Py.run fs Γ (k + 6) f_end_of [plD P, .int m, ptD x, beatD B] μ = some (plcD (placeM P m x B), μ) := by
  have hn : n ≤ 1000 := by rcases hP.hn with h | h <;> omega
  have hle : B.segs.length * (c + e + 1) ≤ 5 * (c + e + 1) := Nat.mul_le_mul_right _ hB.len
  have g := r_passed (k := k) (μ := μ) hn hμ x B.segs hB.segs hx hb (by omega) (by have := hB.len; omega)
  have hat : atI ((passedM x B.segs).map ptD) (-1) = some (ptD (endM x B.segs)) := atI_last (passedM_last _ _)
  obtain ⟨h1, h2⟩ := endM_ok hB.segs hx hb
  have hbd : beatD B = .tup [segsD B.segs, oD B.ix, kickD B] := rfl
  rw [u_end_of, b_end_of, hbd]
  unfold placeM kickD
  cases hi : B.ix with
  | none =>
    have gp : Py.run fs Γ (k + 5) f_place_behind [plD P, .int m, ptD (endM x B.segs), .non, .non] μ = some (plcD (m, endM x B.segs), μ) := by
      rw [u_place_behind, b_place_behind]
      simp -implicitDefEqProofs [szle]
      rfl
    simp -implicitDefEqProofs [g, hat, oD, gp]
  | some i =>
    obtain ⟨g1, g2, g3⟩ := hB.ix i hi
    have gs := r_sum_of_points (k := k) (μ := μ) (endM x B.segs) B.kick h1 hn h2 g3 (by omega)
    have a1 : atI (P.sw.map swD) (i : Int) = some (swD P.sw[i]) := atI_map g1
    have gp : Py.run fs Γ (k + 5) f_place_behind [plD P, .int m, ptD (endM x B.segs), .int i, ptD B.kick] μ = some (plcD (goalM P i, addM (endM x B.segs) B.kick), μ) := by
      have hg : goalM P i = P.sw[i].goal := by unfold goalM; rw [List.getElem?_eq_getElem g1]
      rw [u_place_behind, b_place_behind, hg]
      unfold plcD
      simp -implicitDefEqProofs [szle, pl2, at9_6, a1, sw2, at6_2, gs, Py.isNon]
    simp -implicitDefEqProofs [g, hat, oD, gp]
theorem r_lend {n b c e : Nat} {P : Pl} {B : Beat} (hP : PlOk n P) (hB : BtOk n c e P B) (hμ : scalS μ = true) (m : Nat) (x : List Rat) (hx : x.length = n) (hb : ∀ z ∈ x, Sz b z) (hz : b + 5 * (c + e + 1) + c + 3 ≤ 8999) : Py.run fs Γ (k + 5) f__law_end [plD P, .int m, ptD x, beatD B] μ = some (plcD (placeM P m x B), μ) := by
  have hn : n ≤ 1000 := by rcases hP.hn with h | h <;> omega
  have hle : B.segs.length * (c + e + 1) ≤ 5 * (c + e + 1) := Nat.mul_le_mul_right _ hB.len
  have g := r_lpassed (k := k) (μ := μ) hn hμ x B.segs hB.segs hx hb (by omega) (by have := hB.len; omega)
  have hat : atI ((passedM x B.segs).map ptD) (-1) = some (ptD (endM x B.segs)) := atI_last (passedM_last _ _)
  obtain ⟨h1, h2⟩ := endM_ok hB.segs hx hb
  have tb : ∀ μ : Store, itsS μ (beatD B) = some [segsD B.segs, oD B.ix, kickD B] := fun _ => rfl
  rw [u__law_end, b__law_end]
  unfold placeM
  cases hi : B.ix with
  | none =>
    simp -implicitDefEqProofs [tb, at3_0, at3_1, g, hat, oD, hi, szle]
    rfl
  | some i =>
    obtain ⟨g1, g2, g3⟩ := hB.ix i hi
    have gs := r_lmoved (k := k + 1) (μ := μ) (endM x B.segs) B.kick 1 h1 g2 hn h2 g3 (sz_one (b := 1) (by decide)) (by omega)
    rw [moved_one, rD_one] at gs
    have a1 : atI (P.sw.map swD) (i : Int) = some (swD P.sw[i]) := atI_map g1
    have hk : kickD B = ptD B.kick := by unfold kickD; rw [hi]
    have hg : goalM P i = P.sw[i].goal := by unfold goalM; rw [List.getElem?_eq_getElem g1]
    dsimp only
    rw [hg]
    unfold plcD
    simp -implicitDefEqProofs [tb, at3_0, at3_1, at3_2, g, hat, oD, hi, szle, Py.isNon, pl2, at9_6, a1, sw2, at6_2, gs, hk]
theorem r_in_stay {n c : Nat} {P : Pl} {ss : List (List Bd)} (hP : PlOk n P) (hS : StOk n P ss) (m : Nat) (hm : m < P.modes.length) (x : List Rat) (hx : x.length = n) (h2 : ∀ a ∈ x, Sz c a) (hc : c ≤ 4000) : Py.run fs Γ (k + 9) f_in_stay [wiD ss, .int m, ptD x] μ = some (.bl (hasB (stayM ss m) x), μ) := by
  have hm' : m < ss.length := by rw [hS.1]; exact hm
  have h3 := hS.2 _ (List.getElem_mem hm')
  have g := r_has_point (k := k) (μ := μ) (.int x.length) ss[m] x (by have := h3.1; omega) (fun B hB => by rw [hx]; exact h3.2 B hB) h2 (by rw [hx]; exact fit4 hP.hn hc)
  have a1 : atI (ss.map bsD) (m : Int) = some (bsD ss[m]) := atI_map hm'
  have tx : itsS μ (ptD x) = some (x.map rD) := rfl
  have tw : ∀ μ : Store, itsS μ (wiD ss) = some [.tup (ss.map bsD), .non] := fun _ => rfl
  have hv : stayM ss m = ss[m] := by unfold stayM; simp [List.getD_eq_getElem?_getD, List.getElem?_eq_getElem hm']
  rw [u_in_stay, b_in_stay, hv]
  simp -implicitDefEqProofs [tw, at2_0, a1, tx, szle, g]
theorem r_is_safe_beat {n b c e : Nat} {P : Pl} {ss : List (List Bd)} {B : Beat} (hP : PlOk n P) (hS : StOk n P ss) (hB : BtOk n c e P B) (hμ : scalS μ = true) (m : Nat) (hm : m < P.modes.length) (x : List Rat) (hx : x.length = n) (hb : ∀ z ∈ x, Sz b z) (hz : b + 5 * (c + e + 1) + c + 1 ≤ 4000) :
    Py.run fs Γ (k + 10) f_is_safe_beat [plD P, wiD ss, .int m, ptD x, beatD B] μ = some (.bl (safeM P ss m x B), μ) := by
  have hn : n ≤ 1000 := by rcases hP.hn with h | h <;> omega
  have hle : B.segs.length * (c + e + 1) ≤ 5 * (c + e + 1) := Nat.mul_le_mul_right _ hB.len
  have hlen := hB.len
  have g := r_passed (k := k + 4) (μ := μ) hn hμ x B.segs hB.segs hx hb (by omega) (by omega)
  have tb : ∀ μ : Store, itsS μ (beatD B) = some [segsD B.segs, oD B.ix, kickD B] := fun _ => rfl
  have hpl := passedM_length B.segs x
  have hc : ∀ x5 x6 x7 : Option SV, ev (Py.run fs Γ (k + 9)) Γ c1_is_safe_beat [some (.val (plD P)), some (.val (wiD ss)), some (.val (.int m)), some (.val (ptD x)), some (.val (beatD B)), x5, x6, x7] μ = some (.lst (((passedM x B.segs).filter fun y => !hasB (stayM ss m) y).map fun _ => .int 1), μ) := by
    intro x5 x6 x7
    rw [c1_is_safe_beat]
    refine ev_lc_filter (g := ptD) (passedM x B.segs) (by simp -implicitDefEqProofs [tb, at3_0, g]) (by omega) fun y hy => ?_
    obtain ⟨q1, q2⟩ := passedM_ok B.segs x b hB.segs hx hb y hy
    have g := r_in_stay (k := k) (μ := μ) hP hS m hm y q1 q2 (by omega)
    exact ⟨[some (.val (plD P)), some (.val (wiD ss)), some (.val (.int m)), some (.val (ptD x)), some (.val (beatD B)), some (.val (ptD y)), x6, x7], by simp, by simp -implicitDefEqProofs [g], fun _ => by simp⟩
  obtain ⟨p1, p2, p3⟩ := placeM_ok hP hm hB hx hb
  have ge := r_end_of (k := k + 3) (μ := μ) hP hB hμ m x hx hb (by omega)
  have gi := r_in_stay (k := k) (μ := μ) hP hS _ p1 _ p2 p3 (by omega)
  have hpd : plcD (placeM P m x B) = .tup [.int ((placeM P m x B).1 : Int), ptD (placeM P m x B).2] := rfl
  rw [u_is_safe_beat, b_is_safe_beat]
  unfold safeM
  rw [none_left]
  rw [hpd] at ge
  generalize (passedM x B.segs).filter (fun y => !hasB (stayM ss m) y) = l at *
  by_cases h : l = []
  · simp -implicitDefEqProofs [hc, h, ge, gi]
  · have h1 : 0 < l.length := List.length_pos_iff.mpr h
    simp -implicitDefEqProofs [hc, h, h1]
theorem r_lsafe {n b c e : Nat} {P : Pl} {ss : List (List Bd)} {B : Beat} (hP : PlOk n P) (hS : StOk n P ss) (hB : BtOk n c e P B) (hμ : scalS μ = true) (m : Nat) (hm : m < P.modes.length) (x : List Rat) (hx : x.length = n) (hb : ∀ z ∈ x, Sz b z) (hz : b + 5 * (c + e + 1) + c + 3 ≤ 4000) :
    Py.run fs Γ (k + 6) f__law_safe [plD P, wiD ss, .int m, ptD x, beatD B] μ = some (.bl (safeM P ss m x B), μ) := by
  have hn : n ≤ 1000 := by rcases hP.hn with h | h <;> omega
  have hle : B.segs.length * (c + e + 1) ≤ 5 * (c + e + 1) := Nat.mul_le_mul_right _ hB.len
  have hlen := hB.len
  have g := r_lpassed (k := k + 1) (μ := μ) hn hμ x B.segs hB.segs hx hb (by omega) (by omega)
  have tb : ∀ μ : Store, itsS μ (beatD B) = some [segsD B.segs, oD B.ix, kickD B] := fun _ => rfl
  have tx : ∀ (x : List Rat) (μ : Store), itsS μ (ptD x) = some (x.map rD) := fun _ _ => rfl
  have tw : ∀ μ : Store, itsS μ (wiD ss) = some [.tup (ss.map bsD), .non] := fun _ => rfl
  have hpl := passedM_length B.segs x
  have gst : ∀ (m : Nat) (hm : m < P.modes.length) (y : List Rat) (p0 : D) (q1 : y.length = n) (c : Nat) (q2 : ∀ z ∈ y, Sz c z), c ≤ 4000 → ∃ bs, atI (ss.map bsD) (m : Int) = some (bsD bs) ∧ stayM ss m = bs ∧ Py.run fs Γ (k + 5) f__law_has [.tup [p0, bsD bs], ptD y] μ = some (.bl (hasB bs y), μ) := by
    intro m hm y p0 q1 c q2 hc
    have hm' : m < ss.length := by rw [hS.1]; exact hm
    have h3 := hS.2 _ (List.getElem_mem hm')
    exact ⟨ss[m], atI_map hm', by unfold stayM; simp [List.getD_eq_getElem?_getD, List.getElem?_eq_getElem hm'], r_lhas (k := k) (μ := μ) p0 ss[m] y (by have := h3.1; omega) (fun B hB => by rw [q1]; exact h3.2 B hB) q2 (by rw [q1]; exact fit4 hP.hn hc)⟩
  have hc : ∀ x6 x7 x8 : Option SV, ev (Py.run fs Γ (k + 5)) Γ c1__law_safe [some (.val (plD P)), some (.val (wiD ss)), some (.val (.int m)), some (.val (ptD x)), some (.val (beatD B)), some (.val (.int x.length)), x6, x7, x8] μ = some (.lst (((passedM x B.segs).filter fun y => !hasB (stayM ss m) y).map ptD), μ) := by
    intro x6 x7 x8
    rw [c1__law_safe]
    refine ev_lc_filter (g := ptD) (passedM x B.segs) (by simp -implicitDefEqProofs [tb, at3_0, g]) (by omega) fun y hy => ?_
    obtain ⟨q1, q2⟩ := passedM_ok B.segs x b hB.segs hx hb y hy
    obtain ⟨bs, j1, j2, j3⟩ := gst m hm y (.int x.length) q1 _ q2 (by omega)
    rw [j2]
    exact ⟨[some (.val (plD P)), some (.val (wiD ss)), some (.val (.int m)), some (.val (ptD x)), some (.val (beatD B)), some (.val (.int x.length)), some (.val (ptD y)), x7, x8], by simp, by simp -implicitDefEqProofs [tw, at2_0, j1, j3, szle], fun _ => by simp⟩
  obtain ⟨p1, p2, p3⟩ := placeM_ok hP hm hB hx hb
  have ge := r_lend (k := k) (μ := μ) hP hB hμ m x hx hb (by omega)
  obtain ⟨bs, j1, j2, j3⟩ := gst _ p1 _ (.int x.length) p2 _ p3 (by omega)
  have hpd : plcD (placeM P m x B) = .tup [.int ((placeM P m x B).1 : Int), ptD (placeM P m x B).2] := rfl
  rw [u__law_safe, b__law_safe]
  unfold safeM
  rw [none_left, j2]
  rw [hpd] at ge
  generalize (passedM x B.segs).filter (fun y => !hasB (stayM ss m) y) = l at *
  by_cases h : l = []
  · simp -implicitDefEqProofs [hc, h, ge, tx, tw, at2_0, j1, j3, szle]
  · have h1 : 0 < l.length := List.length_pos_iff.mpr h
    simp -implicitDefEqProofs [hc, h, h1, tx]
end
end P19
end
section
set_option Elab.async false
set_option linter.all false
set_option maxRecDepth 100000
set_option maxHeartbeats 0
namespace P19
open PySem L2 Py Geo FM
/-! ### right beats, right courses -/
def inBoxM (b : Box) (r : List Rat) : Bool := decide (r.length = b.length) && (r.zip b).all fun p => decide (p.2.1 ≤ p.1) && decide (p.1 ≤ p.2.2)
abbrev Step := Nat × Beat
def stepD (s : Step) : D := .tup [.int (s.1 : Int), beatD s.2]
def courseD (x : List Rat) (ss : List Step) : D := .tup [ptD x, .tup (ss.map stepD)]
def boxOf (P : Pl) (m c : Nat) : Box := (P.rates.getD m []).getD c []
def kicksOf (P : Pl) (i : Nat) : Box := match P.sw[i]? with
  | some s => s.kicks
  | none => []
def sumT (ss : List Seg) : Rat := ss.foldl (fun t s => t + s.1) 0
structure BeatR (P : Pl) (m c : Nat) (x : List Rat) (B : Beat) : Prop where
  segs : ∀ s ∈ B.segs, 0 < s.1 ∧ inBoxM (boxOf P m c) s.2 = true
  sum : sumT B.segs = P.beat
  ix : B.ix ∈ choicesM P.sw m (endM x B.segs)
  kick : ∀ i, B.ix = some i → inBoxM (kicksOf P i) B.kick = true
def RightS (P : Pl) : Nat → List Rat → List Step → Prop
  | _, _, [] => True
  | m, x, s :: r => s.1 < P.cmds.length ∧ BeatR P m s.1 x s.2 ∧ RightS P (placeM P m x s.2).1 (placeM P m x s.2).2 r
/-- all places of a course have points of one size -/
def PlcSz (P : Pl) (b : Nat) : Nat → List Rat → List Step → Prop
  | _, x, [] => ∀ y ∈ x, Sz b y
  | m, x, s :: r => (∀ y ∈ x, Sz b y) ∧ PlcSz P b (placeM P m x s.2).1 (placeM P m x s.2).2 r
theorem PlcSz.here {P : Pl} {b m : Nat} {x : List Rat} {ss : List Step} (h : PlcSz P b m x ss) : ∀ y ∈ x, Sz b y := by
  cases ss with
  | nil => exact h
  | cons s r => exact h.1
def StepsOk (n c e : Nat) (P : Pl) (ss : List Step) : Prop := ∀ s ∈ ss, BtOk n c e P s.2
theorem plcSz_of {n c e : Nat} {P : Pl} (hP : PlOk n P) : ∀ (ss : List Step) (m : Nat) (x : List Rat) (b0 b : Nat), m < P.modes.length → StepsOk n c e P ss → x.length = n → (∀ y ∈ x, Sz b0 y) → b0 + ss.length * (5 * (c + e + 1) + c + 1) ≤ b → PlcSz P b m x ss
  | [], m, x, b0, b, _, _, _, h, hb => fun y hy => (h y hy).mono (by omega)
  | s :: r, m, x, b0, b, hm, hs, hx, h, hb => by
    rw [List.length_cons, Nat.succ_mul] at hb
    obtain ⟨h1, h2, h3⟩ := placeM_ok hP hm (hs s (by simp)) hx h
    exact ⟨fun y hy => (h y hy).mono (by omega), plcSz_of hP r _ _ (b0 + 5 * (c + e + 1) + c + 1) b h1 (fun t ht => hs t (by simp [ht])) h2 h3 (by omega)⟩
def placesM (P : Pl) (m : Nat) (x : List Rat) : List Step → List Plc
  | [] => [(m, x)]
  | s :: r => (m, x) :: placesM P (placeM P m x s.2).1 (placeM P m x s.2).2 r
theorem placesM_cons (P : Pl) (m : Nat) (x : List Rat) (ss : List Step) : placesM P m x ss = (m, x) :: (placesM P m x ss).tail := by cases ss <;> rfl
theorem placesM_length (P : Pl) : ∀ (ss : List Step) (m : Nat) (x : List Rat), (placesM P m x ss).length = ss.length + 1
  | [], _, _ => rfl
  | s :: r, m, x => by rw [placesM, List.length_cons, placesM_length P r]; rfl
theorem placesM_ok {n c e b : Nat} {P : Pl} (hP : PlOk n P) : ∀ (ss : List Step) (m : Nat) (x : List Rat), m < P.modes.length → StepsOk n c e P ss → x.length = n → PlcSz P b m x ss → ∀ p ∈ placesM P m x ss, p.1 < P.modes.length ∧ p.2.length = n ∧ ∀ y ∈ p.2, Sz b y
  | [], m, x, hm, _, hx, h => fun p hp => by
    simp [placesM] at hp
    subst hp
    exact ⟨hm, hx, h⟩
  | s :: r, m, x, hm, hs, hx, h => fun p hp => by
    obtain ⟨h1, h2, h3⟩ := placeM_ok hP hm (hs s (by simp)) hx h.1
    rw [placesM] at hp
    rcases List.mem_cons.mp hp with rfl | hp
    · exact ⟨hm, hx, h.1⟩
    · exact placesM_ok hP r _ _ h1 (fun t ht => hs t (by simp [ht])) h2 h.2 p hp
theorem boxOf_eq {n : Nat} {P : Pl} (hP : PlOk n P) {m c : Nat} (hm : m < P.modes.length) (hc : c < P.cmds.length) : ∃ (h1 : m < P.rates.length) (h2 : c < P.rates[m].length), boxOf P m c = P.rates[m][c] ∧ BOk n P.rates[m][c] := by
  have h1 : m < P.rates.length := by rw [hP.rl]; exact hm
  obtain ⟨g1, g2⟩ := hP.rr _ (List.getElem_mem h1)
  have h2 : c < P.rates[m].length := by rw [g1]; exact hc
  refine ⟨h1, h2, ?_, g2 _ (List.getElem_mem h2)⟩
  unfold boxOf
  simp [List.getD_eq_getElem?_getD, List.getElem?_eq_getElem h1, List.getElem?_eq_getElem h2]
def pyO : Option Nat → PyData
  | none => .none
  | some j => .int (j : Int)
theorem eqv_pyO (a b : Option Nat) : PyData.eqv (pyO a) (pyO b) = decide (a = b) := by
  cases a with
  | none => cases b <;> simp [pyO, PyData.eqv]
  | some a =>
    cases b with
    | none => simp [pyO, PyData.eqv]
    | some b =>
      rw [Bool.eq_iff_iff]
      simp [pyO, PyData.eqv]
      omega
theorem toPys_oD : ∀ l : List (Option Nat), toPys (l.map oD) = some (l.map pyO)
  | [] => rfl
  | a :: l => by
    rw [List.map_cons, toPys, toPys_oD l]
    cases a <;> rfl
theorem shaped_pyO (a : Option Nat) : SeqAt.shaped (pyO a) = true := by
  cases a <;> simp -implicitDefEqProofs [pyO, SeqAt.shaped, PyData.canLay0, PyData.depth]
theorem shaped_pyOs (l : List (Option Nat)) (hl : l.length ≤ 3) : SeqAt.shaped (.list (l.map pyO)) = true := by
  match l, hl with
  | [], _ => simp -implicitDefEqProofs [SeqAt.shaped, PyData.canLay0, PyData.canLayAll0, PyData.depth, PyData.depthAll]
  | [a], _ => cases a <;> simp -implicitDefEqProofs [pyO, SeqAt.shaped, PyData.canLay0, PyData.canLayAll0, PyData.depth, PyData.depthAll]
  | [a, b], _ => cases a <;> cases b <;> simp -implicitDefEqProofs [pyO, SeqAt.shaped, PyData.canLay0, PyData.canLayAll0, PyData.depth, PyData.depthAll]
  | [a, b, c], _ => cases a <;> cases b <;> cases c <;> simp -implicitDefEqProofs [pyO, SeqAt.shaped, PyData.canLay0, PyData.canLayAll0, PyData.depth, PyData.depthAll]
theorem inS_oD (i : Option Nat) (l : List (Option Nat)) (hl : l.length ≤ 3) : inS (oD i) (.lst (l.map oD)) = some (decide (i ∈ l)) := by
  have h1 : toPy (oD i) = some (pyO i) := by cases i <;> rfl
  have h2 : toPy (.lst (l.map oD)) = some (.list (l.map pyO)) := by rw [toPy, toPys_oD]; rfl
  unfold inS
  rw [h1, h2]
  dsimp only [Option.bind_some]
  rw [shaped_pyO, shaped_pyOs l hl, Bool.and_self, if_pos rfl, List.any_map]
  congr 1
  rw [Bool.eq_iff_iff]
  simp [eqv_pyO]
section
variable {k : Nat} {μ : Store}
theorem r_is_point_of {a : Nat} (b : Box) (r : List Rat) (h1 : ∀ p ∈ b, Sz 7 p.1 ∧ Sz 7 p.2) (h2 : ∀ y ∈ r, Sz a y) (ha : a + 7 ≤ 8999) (hl : b.length ≤ 1000) : Py.run fs Γ (k + 3) f_is_point_of [boxD b, ptD r] μ = some (.bl (inBoxM b r), μ) := by
  have tb : ∀ μ : Store, itsS μ (boxD b) = some (b.map pairD) := fun _ => rfl
  have tx : ∀ μ : Store, itsS μ (ptD r) = some (r.map rD) := fun _ => rfl
  rw [u_is_point_of, b_is_point_of]
  unfold inBoxM
  by_cases c : r.length = b.length
  · have c' : (r.length : Int) = (b.length : Int) := by omega
    have hz : zipD (r.map rD) (b.map pairD) = (r.zip b).map fun p => .tup [rD p.1, pairD p.2] := zipD_map _ _ _ _
    rcases forS_find (t := T.tp [(T.nm 2), (T.tp [(T.nm 3), (T.nm 4)])]) (b := fun env' μ' => exs (Py.run fs Γ (k + 2)) Γ l1_is_point_of env' μ') (μ := μ) (fun p : Rat × Rat × Rat => D.tup [rD p.1, pairD p.2]) (fun _ => .bl false) (fun p => !(decide (p.2.1 ≤ p.1) && decide (p.1 ≤ p.2.2)))
      (fun env => ∃ x2 x3 x4, env = [some (.val (boxD b)), some (.val (ptD r)), x2, x3, x4]) (r.zip b) [some (.val (boxD b)), some (.val (ptD r)), none, none, none] ⟨none, none, none, rfl⟩ (by
        rintro p hp env ⟨x2, x3, x4, rfl⟩
        obtain ⟨i1, i2⟩ := List.of_mem_zip (a := p.1) (b := p.2) hp
        have g0 := r_is_ratio (k := k) (μ := μ) p.1
        have g1 := r_compare (k := k + 1) (μ := μ) p.1 p.2.1 (h2 _ i1) (h1 _ i2).1 ha
        have g2 := r_compare (k := k + 1) (μ := μ) p.1 p.2.2 (h2 _ i1) (h1 _ i2).2 ha
        unfold sgn at g1 g2
        refine ⟨[some (.val (boxD b)), some (.val (ptD r)), some (.val (rD p.1)), some (.val (rD p.2.1)), some (.val (rD p.2.2))], by unfold pairD; simp, fun hq => ?_, fun hq => ⟨[some (.val (boxD b)), some (.val (ptD r)), some (.val (rD p.1)), some (.val (rD p.2.1)), some (.val (rD p.2.2))], .inl ?_, _, _, _, rfl⟩⟩
        · rw [Bool.not_eq_true', Bool.and_eq_false_iff, decide_eq_false_iff_not, decide_eq_false_iff_not] at hq
          by_cases c1 : p.1 < p.2.1
          · simp -implicitDefEqProofs [l1_is_point_of, g0, g1, c1]
          · have c2 : p.2.2 < p.1 := by rcases hq with hq | hq <;> grind
            have c3 : ¬ p.1 < p.2.2 := by grind
            by_cases c4 : p.2.1 < p.1 <;> simp -implicitDefEqProofs [l1_is_point_of, g0, g1, g2, c1, c2, c3, c4]
        · rw [Bool.not_eq_false', Bool.and_eq_true, decide_eq_true_iff, decide_eq_true_iff] at hq
          have c1 : ¬ p.1 < p.2.1 := by grind
          have c2 : ¬ p.2.2 < p.1 := by grind
          by_cases c3 : p.1 < p.2.2 <;> by_cases c4 : p.2.1 < p.1 <;> simp -implicitDefEqProofs [l1_is_point_of, g0, g1, g2, c1, c2, c3, c4]) with ⟨p, hp, hf, e⟩ | ⟨hf, env', e, x2, x3, x4, rfl⟩
    · have hall : ((r.zip b).all fun p => decide (p.2.1 ≤ p.1) && decide (p.1 ≤ p.2.2)) = false := by
        rw [List.all_eq_false]
        have := List.find?_some hf
        rw [Bool.not_eq_true'] at this
        exact ⟨p, hp, by rw [this]; exact Bool.false_ne_true⟩
      rw [hall, Bool.and_false]
      rw [← hz] at e
      unfold ptD boxD at e ⊢
      simp -implicitDefEqProofs [ex_for, eqS_int, c, c', e]
    · have hall : ((r.zip b).all fun p => decide (p.2.1 ≤ p.1) && decide (p.1 ≤ p.2.2)) = true := by
        rw [List.all_eq_true]
        intro p hp
        have := List.find?_eq_none.mp hf p hp
        simpa using this
      rw [hall, Bool.and_true]
      rw [← hz] at e
      unfold ptD boxD at e ⊢
      simp -implicitDefEqProofs [ex_for, eqS_int, c, c', e]
  · have c' : ¬ (r.length : Int) = (b.length : Int) := by omega
    simp -implicitDefEqProofs [tb, tx, eqS_int, c, c']
theorem r_are_segments {n c e : Nat} {P : Pl} (hP : PlOk n P) {m cm : Nat} (hm : m < P.modes.length) (hcm : cm < P.cmds.length) (ss : List Seg) (hs : SegsOk n c e ss) (h : ∀ s ∈ ss, 0 < s.1 ∧ inBoxM (boxOf P m cm) s.2 = true) (hc : c + 7 ≤ 8999) (hl : ss.length ≤ 10) (he : e ≤ 800) :
    Py.run fs Γ (k + 5) f_are_segments [plD P, .int m, .int cm, segsD ss] μ = some (.bl (decide (sumT ss = P.beat)), μ) := by
  obtain ⟨q1, q2, q3, q4⟩ := boxOf_eq hP hm hcm
  have g0 := r_rates_of (k := k + 3) (μ := μ) P m cm q1 q2
  have hn : n ≤ 1000 := by rcases hP.hn with h | h <;> omega
  obtain ⟨env', e1, x6, x7, rfl, hsz⟩ := forS_fold (t := T.tp [(T.nm 6), (T.nm 7)]) (b := fun env' μ' => exs (Py.run fs Γ (k + 4)) Γ l1_are_segments env' μ') (μ := μ) segD (fun (t : Rat) (s : Seg) => t + s.1)
    (fun i t env => ∃ x6 x7, env = [some (.val (plD P)), some (.val (.int m)), some (.val (.int cm)), some (.val (segsD ss)), some (.val (boxD P.rates[m][cm])), some (.val (rD t)), x6, x7] ∧ Sz (1 + i * (e + 1)) t) ss 0 0 [some (.val (plD P)), some (.val (.int m)), some (.val (.int cm)), some (.val (segsD ss)), some (.val (boxD P.rates[m][cm])), some (.val (rD 0)), none, none]
    ⟨none, none, rfl, sz_zero (by omega)⟩ (by
      rintro s hsm j t env _ hj ⟨x6, x7, rfl, hsz⟩
      obtain ⟨w1, w2, w3⟩ := hs s hsm
      obtain ⟨v1, v2⟩ := h s hsm
      rw [q3] at v2
      have hle : j * (e + 1) ≤ 10 * (e + 1) := Nat.mul_le_mul_right _ (by omega)
      have i0 := r_is_ratio (k := k + 2) (μ := μ) s.1
      have i1 := r_compare (k := k + 3) (μ := μ) s.1 0 w2 (sz_zero (b := 1) (by decide)) (by omega)
      have i2 := r_is_point_of (k := k + 1) (μ := μ) P.rates[m][cm] s.2 (fun p hp => ⟨(q4.2 p hp).1, (q4.2 p hp).2.1⟩) w3 hc (by rw [q4.1]; omega)
      have i3 := r_added (k := k + 1) (μ := μ) t s.1 hsz w2 (by omega)
      rw [v2] at i2
      have c1 : ¬ s.1 < 0 := by grind
      unfold sgn at i1
      rw [if_neg c1, if_pos v1, rD_zero] at i1
      refine ⟨[some (.val (plD P)), some (.val (.int m)), some (.val (.int cm)), some (.val (segsD ss)), some (.val (boxD P.rates[m][cm])), some (.val (rD t)), some (.val (rD s.1)), some (.val (ptD s.2))], [some (.val (plD P)), some (.val (.int m)), some (.val (.int cm)), some (.val (segsD ss)), some (.val (boxD P.rates[m][cm])), some (.val (rD (t + s.1))), some (.val (rD s.1)), some (.val (ptD s.2))], by unfold segD; simp, .inl ?_, _, _, rfl, (hsz.add w2).mono (by rw [Nat.succ_mul]; omega)⟩
      simp -implicitDefEqProofs [l1_are_segments, i0, i1, i2, i3])
  rw [rD_zero] at e1
  have es : ss.foldl (fun (t : Rat) (s : Seg) => t + s.1) 0 = sumT ss := rfl
  rw [es] at e1
  rw [u_are_segments, b_are_segments]
  unfold segsD at e1 ⊢
  simp -implicitDefEqProofs [ex_for, g0, e1, pl2, at9_4, eqS_rD]
theorem are_seg_bad {n : Nat} {P : Pl} (hP : PlOk n P) {m cm : Nat} (hm : m < P.modes.length) (hcm : cm < P.cmds.length) (d t r : D) (ds : List D) (hd : d = .tup [t, r]) (h : Py.run fs Γ (k + 4) f_is_ratio [t] μ = some (.bl false, μ) ∨ (Py.run fs Γ (k + 4) f_is_ratio [t] μ = some (.bl true, μ) ∧ ∃ s : Int, Py.run fs Γ (k + 4) f_compare [t, .tup [.int 0, .int 1]] μ = some (.int s, μ) ∧ (s < 1 ∨ (¬ s < 1 ∧ Py.run fs Γ (k + 4) f_is_point_of [boxD (boxOf P m cm), r] μ = some (.bl false, μ))))) :
    Py.run fs Γ (k + 5) f_are_segments [plD P, .int m, .int cm, .tup (d :: ds)] μ = some (.bl false, μ) := by
  obtain ⟨q1, q2, q3, q4⟩ := boxOf_eq hP hm hcm
  have g0 := r_rates_of (k := k + 3) (μ := μ) P m cm q1 q2
  rw [q3] at h
  have e1 : forS (T.tp [(T.nm 6), (T.nm 7)]) (fun env' μ' => exs (Py.run fs Γ (k + 4)) Γ l1_are_segments env' μ') (d :: ds) [some (.val (plD P)), some (.val (.int m)), some (.val (.int cm)), some (.val (.tup (d :: ds))), some (.val (boxD P.rates[m][cm])), some (.val (.tup [.int 0, .int 1])), none, none] μ = some (.rt (.bl false) μ) := by
    refine forS_rt (env1 := [some (.val (plD P)), some (.val (.int m)), some (.val (.int cm)), some (.val (.tup (d :: ds))), some (.val (boxD P.rates[m][cm])), some (.val (.tup [.int 0, .int 1])), some (.val t), some (.val r)]) (by rw [hd]; simp) ?_
    rcases h with h | ⟨h, s, h2, h3 | ⟨h3, h4⟩⟩
    · simp -implicitDefEqProofs [l1_are_segments, h]
    · simp -implicitDefEqProofs [l1_are_segments, h, h2, h3]
    · simp -implicitDefEqProofs [l1_are_segments, h, h2, h3, h4]
  rw [u_are_segments, b_are_segments]
  simp -implicitDefEqProofs [ex_for, g0, e1]
theorem kicksOf_eq {n : Nat} {P : Pl} (hP : PlOk n P) {i : Nat} (hi : i < P.sw.length) : kicksOf P i = P.sw[i].kicks ∧ BOk n P.sw[i].kicks := by
  refine ⟨by unfold kicksOf; rw [List.getElem?_eq_getElem hi], (hP.so _ (List.getElem_mem hi)).2.2.2⟩
theorem n1 {i : Int} : Py.isNon (.int i) = false := rfl
theorem n2 : Py.isNon .non = true := rfl
theorem r_is_kick {n c : Nat} {P : Pl} (hP : PlOk n P) (i : Nat) (hi : i < P.sw.length) (y : List Rat) (hy : ∀ z ∈ y, Sz c z) (hc : c + 7 ≤ 8999) : Py.run fs Γ (k + 4) f_is_kick [plD P, .int i, ptD y] μ = some (.bl (inBoxM (kicksOf P i) y), μ) := by
  obtain ⟨q1, q2⟩ := kicksOf_eq hP hi
  have hn : n ≤ 1000 := by rcases hP.hn with h | h <;> omega
  have a1 : atI (P.sw.map swD) (i : Int) = some (swD P.sw[i]) := atI_map hi
  have g := r_is_point_of (k := k) (μ := μ) P.sw[i].kicks y (fun p hp => ⟨(q2.2 p hp).1, (q2.2 p hp).2.1⟩) hy hc (by rw [q2.1]; omega)
  have hk : Py.isNon (ptD y) = false := rfl
  rw [u_is_kick, b_is_kick, q1]
  simp -implicitDefEqProofs [n1, n2, hk, pl2, at9_6, a1, sw2, at6_5, g]
theorem r_is_kick_nn (P : Pl) : Py.run fs Γ (k + 1) f_is_kick [plD P, .non, .non] μ = some (.bl true, μ) := by
  rw [u_is_kick, b_is_kick]
  simp -implicitDefEqProofs [n1, n2]
theorem r_is_kick_n (P : Pl) (y : List Rat) : Py.run fs Γ (k + 1) f_is_kick [plD P, .non, ptD y] μ = some (.bl false, μ) := by
  have hk : Py.isNon (ptD y) = false := rfl
  rw [u_is_kick, b_is_kick]
  simp -implicitDefEqProofs [n1, n2, hk]
theorem r_is_kick_i (P : Pl) (i : Nat) : Py.run fs Γ (k + 1) f_is_kick [plD P, .int i, .non] μ = some (.bl false, μ) := by
  rw [u_is_kick, b_is_kick]
  simp -implicitDefEqProofs [n1, n2]
/-- a beat whose segments are right in form -/
theorem r_is_beat' {n b c e : Nat} {P : Pl} (hP : PlOk n P) {m cm : Nat} (hm : m < P.modes.length) (hcm : cm < P.cmds.length) (hμ : scalS μ = true) (x : List Rat) (hx : x.length = n) (hb : ∀ z ∈ x, Sz b z) (ss : List Seg) (hs : SegsOk n c e ss) (hl : ss.length ≤ 10) (h : ∀ s ∈ ss, 0 < s.1 ∧ inBoxM (boxOf P m cm) s.2 = true) (ix : Option Nat) (kd : D) (kb : Bool)
    (hk : ix ∈ choicesM P.sw m (endM x ss) → sumT ss = P.beat → Py.run fs Γ (k + 10) f_is_kick [plD P, oD ix, kd] μ = some (.bl kb, μ)) (hz : b + 10 * (c + e + 1) ≤ 4000) :
    Py.run fs Γ (k + 11) f_is_beat [plD P, .int m, .int cm, ptD x, .tup [segsD ss, oD ix, kd]] μ = some (.bl (decide (sumT ss = P.beat) && (decide (ix ∈ choicesM P.sw m (endM x ss)) && kb)), μ) := by
  have hn : n ≤ 1000 := by rcases hP.hn with h | h <;> omega
  have hle : ss.length * (c + e + 1) ≤ 10 * (c + e + 1) := Nat.mul_le_mul_right _ hl
  have g1 := r_are_segments (k := k + 5) (μ := μ) hP hm hcm ss hs h (by omega) hl (by omega)
  have g2 := r_passed (k := k + 5) (μ := μ) hn hμ x ss hs hx hb (by omega) (by omega)
  have hat : atI ((passedM x ss).map ptD) (-1) = some (ptD (endM x ss)) := atI_last (passedM_last _ _)
  obtain ⟨h1, h2⟩ := endM_ok hs hx hb
  have g3 := r_choices (k := k) (μ := μ) hP m (endM x ss) h1 h2 (by omega)
  have hlen := choicesM_len P.sw m (endM x ss)
  have g4 := inS_oD ix (choicesM P.sw m (endM x ss)) (by have := hP.sl; omega)
  rw [u_is_beat, b_is_beat]
  by_cases c1 : sumT ss = P.beat
  · by_cases c2 : ix ∈ choicesM P.sw m (endM x ss)
    · have g5 := hk c2 c1
      simp -implicitDefEqProofs [g1, g2, hat, g3, g4, c1, c2, g5]
    · simp -implicitDefEqProofs [g1, g2, hat, g3, g4, c1, c2]
  · simp -implicitDefEqProofs [g1, c1]
theorem r_is_beat {n b c e : Nat} {P : Pl} (hP : PlOk n P) {m cm : Nat} (hm : m < P.modes.length) (hcm : cm < P.cmds.length) (hμ : scalS μ = true) (x : List Rat) (hx : x.length = n) (hb : ∀ z ∈ x, Sz b z) (B : Beat) (hB : BtOk n c e P B) (hR : BeatR P m cm x B) (hz : b + 10 * (c + e + 1) ≤ 4000) :
    Py.run fs Γ (k + 11) f_is_beat [plD P, .int m, .int cm, ptD x, beatD B] μ = some (.bl true, μ) := by
  have g := r_is_beat' (k := k) (μ := μ) hP hm hcm hμ x hx hb B.segs hB.segs (by have := hB.len; omega) hR.segs B.ix (kickD B) true (fun _ _ => by
    unfold kickD
    cases hi : B.ix with
    | none => exact r_is_kick_nn P
    | some i =>
      obtain ⟨q1, q2, q3⟩ := hB.ix i hi
      have := r_is_kick (k := k + 6) (μ := μ) hP i q1 B.kick q3 (by omega)
      rw [hR.kick i hi] at this
      exact this) hz
  rw [decide_eq_true hR.sum, decide_eq_true hR.ix] at g
  exact g
theorem is_beat_seg {P : Pl} (m cm : Nat) (x : List Rat) (sd i kd : D) (h : Py.run fs Γ (k + 10) f_are_segments [plD P, .int m, .int cm, sd] μ = some (.bl false, μ)) : Py.run fs Γ (k + 11) f_is_beat [plD P, .int m, .int cm, ptD x, .tup [sd, i, kd]] μ = some (.bl false, μ) := by
  rw [u_is_beat, b_is_beat]
  simp -implicitDefEqProofs [h]
end
end P19
end
section
set_option Elab.async false
set_option linter.all false
set_option maxRecDepth 100000
set_option maxHeartbeats 0
namespace P19
open PySem L2 Py Geo FM
def lastM (P : Pl) (m : Nat) (x : List Rat) : List Step → Plc
  | [] => (m, x)
  | s :: r => lastM P (placeM P m x s.2).1 (placeM P m x s.2).2 r
theorem placesM_last (P : Pl) : ∀ (ss : List Step) (m : Nat) (x : List Rat), (placesM P m x ss).getLast? = some (lastM P m x ss)
  | [], _, _ => rfl
  | s :: r, m, x => by rw [placesM, lastM, placesM_cons P _ _ r, List.getLast?_cons_cons, ← placesM_cons]; exact placesM_last P r _ _
theorem lastM_ok {n c e b : Nat} {P : Pl} (hP : PlOk n P) {ss : List Step} {m : Nat} {x : List Rat} (hm : m < P.modes.length) (hs : StepsOk n c e P ss) (hx : x.length = n) (h : PlcSz P b m x ss) : (lastM P m x ss).1 < P.modes.length ∧ (lastM P m x ss).2.length = n ∧ ∀ y ∈ (lastM P m x ss).2, Sz b y :=
  placesM_ok hP ss m x hm hs hx h _ (List.mem_of_getLast? (placesM_last P ss m x))
theorem noL_plcD {p : Plc} : noL (plcD p) = true := by unfold plcD; simp [noL, noLs, noL_ptD]
def safeAt (P : Pl) (wi : List (List Bd)) (m : Nat) (x : List Rat) (ss : List Step) (j : Nat) : Bool := match (placesM P m x ss)[j]?, ss[j]? with
  | some p, some s => safeM P wi p.1 p.2 s.2
  | _, _ => true
def firstBad (P : Pl) (wi : List (List Bd)) (m : Nat) (x : List Rat) (ss : List Step) : Option Nat := (List.range ss.length).find? fun j => !safeAt P wi m x ss j
section
variable {k : Nat} {μ : Store}
theorem r_is_place {n : Nat} {P : Pl} (hP : PlOk n P) (m : Nat) (hm : m < P.modes.length) (x : List Rat) (hx : x.length = n) : Py.run fs Γ (k + 3) f_is_place [plD P, .int m, ptD x] μ = some (.bl true, μ) := by
  have hn : n ≤ 1000 := by rcases hP.hn with h | h <;> omega
  have hc : ∀ x3 : Option SV, ev (Py.run fs Γ (k + 2)) Γ c1_is_place [some (.val (plD P)), some (.val (.int m)), some (.val (ptD x)), x3] μ = some (.lst ((x.filter fun _ => false).map fun _ => .int 1), μ) := by
    intro x3
    rw [c1_is_place]
    refine ev_lc_filter (g := rD) x (by simp -implicitDefEqProofs [ptD]) (by omega) fun y _ => ?_
    have g := r_is_ratio (k := k) (μ := μ) y
    exact ⟨[some (.val (plD P)), some (.val (.int m)), some (.val (ptD x)), some (.val (rD y))], by simp, by simp -implicitDefEqProofs [g], fun h => by cases h⟩
  have hz : (x.filter fun _ => false) = [] := by simp
  rw [hz] at hc
  have tx : ∀ μ : Store, itsS μ (ptD x) = some (x.map rD) := fun _ => rfl
  have h1 : (0 : Int) ≤ m := by omega
  have h2 : (m : Int) < (P.modes.length : Int) := by omega
  have h3 : (x.length : Int) = (P.names.length : Int) := by rw [hx, hP.names]
  rw [u_is_place, b_is_place]
  simp -implicitDefEqProofs [pl2, at9_1, at9_2, tx, hc, eqS_int, h1, h2, h3, hm]
theorem sc_loop {n b c e : Nat} {P : Pl} (hP : PlOk n P) (hμ : scalS μ = true) (hz : b + 10 * (c + e + 1) + c + 10 ≤ 4000) (x1 x2 x3 x4 : Option SV) (ds : List D) : ∀ (ss : List Step) (m : Nat) (x : List Rat) (x6 x7 : Option SV), m < P.modes.length → x.length = n → StepsOk n c e P ss → PlcSz P b m x ss → RightS P m x ss →
    ∃ y6 y7, forS (T.tp [(T.nm 6), (T.nm 7)]) (fun env' μ' => exs (Py.run fs Γ (k + 11)) Γ l1_shows_course env' μ') (ss.map stepD ++ ds) [some (.val (plD P)), x1, x2, x3, x4, some (.val (plcD (m, x))), x6, x7] μ =
      forS (T.tp [(T.nm 6), (T.nm 7)]) (fun env' μ' => exs (Py.run fs Γ (k + 11)) Γ l1_shows_course env' μ') ds [some (.val (plD P)), x1, x2, x3, x4, some (.val (plcD (lastM P m x ss))), y6, y7] μ
  | [], m, x, x6, x7, _, _, _, _, _ => ⟨x6, x7, by simp [lastM]⟩
  | s :: r, m, x, x6, x7, hm, hx, hs, hp, hr => by
    have hB := hs s (by simp)
    obtain ⟨p1, p2, p3⟩ := placeM_ok hP hm hB hx hp.1
    obtain ⟨y6, y7, ih⟩ := sc_loop hP hμ hz x1 x2 x3 x4 ds r _ _ (some (.val (.int s.1))) (some (.val (beatD s.2))) p1 p2 (fun t ht => hs t (by simp [ht])) hp.2 hr.2.2
    refine ⟨y6, y7, ?_⟩
    rw [lastM, ← ih, List.map_cons, List.cons_append]
    have g1 := r_is_beat (k := k) (μ := μ) hP hm hr.1 hμ x hx hp.1 s.2 hB hr.2.1 (by omega)
    have g2 := r_end_of (k := k + 5) (μ := μ) hP hB hμ m x hx hp.1 (by omega)
    have h1 : (0 : Int) ≤ s.1 := by omega
    have h2 : (s.1 : Int) < (P.cmds.length : Int) := by have := hr.1; omega
    have tp : ∀ μ : Store, itsS μ (plcD (m, x)) = some [.int (m : Int), ptD x] := fun _ => rfl
    refine forS_go (env1 := [some (.val (plD P)), x1, x2, x3, x4, some (.val (plcD (m, x))), some (.val (.int s.1)), some (.val (beatD s.2))]) (by unfold stepD; simp) ?_
    simp -implicitDefEqProofs [l1_shows_course, pl2, at9_3, tp, at2_0, at2_1, h1, h2, g1, g2, hr.1]
theorem r_shows_course {n b c e : Nat} {P : Pl} (hP : PlOk n P) (hμ : scalS μ = true) (hz : b + 10 * (c + e + 1) + c + 10 ≤ 4000) (m : Nat) (hm : m < P.modes.length) (x : List Rat) (hx : x.length = n) (ss : List Step) (hs : StepsOk n c e P ss) (hp : PlcSz P b m x ss) (hr : RightS P m x ss) :
    Py.run fs Γ (k + 12) f_shows_course [plD P, .int m, courseD x ss] μ = some (.bl true, μ) := by
  obtain ⟨y6, y7, g⟩ := sc_loop (k := k) (μ := μ) hP hμ hz (some (.val (.int m))) (some (.val (courseD x ss))) (some (.val (ptD x))) (some (.val (.tup (ss.map stepD)))) [] ss m x none none hm hx hs hp hr
  rw [List.append_nil, forS_nil] at g
  have g0 := r_is_place (k := k + 8) (μ := μ) hP m hm x hx
  have hpd : plcD (m, x) = .tup [.int (m : Int), ptD x] := rfl
  rw [hpd] at g
  rw [u_shows_course, b_shows_course]
  unfold courseD at g ⊢
  simp -implicitDefEqProofs [ex_for, g0, szle, g]
/-- a course with a bad step is refused -/
theorem r_shows_bad {n b c e : Nat} {P : Pl} (hP : PlOk n P) (hμ : scalS μ = true) (hz : b + 10 * (c + e + 1) + c + 10 ≤ 4000) (m : Nat) (hm : m < P.modes.length) (x : List Rat) (hx : x.length = n) (ss : List Step) (hs : StepsOk n c e P ss) (hp : PlcSz P b m x ss) (hr : RightS P m x ss) (cz : Int) (bd : D) (ds : List D)
    (hbad : (cz < 0 ∨ (P.cmds.length : Int) ≤ cz) ∨ (0 ≤ cz ∧ cz < (P.cmds.length : Int) ∧ Py.run fs Γ (k + 11) f_is_beat [plD P, .int (lastM P m x ss).1, .int cz, ptD (lastM P m x ss).2, bd] μ = some (.bl false, μ))) :
    Py.run fs Γ (k + 12) f_shows_course [plD P, .int m, .tup [ptD x, .tup (ss.map stepD ++ .tup [.int cz, bd] :: ds)]] μ = some (.bl false, μ) := by
  obtain ⟨y6, y7, g⟩ := sc_loop (k := k) (μ := μ) hP hμ hz (some (.val (.int m))) (some (.val (.tup [ptD x, .tup (ss.map stepD ++ .tup [.int cz, bd] :: ds)]))) (some (.val (ptD x))) (some (.val (.tup (ss.map stepD ++ .tup [.int cz, bd] :: ds)))) (.tup [.int cz, bd] :: ds) ss m x none none hm hx hs hp hr
  have g0 := r_is_place (k := k + 8) (μ := μ) hP m hm x hx
  have hpd : plcD (m, x) = .tup [.int (m : Int), ptD x] := rfl
  have tp : ∀ μ : Store, itsS μ (plcD (lastM P m x ss)) = some [.int ((lastM P m x ss).1 : Int), ptD (lastM P m x ss).2] := fun _ => rfl
  have e1 : forS (T.tp [(T.nm 6), (T.nm 7)]) (fun env' μ' => exs (Py.run fs Γ (k + 11)) Γ l1_shows_course env' μ') (.tup [.int cz, bd] :: ds) [some (.val (plD P)), some (.val (.int m)), some (.val (.tup [ptD x, .tup (ss.map stepD ++ .tup [.int cz, bd] :: ds)])), some (.val (ptD x)), some (.val (.tup (ss.map stepD ++ .tup [.int cz, bd] :: ds))), some (.val (plcD (lastM P m x ss))), y6, y7] μ = some (.rt (.bl false) μ) := by
    refine forS_rt (env1 := [some (.val (plD P)), some (.val (.int m)), some (.val (.tup [ptD x, .tup (ss.map stepD ++ .tup [.int cz, bd] :: ds)])), some (.val (ptD x)), some (.val (.tup (ss.map stepD ++ .tup [.int cz, bd] :: ds))), some (.val (plcD (lastM P m x ss))), some (.val (.int cz)), some (.val bd)]) (by simp) ?_
    rcases hbad with (h | h) | ⟨h1, h2, h3⟩
    · have h' : ¬ 0 ≤ cz := by omega
      simp -implicitDefEqProofs [l1_shows_course, pl2, at9_3, h']
    · have h1 : 0 ≤ cz := by omega
      have h' : ¬ cz < (P.cmds.length : Int) := by omega
      simp -implicitDefEqProofs [l1_shows_course, pl2, at9_3, h1, h']
    · simp -implicitDefEqProofs [l1_shows_course, pl2, at9_3, h1, h2, tp, at2_0, at2_1, h3]
  rw [e1, hpd] at g
  rw [u_shows_course, b_shows_course]
  simp -implicitDefEqProofs [ex_for, g0, szle, g]
theorem r_shows_mode {n : Nat} {P : Pl} (hP : PlOk n P) (x : List Rat) (sd : D) : Py.run fs Γ (k + 4) f_shows_course [plD P, .int P.modes.length, .tup [ptD x, sd]] μ = some (.bl false, μ) := by
  have g : Py.run fs Γ (k + 3) f_is_place [plD P, .int P.modes.length, ptD x] μ = some (.bl false, μ) := by
    have h1 : (0 : Int) ≤ P.modes.length := by omega
    rw [u_is_place, b_is_place]
    simp -implicitDefEqProofs [pl2, at9_2, h1]
  rw [u_shows_course, b_shows_course]
  simp -implicitDefEqProofs [g]
theorem r_shows_dim {n : Nat} {P : Pl} (hP : PlOk n P) (m : Nat) (hm : m < P.modes.length) (xd : List D) (hx : xd.length ≠ n) (sd : D) : Py.run fs Γ (k + 4) f_shows_course [plD P, .int m, .tup [.tup xd, sd]] μ = some (.bl false, μ) := by
  have g : Py.run fs Γ (k + 3) f_is_place [plD P, .int m, .tup xd] μ = some (.bl false, μ) := by
    have h1 : (0 : Int) ≤ m := by omega
    have h2 : (m : Int) < (P.modes.length : Int) := by omega
    have h3 : ¬ (xd.length : Int) = (P.names.length : Int) := by rw [hP.names]; omega
    rw [u_is_place, b_is_place]
    simp -implicitDefEqProofs [pl2, at9_1, at9_2, h1, h2, h3, hm, eqS_int]
  rw [u_shows_course, b_shows_course]
  simp -implicitDefEqProofs [g]
theorem rp_loop {n b c e : Nat} {P : Pl} (hP : PlOk n P) (hμ : scalS μ = true) (hz : b + 5 * (c + e + 1) + c + 1 ≤ 8999) (x1 x2 x3 x4 : Option SV) : ∀ (ss : List Step) (l : List Plc) (m : Nat) (x : List Rat) (x6 x7 : Option SV), l.getLast? = some (m, x) → m < P.modes.length → x.length = n → StepsOk n c e P ss → PlcSz P b m x ss → l.length + ss.length ≤ 1000 →
    ∃ y6 y7, forS (T.tp [(T.nm 6), (T.nm 7)]) (fun env' μ' => exs (Py.run fs Γ (k + 6)) Γ l1_replayed env' μ') (ss.map stepD) [some (.val (plD P)), x1, x2, x3, x4, some (.own (l.map plcD)), x6, x7] μ =
      some (.nx [some (.val (plD P)), x1, x2, x3, x4, some (.own ((l ++ (placesM P m x ss).tail).map plcD)), y6, y7] μ)
  | [], l, m, x, x6, x7, _, _, _, _, _, _ => ⟨x6, x7, by simp [forS_nil, placesM]⟩
  | s :: r, l, m, x, x6, x7, hl, hm, hx, hs, hp, hc => by
    rw [List.length_cons] at hc
    have hB := hs s (by simp)
    obtain ⟨p1, p2, p3⟩ := placeM_ok hP hm hB hx hp.1
    obtain ⟨y6, y7, ih⟩ := rp_loop hP hμ hz x1 x2 x3 x4 r (l ++ [placeM P m x s.2]) _ _ (some (.val (.int s.1))) (some (.val (beatD s.2))) (by simp) p1 p2 (fun t ht => hs t (by simp [ht])) hp.2 (by simp; omega)
    refine ⟨y6, y7, ?_⟩
    have e1 : l ++ (placesM P m x (s :: r)).tail = l ++ [placeM P m x s.2] ++ (placesM P (placeM P m x s.2).1 (placeM P m x s.2).2 r).tail := by
      rw [placesM, List.tail_cons, List.append_assoc, List.singleton_append]
      congr 1
      exact placesM_cons P _ _ r
    rw [e1, ← ih, List.map_cons]
    have hat : atI (l.map plcD) (-1) = some (plcD (m, x)) := atI_last hl
    have tp : ∀ μ : Store, itsS μ (plcD (m, x)) = some [.int (m : Int), ptD x] := fun _ => rfl
    have hlt : l.length < 16777216 := by omega
    have g := r_end_of (k := k) (μ := μ) hP hB hμ m x hx hp.1 hz
    refine forS_go (env1 := [some (.val (plD P)), x1, x2, x3, x4, some (.own (l.map plcD)), some (.val (.int s.1)), some (.val (beatD s.2))]) (by unfold stepD; simp) ?_
    simp -implicitDefEqProofs [l1_replayed, ev_bor, hat, tp, at2_0, at2_1, g, noL_plcD, hμ, szlt, hlt]
theorem r_replayed {n b c e : Nat} {P : Pl} (hP : PlOk n P) (hμ : scalS μ = true) (hz : b + 5 * (c + e + 1) + c + 1 ≤ 8999) (m : Nat) (hm : m < P.modes.length) (x : List Rat) (hx : x.length = n) (ss : List Step) (hs : StepsOk n c e P ss) (hp : PlcSz P b m x ss) (hl : ss.length ≤ 500) :
    Py.run fs Γ (k + 7) f_replayed [plD P, .int m, courseD x ss] μ = some (.lst ((placesM P m x ss).map plcD), μ) := by
  obtain ⟨y6, y7, g⟩ := rp_loop (k := k) (μ := μ) hP hμ hz (some (.val (.int m))) (some (.val (courseD x ss))) (some (.val (ptD x))) (some (.val (.tup (ss.map stepD)))) ss [(m, x)] m x none none rfl hm hx hs hp (by simp; omega)
  rw [List.singleton_append, ← placesM_cons] at g
  have hpd : plcD (m, x) = .tup [.int (m : Int), ptD x] := rfl
  rw [List.map_cons, List.map_nil, hpd] at g
  rw [u_replayed, b_replayed]
  unfold courseD at g ⊢
  simp -implicitDefEqProofs [ex_for, szle, g]
theorem lp_loop {n b c e : Nat} {P : Pl} (hP : PlOk n P) (hμ : scalS μ = true) (hz : b + 5 * (c + e + 1) + c + 3 ≤ 8999) (x1 x2 : Option SV) : ∀ (ss : List Step) (l : List Plc) (m : Nat) (x : List Rat) (x4 x5 : Option SV), l.getLast? = some (m, x) → m < P.modes.length → x.length = n → StepsOk n c e P ss → PlcSz P b m x ss → l.length + ss.length ≤ 1000 →
    ∃ y4 y5, forS (T.tp [(T.nm 4), (T.nm 5)]) (fun env' μ' => exs (Py.run fs Γ (k + 5)) Γ l1__law_places env' μ') (ss.map stepD) [some (.val (plD P)), x1, x2, some (.own (l.map plcD)), x4, x5] μ =
      some (.nx [some (.val (plD P)), x1, x2, some (.own ((l ++ (placesM P m x ss).tail).map plcD)), y4, y5] μ)
  | [], l, m, x, x4, x5, _, _, _, _, _, _ => ⟨x4, x5, by simp [forS_nil, placesM]⟩
  | s :: r, l, m, x, x4, x5, hl, hm, hx, hs, hp, hc => by
    rw [List.length_cons] at hc
    have hB := hs s (by simp)
    obtain ⟨p1, p2, p3⟩ := placeM_ok hP hm hB hx hp.1
    obtain ⟨y4, y5, ih⟩ := lp_loop hP hμ hz x1 x2 r (l ++ [placeM P m x s.2]) _ _ (some (.val (.int s.1))) (some (.val (beatD s.2))) (by simp) p1 p2 (fun t ht => hs t (by simp [ht])) hp.2 (by simp; omega)
    refine ⟨y4, y5, ?_⟩
    have e1 : l ++ (placesM P m x (s :: r)).tail = l ++ [placeM P m x s.2] ++ (placesM P (placeM P m x s.2).1 (placeM P m x s.2).2 r).tail := by
      rw [placesM, List.tail_cons, List.append_assoc, List.singleton_append]
      congr 1
      exact placesM_cons P _ _ r
    rw [e1, ← ih, List.map_cons]
    have hat : atI (l.map plcD) (-1) = some (plcD (m, x)) := atI_last hl
    have tp : ∀ μ : Store, itsS μ (plcD (m, x)) = some [.int (m : Int), ptD x] := fun _ => rfl
    have hlt : l.length < 16777216 := by omega
    have g := r_lend (k := k) (μ := μ) hP hB hμ m x hx hp.1 hz
    refine forS_go (env1 := [some (.val (plD P)), x1, x2, some (.own (l.map plcD)), some (.val (.int s.1)), some (.val (beatD s.2))]) (by unfold stepD; simp) ?_
    simp -implicitDefEqProofs [l1__law_places, ev_bor, hat, tp, at2_0, at2_1, g, noL_plcD, hμ, szlt, hlt]
theorem r_lplaces {n b c e : Nat} {P : Pl} (hP : PlOk n P) (hμ : scalS μ = true) (hz : b + 5 * (c + e + 1) + c + 3 ≤ 8999) (m : Nat) (hm : m < P.modes.length) (x : List Rat) (hx : x.length = n) (ss : List Step) (hs : StepsOk n c e P ss) (hp : PlcSz P b m x ss) (hl : ss.length ≤ 500) :
    Py.run fs Γ (k + 6) f__law_places [plD P, .int m, courseD x ss] μ = some (.lst ((placesM P m x ss).map plcD), μ) := by
  obtain ⟨y6, y7, g⟩ := lp_loop (k := k) (μ := μ) hP hμ hz (some (.val (.int m))) (some (.val (courseD x ss))) ss [(m, x)] m x none none rfl hm hx hs hp (by simp; omega)
  rw [List.singleton_append, ← placesM_cons] at g
  have hpd : plcD (m, x) = .tup [.int (m : Int), ptD x] := rfl
  rw [List.map_cons, List.map_nil, hpd] at g
  have tc : ∀ μ : Store, itsS μ (courseD x ss) = some [ptD x, .tup (ss.map stepD)] := fun _ => rfl
  rw [u__law_places, b__law_places]
  simp -implicitDefEqProofs [ex_for, szle, tc, at2_0, at2_1, g]
theorem r_first_bad {n b c e : Nat} {P : Pl} {wi : List (List Bd)} (hP : PlOk n P) (hW : StOk n P wi) (hμ : scalS μ = true) (hz : b + 5 * (c + e + 1) + c + 1 ≤ 4000) (m : Nat) (hm : m < P.modes.length) (x : List Rat) (hx : x.length = n) (ss : List Step) (hs : StepsOk n c e P ss) (hp : PlcSz P b m x ss) (hl : ss.length ≤ 500) :
    Py.run fs Γ (k + 11) f_first_bad_step [plD P, wiD wi, .int m, courseD x ss] μ = some ((match firstBad P wi m x ss with | none => .non | some j => .tup [.int (j : Int), plcD ((placesM P m x ss).getD j (0, []))]), μ) := by
  have g0 := r_replayed (k := k + 3) (μ := μ) hP hμ (by omega) m hm x hx ss hs hp hl
  have tc : ∀ μ : Store, itsS μ (courseD x ss) = some [ptD x, .tup (ss.map stepD)] := fun _ => rfl
  have hr := rngS_map (n := ss.length) (by omega)
  have hpl := placesM_length P ss m x
  have hpo := placesM_ok hP ss m x hm hs hx hp
  rw [u_first_bad_step, b_first_bad_step]
  unfold firstBad
  rcases forS_find (t := T.nm 5) (b := fun env' μ' => exs (Py.run fs Γ (k + 10)) Γ l1_first_bad_step env' μ') (μ := μ) (fun j : Nat => D.int (j : Int)) (fun j : Nat => D.tup [.int (j : Int), plcD ((placesM P m x ss).getD j (0, []))]) (fun j => !safeAt P wi m x ss j)
    (fun env => ∃ x5 x6 x7, env = [some (.val (plD P)), some (.val (wiD wi)), some (.val (.int m)), some (.val (courseD x ss)), some (.val (.lst ((placesM P m x ss).map plcD))), x5, x6, x7]) (List.range ss.length) [some (.val (plD P)), some (.val (wiD wi)), some (.val (.int m)), some (.val (courseD x ss)), some (.val (.lst ((placesM P m x ss).map plcD))), none, none, none] ⟨none, none, none, rfl⟩ (by
      rintro j hj env ⟨x5, x6, x7, rfl⟩
      have hj1 := List.mem_range.mp hj
      have hj2 : j < (placesM P m x ss).length := by omega
      obtain ⟨p1, p2, p3⟩ := hpo _ (List.getElem_mem hj2)
      have a1 : atI ((placesM P m x ss).map plcD) (j : Int) = some (plcD (placesM P m x ss)[j]) := atI_map hj2
      have a2 : atI (ss.map stepD) (j : Int) = some (stepD ss[j]) := atI_map hj1
      have tp : plcD (placesM P m x ss)[j] = .tup [.int ((placesM P m x ss)[j].1 : Int), ptD (placesM P m x ss)[j].2] := rfl
      have ts : ∀ μ : Store, itsS μ (stepD ss[j]) = some [.int (ss[j].1 : Int), beatD ss[j].2] := fun _ => rfl
      have g := r_is_safe_beat (k := k) (μ := μ) hP hW (hs _ (List.getElem_mem hj1)) hμ _ p1 _ p2 p3 hz
      have hv : safeAt P wi m x ss j = safeM P wi (placesM P m x ss)[j].1 (placesM P m x ss)[j].2 ss[j].2 := by
        unfold safeAt; rw [List.getElem?_eq_getElem hj2, List.getElem?_eq_getElem hj1]
      have hd : (placesM P m x ss).getD j (0, []) = (placesM P m x ss)[j] := by simp [List.getD_eq_getElem?_getD, List.getElem?_eq_getElem hj2]
      rw [← hv] at g
      refine ⟨[some (.val (plD P)), some (.val (wiD wi)), some (.val (.int m)), some (.val (courseD x ss)), some (.val (.lst ((placesM P m x ss).map plcD))), some (.val (.int j)), x6, x7], by simp, fun hq => ?_, fun hq => ⟨[some (.val (plD P)), some (.val (wiD wi)), some (.val (.int m)), some (.val (courseD x ss)), some (.val (.lst ((placesM P m x ss).map plcD))), some (.val (.int j)), some (.val (.int ((placesM P m x ss)[j].1 : Int))), some (.val (ptD (placesM P m x ss)[j].2))], .inl ?_, _, _, _, rfl⟩⟩
      · rw [Bool.not_eq_true'] at hq
        rw [hq] at g
        rw [hd, tp]
        rw [tp] at a1
        simp -implicitDefEqProofs [l1_first_bad_step, a1, tc, at2_0, at2_1, a2, ts, g, szle]
      · rw [Bool.not_eq_false'] at hq
        rw [hq] at g
        rw [tp] at a1
        simp -implicitDefEqProofs [l1_first_bad_step, a1, tc, at2_0, at2_1, a2, ts, g, szle]) with ⟨j, hj, hf, e1⟩ | ⟨hf, env', e1, x5, x6, x7, rfl⟩
  · rw [hf]
    simp -implicitDefEqProofs [ex_for, g0, tc, at2_1, hr, e1]
  · rw [hf]
    simp -implicitDefEqProofs [ex_for, g0, tc, at2_1, hr, e1]
theorem r_is_safe_course {n b c e : Nat} {P : Pl} {wi : List (List Bd)} (hP : PlOk n P) (hW : StOk n P wi) (hμ : scalS μ = true) (hz : b + 5 * (c + e + 1) + c + 1 ≤ 4000) (m : Nat) (hm : m < P.modes.length) (x : List Rat) (hx : x.length = n) (ss : List Step) (hs : StepsOk n c e P ss) (hp : PlcSz P b m x ss) (hl : ss.length ≤ 500) :
    Py.run fs Γ (k + 12) f_is_safe_course [plD P, wiD wi, .int m, courseD x ss] μ = some (.bl (firstBad P wi m x ss).isNone, μ) := by
  have g := r_first_bad (k := k) (μ := μ) hP hW hμ hz m hm x hx ss hs hp hl
  rw [u_is_safe_course, b_is_safe_course]
  cases hf : firstBad P wi m x ss with
  | none =>
    rw [hf] at g
    simp -implicitDefEqProofs [g, n2]
  | some j =>
    rw [hf] at g
    simp -implicitDefEqProofs [g, Py.isNon]
theorem r_first_steps (x : List Rat) (ss : List Step) (j : Nat) : Py.run fs Γ (k + 1) f_first_steps [courseD x ss, .int j] μ = some (courseD x (ss.take j), μ) := by
  have tc : ∀ μ : Store, itsS μ (courseD x ss) = some [ptD x, .tup (ss.map stepD)] := fun _ => rfl
  rw [u_first_steps, b_first_steps]
  unfold courseD at tc ⊢
  simp -implicitDefEqProofs [tc, at2_0, at2_1, cutS_take, szle, List.map_take]
end
end P19
end
section
set_option Elab.async false
set_option linter.all false
set_option maxRecDepth 100000
set_option maxHeartbeats 0
namespace P19
open PySem L2 Py Geo FM
/-! ### when a stay is left -/
def leastM (f : Rat) (l : List Rat) : Rat := l.foldl (fun f t => if t < f then t else f) f
def best : List Rat → Option Rat
  | [] => none
  | t :: r => some (leastM t r)
def oR : Option Rat → D
  | none => .non
  | some t => rD t
def exitT (x y : List Rat) (sp : Rat) (B : Bd) : Rat := sp * (B.val x / (B.val x - B.val y))
def exits (bs : List Bd) (x y : List Rat) (sp : Rat) : List Rat := (bs.filter fun B => !keepsB B y).map (exitT x y sp)
def timeE (bs : List Bd) : Rat → List Rat → List Seg → Option Rat
  | _, _, [] => none
  | now, x, s :: r => match best (exits bs x (movedM x s.2 s.1) s.1) with
    | some t => some (now + t)
    | none => timeE bs (now + s.1) (movedM x s.2 s.1) r
theorem exits_nil {bs : List Bd} {x y : List Rat} {sp : Rat} : best (exits bs x y sp) = none ↔ hasB bs y = true := by
  unfold exits hasB
  rw [none_left]
  cases h : bs.filter fun B => !keepsB B y with
  | nil => simp [best]
  | cons a l => simp [best]
theorem dot_moved : ∀ (f x r : List Rat) (t : Rat), x.length = r.length → f.length = x.length → dot f (movedM x r t) = dot f x + t * dot f r
  | [], _, _, _, _, _ => by simp [dot, Rat.mul_zero, Rat.add_zero]
  | a :: f, y :: x, z :: r, t, h1, h2 => by
    have ih := dot_moved f x r t (by simpa using h1) (by simpa using h2)
    have e : movedM (y :: x) (z :: r) t = (y + z * t) :: movedM x r t := rfl
    rw [e]
    simp only [dot, ih]
    grind
  | _ :: _, [], _, _, _, h => by simp at h
  | _ :: _, _ :: _, [], _, h, _ => by simp at h
theorem val_moved (B : Bd) (x r : List Rat) (t : Rat) (h1 : x.length = r.length) (h2 : B.f.length = x.length) : B.val (movedM x r t) = B.val x + t * dot B.f r := by
  unfold Bd.val; rw [dot_moved _ _ _ _ h1 h2]; grind
theorem not_keeps {B : Bd} {y : List Rat} (h : keepsB B y = false) : B.val y ≤ 0 ∧ (B.s = false → B.val y < 0) := by
  unfold keepsB okb at h
  generalize B.val y = v at *
  cases hs : B.s <;> rw [hs] at h <;> simp at h
  · exact ⟨by grind, fun _ => by grind⟩
  · exact ⟨by grind, fun h' => by cases h'⟩
theorem keeps_val {B : Bd} {x : List Rat} (h : keepsB B x = true) : 0 ≤ B.val x ∧ (B.s = true → 0 < B.val x) := by
  unfold keepsB okb at h
  generalize B.val x = v at *
  cases hs : B.s <;> rw [hs] at h <;> simp at h
  · exact ⟨h, fun h' => by cases h'⟩
  · exact ⟨by grind, fun _ => h⟩
theorem fall_pos {B : Bd} {x y : List Rat} (h1 : keepsB B x = true) (h2 : keepsB B y = false) : 0 < B.val x - B.val y := by
  obtain ⟨a1, a2⟩ := not_keeps h2
  obtain ⟨b1, b2⟩ := keeps_val h1
  cases hs : B.s with
  | true => have := b2 hs; grind
  | false => have := a2 hs; grind
theorem exit_le {B : Bd} {x y : List Rat} {sp : Rat} (h1 : keepsB B x = true) (h2 : keepsB B y = false) (hs : 0 < sp) : exitT x y sp B ≤ sp := by
  have hf := fall_pos h1 h2
  obtain ⟨a1, _⟩ := not_keeps h2
  unfold exitT
  generalize B.val x = v at *
  generalize B.val y = w at *
  have hle : v / (v - w) ≤ 1 := by
    rw [Rat.div_def]
    have hinv : 0 < (v - w)⁻¹ := Rat.inv_pos.mpr hf
    have h3 : v * (v - w)⁻¹ ≤ (v - w) * (v - w)⁻¹ := Rat.mul_le_mul_of_nonneg_right (by grind) (Rat.le_of_lt hinv)
    rw [Rat.mul_inv_cancel _ (by grind)] at h3
    exact h3
  have := Rat.mul_le_mul_of_nonneg_left hle (Rat.le_of_lt hs)
  rw [Rat.mul_one] at this
  exact this
theorem least_from {l : List Rat} {sp : Rat} (h : ∀ t ∈ l, t ≤ sp) (hne : l ≠ []) : best l = some (leastM sp l) := by
  cases l with
  | nil => exact absurd rfl hne
  | cons t r =>
    unfold best leastM
    rw [List.foldl_cons]
    have := h t (by simp)
    by_cases c : t < sp
    · rw [if_pos c]
    · have : t = sp := by grind
      rw [if_neg c, this]
theorem leastM_sz {b : Nat} : ∀ (l : List Rat) (f : Rat), Sz b f → (∀ t ∈ l, Sz b t) → Sz b (leastM f l)
  | [], _, h, _ => h
  | t :: r, f, h, hl => by
    unfold leastM
    rw [List.foldl_cons]
    have := leastM_sz r (if t < f then t else f) (by split; exact hl t (by simp); exact h) (fun u hu => hl u (by simp [hu]))
    exact this
section
variable {k : Nat} {μ : Store}
theorem r_crossing {b1 b2 : Nat} (B : Bd) (v w : Rat) (hv : Sz b1 v) (hw : Sz b2 w) (h1 : 0 ≤ v ∧ (B.s = true → 0 < v)) (h2 : w < 0) (hn : b1 + b2 + 2 ≤ 8999) : Py.run fs Γ (k + 4) f_crossing [bdD B, rD v, rD w] μ = some (rD (v / (-w)), μ) := by
  have g1 := r_compare (k := k + 2) (μ := μ) v 0 hv (sz_zero (b := 1) (by decide)) (by omega)
  have g2 := r_compare (k := k + 2) (μ := μ) w 0 hw (sz_zero (b := 1) (by decide)) (by omega)
  have g3 := r_opposite (k := k + 2) (μ := μ) w
  have hw0 : -w ≠ 0 := by grind
  have g4 := r_over (k := k) (μ := μ) v (-w) hw0 hv hw.neg (by omega)
  have t0 : itsS μ (bdD B) = some [.tup (B.f.map rD), rD B.r, .bl B.s] := rfl
  unfold sgn at g1 g2
  rw [if_pos h2] at g2
  have c1 : ¬ v < 0 := by grind
  rw [if_neg c1] at g1
  rw [rD_zero] at g1 g2
  rw [u_crossing, b_crossing]
  by_cases c2 : 0 < v
  · rw [if_pos c2] at g1
    simp -implicitDefEqProofs [g1, g2, g3, g4, eqS_int, t0, at3_2]
  · rw [if_neg c2] at g1
    have hs : B.s = false := by cases h : B.s with | false => rfl | true => exact absurd (h1.2 h) c2
    simp -implicitDefEqProofs [g1, g2, g3, g4, eqS_int, t0, at3_2, hs]
theorem r_least_time {b : Nat} (f : Rat) (l : List Rat) (hf : Sz b f) (hl : ∀ t ∈ l, Sz b t) (hn : b + b ≤ 8999) (hc : l.length ≤ 1000) : Py.run fs Γ (k + 2) f_least_time [rD f, .lst (l.map rD)] μ = some (rD (leastM f l), μ) := by
  obtain ⟨env', e1, x3, rfl, _⟩ := forS_fold (t := T.nm 3) (b := fun env' μ' => exs (Py.run fs Γ (k + 1)) Γ l1_least_time env' μ') (μ := μ) rD (fun (f t : Rat) => if t < f then t else f)
    (fun i g env => ∃ x3, env = [some (.val (rD f)), some (.val (.lst (l.map rD))), some (.val (rD g)), x3] ∧ Sz b g) l 0 f [some (.val (rD f)), some (.val (.lst (l.map rD))), some (.val (rD f)), none] ⟨none, rfl, hf⟩ (by
      rintro t ht j g env _ _ ⟨x3, rfl, hg⟩
      have g1 := r_compare (k := k) (μ := μ) t g (hl t ht) hg hn
      have hk : Py.isNon (rD t) = false := rfl
      unfold sgn at g1
      refine ⟨[some (.val (rD f)), some (.val (.lst (l.map rD))), some (.val (rD g)), some (.val (rD t))], [some (.val (rD f)), some (.val (.lst (l.map rD))), some (.val (rD (if t < g then t else g))), some (.val (rD t))], by simp, .inl ?_, _, rfl, by split; exact hl t ht; exact hg⟩
      by_cases c : t < g
      · rw [if_pos c] at g1 ⊢
        simp -implicitDefEqProofs [l1_least_time, hk, g1]
      · rw [if_neg c] at g1 ⊢
        by_cases c2 : g < t
        · rw [if_pos c2] at g1
          simp -implicitDefEqProofs [l1_least_time, hk, g1]
        · rw [if_neg c2] at g1
          simp -implicitDefEqProofs [l1_least_time, hk, g1])
  rw [u_least_time, b_least_time]
  unfold leastM
  simp -implicitDefEqProofs [ex_for, e1]
/-- sizes: points of size c, rates of size a, spans of size e -/
structure SegSz (n a c e : Nat) (x r : List Rat) (sp : Rat) : Prop where
  hn : n = 1 ∨ n = 2
  hx : x.length = n
  hr : r.length = n
  sx : ∀ y ∈ x, Sz c y
  sr : ∀ y ∈ r, Sz a y
  ss : Sz e sp
  pos : 0 < sp
  le : c + (a + e) + 1 ≤ 500
theorem SegSz.mv {n a c e : Nat} {x r : List Rat} {sp : Rat} (h : SegSz n a c e x r sp) : (movedM x r sp).length = n ∧ ∀ y ∈ movedM x r sp, Sz (c + (a + e) + 1) y := ⟨by rw [movedM_length (by rw [h.hx, h.hr])]; exact h.hx, movedM_sz h.sx h.sr h.ss⟩
theorem val_sz {n c : Nat} {B : Bd} {x : List Rat} (hn : n = 1 ∨ n = 2) (hB : B.f.length = n ∧ BSz 4 B) (hx : x.length = n) (h : ∀ y ∈ x, Sz c y) (hc : c ≤ 4000) : Sz (4 + 2 * (4 + c + 1)) (B.val x) := by
  have g := (r_lheight (k := 0) (μ := []) B x hB.2 h (by rw [hB.1, hx]) (by rw [hx]; rcases hn with rfl | rfl <;> omega)).2
  refine g.mono ?_
  rw [hx]; rcases hn with rfl | rfl <;> omega
theorem exit_sz {n a c e : Nat} {x r : List Rat} {sp : Rat} (h : SegSz n a c e x r sp) {B : Bd} (hB : B.f.length = n ∧ BSz 4 B) (h1 : keepsB B x = true) (h2 : keepsB B (movedM x r sp) = false) : Sz 4000 (exitT x (movedM x r sp) sp B) := by
  have s1 := val_sz h.hn hB h.hx h.sx (by have := h.le; omega)
  have s2 := val_sz h.hn hB h.mv.1 h.mv.2 (by have := h.le; omega)
  have hf := fall_pos h1 h2
  unfold exitT
  have hle := h.le
  exact (h.ss.mul (s1.div (s1.sub s2) (by grind))).mono (by omega)
theorem r_time_in_segment {n a c e : Nat} {x r : List Rat} {sp : Rat} (h : SegSz n a c e x r sp) {bs : List Bd} (hb : GOk n bs) (hk : hasB bs x = true) : Py.run fs Γ (k + 8) f_time_in_segment [bsD bs, ptD x, rD sp, ptD r] μ = some (oR (best (exits bs x (movedM x r sp) sp)), μ) := by
  have hn : n ≤ 1000 := by rcases h.hn with h | h <;> omega
  have hle := h.le
  have g0 := r_moved (k := k + 3) (μ := μ) x r sp h.hx h.hr hn h.sx h.sr h.ss (by omega)
  have hk' := List.all_eq_true.mp hk
  have key : ∀ (l : List Bd) (acc : List Rat) (x6 : Option SV), (∀ B ∈ l, B ∈ bs) → acc.length + l.length ≤ 1000 → ∃ y6, forS (T.nm 6) (fun env' μ' => exs (Py.run fs Γ (k + 7)) Γ l1_time_in_segment env' μ') (l.map bdD) [some (.val (bsD bs)), some (.val (ptD x)), some (.val (rD sp)), some (.val (ptD r)), some (.val (ptD (movedM x r sp))), some (.own (acc.map rD)), x6] μ =
      some (.nx [some (.val (bsD bs)), some (.val (ptD x)), some (.val (rD sp)), some (.val (ptD r)), some (.val (ptD (movedM x r sp))), some (.own ((acc ++ exits l x (movedM x r sp) sp).map rD)), y6] μ) := by
    intro l
    induction l with
    | nil => intro acc x6 _ _; exact ⟨x6, by simp [forS_nil, exits]⟩
    | cons B l ih =>
      intro acc x6 hl hc
      rw [List.length_cons] at hc
      have hB := hl B (by simp)
      obtain ⟨i1, i2⟩ := hb.2 B hB
      have hkx := hk' B hB
      have g1 := r_keeps (k := k) (μ := μ) B (movedM x r sp) i2 h.mv.2 (by rw [i1]; rcases h.hn with rfl | rfl <;> omega)
      rw [List.map_cons]
      cases hq : keepsB B (movedM x r sp) with
      | true =>
        obtain ⟨y6, e1⟩ := ih acc (some (.val (bdD B))) (fun C hC => hl C (by simp [hC])) (by omega)
        refine ⟨y6, ?_⟩
        rw [hq] at g1
        have ee : exits (B :: l) x (movedM x r sp) sp = exits l x (movedM x r sp) sp := by unfold exits; rw [List.filter_cons, hq]; rfl
        rw [ee, ← e1]
        refine forS_go (env1 := [some (.val (bsD bs)), some (.val (ptD x)), some (.val (rD sp)), some (.val (ptD r)), some (.val (ptD (movedM x r sp))), some (.own (acc.map rD)), some (.val (bdD B))]) (by simp) ?_
        simp -implicitDefEqProofs [l1_time_in_segment, g1]
      | false =>
        obtain ⟨y6, e1⟩ := ih (acc ++ [exitT x (movedM x r sp) sp B]) (some (.val (bdD B))) (fun C hC => hl C (by simp [hC])) (by simp; omega)
        refine ⟨y6, ?_⟩
        rw [hq] at g1
        have ee : acc ++ exits (B :: l) x (movedM x r sp) sp = acc ++ [exitT x (movedM x r sp) sp B] ++ exits l x (movedM x r sp) sp := by unfold exits; rw [List.filter_cons, hq]; simp
        rw [ee, ← e1]
        obtain ⟨g2, s2⟩ := r_height (k := k + 1) (μ := μ) B x i2 h.sx (by rw [i1]; rcases h.hn with rfl | rfl <;> omega)
        obtain ⟨g3, s3⟩ := r_blended (k := k + 2) (μ := μ) B.f r i2.1 h.sr (by rw [i1]; rcases h.hn with rfl | rfl <;> omega)
        have hv := val_moved B x r sp (by rw [h.hx, h.hr]) (by rw [i1, h.hx])
        have hf := fall_pos hkx hq
        have hsl : dot B.f r < 0 := by
          refine Rat.not_le.mp fun hge => ?_
          have := Rat.mul_nonneg (Rat.le_of_lt h.pos) hge
          rw [hv] at hf
          grind
        have g4 := r_crossing (k := k + 3) (μ := μ) B (B.val x) (dot B.f r) s2 s3 (keeps_val hkx) hsl (by rw [i1]; rcases h.hn with rfl | rfl <;> omega)
        have hex : B.val x / (-dot B.f r) = exitT x (movedM x r sp) sp B := by
          unfold exitT
          rw [hv]
          generalize B.val x = v
          generalize dot B.f r = w at *
          have hp := h.pos
          have e1 : v - (v + sp * w) = sp * -w := by grind
          rw [e1, Rat.div_def, Rat.div_def, Rat.inv_mul_rev]
          have e2 : sp * sp⁻¹ = 1 := Rat.mul_inv_cancel _ (by grind)
          generalize (-w)⁻¹ = u at *
          generalize sp⁻¹ = q at *
          grind
        rw [hex] at g4
        have hlt : acc.length < 16777216 := by omega
        have t0 : ∀ μ : Store, itsS μ (bdD B) = some [.tup (B.f.map rD), rD B.r, .bl B.s] := fun _ => rfl
        have hpt : D.tup (r.map rD) = ptD r := rfl
        rw [hpt] at g3
        refine forS_go (env1 := [some (.val (bsD bs)), some (.val (ptD x)), some (.val (rD sp)), some (.val (ptD r)), some (.val (ptD (movedM x r sp))), some (.own (acc.map rD)), some (.val (bdD B))]) (by simp) ?_
        simp -implicitDefEqProofs [l1_time_in_segment, g1, g2, t0, at3_0, g3, g4, szlt, hlt]
  obtain ⟨y6, e1⟩ := key bs [] none (fun _ h => h) (by have := hb.1; simp; omega)
  rw [List.nil_append] at e1
  have hall : ∀ t ∈ exits bs x (movedM x r sp) sp, Sz 4000 t ∧ t ≤ sp := fun t ht => by
    obtain ⟨B, hB, rfl⟩ := List.mem_map.mp ht
    obtain ⟨hB1, hB2⟩ := List.mem_filter.mp hB
    rw [Bool.not_eq_true'] at hB2
    exact ⟨exit_sz h (hb.2 B hB1) (hk' B hB1) hB2, exit_le (hk' B hB1) hB2 h.pos⟩
  have hlen : (exits bs x (movedM x r sp) sp).length ≤ 10 := by
    unfold exits; rw [List.length_map]; exact Nat.le_trans (List.length_filter_le _ _) hb.1
  rw [List.map_nil] at e1
  rw [u_time_in_segment, b_time_in_segment]
  unfold bsD at e1 ⊢
  generalize hL : exits bs x (movedM x r sp) sp = L at *
  by_cases c : L = []
  · rw [c] at e1 ⊢
    simp -implicitDefEqProofs [ex_for, szle, g0, e1, eqS_int, best, oR]
  · have g5 := r_least_time (k := k + 5) (μ := μ) (b := 4000) sp L (h.ss.mono (by omega)) (fun t ht => (hall t ht).1) (by decide) (by omega)
    rw [least_from (fun t ht => (hall t ht).2) c]
    have hz : ¬ (L.length : Int) = 0 := by have := List.length_pos_iff.mpr c; omega
    simp -implicitDefEqProofs [ex_for, szle, g0, e1, eqS_int, c, hz, g5, oR]
end
end P19
end
section
set_option Elab.async false
set_option linter.all false
set_option maxRecDepth 100000
set_option maxHeartbeats 0
namespace P19
open PySem L2 Py Geo FM
/-- what a walk over segments asks of their sizes -/
structure WalkSz (n a c e : Nat) (ss : List Seg) (x : List Rat) : Prop where
  hn : n = 1 ∨ n = 2
  hx : x.length = n
  sx : ∀ y ∈ x, Sz c y
  ok : SegsOk n a e ss
  pos : ∀ s ∈ ss, 0 < s.1
  le : c + ss.length * (a + e + 1) ≤ 500
  len : ss.length ≤ 5
theorem WalkSz.seg {n a c e : Nat} {s : Seg} {r : List Seg} {x : List Rat} (h : WalkSz n a c e (s :: r) x) : SegSz n a c e x s.2 s.1 := by
  obtain ⟨h1, h2, h3⟩ := h.ok s (by simp)
  have := h.le
  rw [List.length_cons, Nat.succ_mul] at this
  exact ⟨h.hn, h.hx, h1, h.sx, h3, h2, h.pos s (by simp), by omega⟩
theorem WalkSz.next {n a c e : Nat} {s : Seg} {r : List Seg} {x : List Rat} (h : WalkSz n a c e (s :: r) x) : WalkSz n a (c + (a + e) + 1) e r (movedM x s.2 s.1) := by
  have hs := h.seg
  have h1 := h.le
  rw [List.length_cons, Nat.succ_mul] at h1
  have h2 := h.len
  rw [List.length_cons] at h2
  exact ⟨h.hn, hs.mv.1, hs.mv.2, fun t ht => h.ok t (by simp [ht]), fun t ht => h.pos t (by simp [ht]), by omega, by omega⟩
section
variable {k : Nat} {μ : Store}
theorem best_sz {n a c e : Nat} {x r : List Rat} {sp : Rat} (h : SegSz n a c e x r sp) {bs : List Bd} (hb : GOk n bs) (hk : hasB bs x = true) {t : Rat} (ht : best (exits bs x (movedM x r sp) sp) = some t) : Sz 4000 t := by
  have hk' := List.all_eq_true.mp hk
  have hall : ∀ t ∈ exits bs x (movedM x r sp) sp, Sz 4000 t := fun t ht => by
    obtain ⟨B, hB, rfl⟩ := List.mem_map.mp ht
    obtain ⟨hB1, hB2⟩ := List.mem_filter.mp hB
    rw [Bool.not_eq_true'] at hB2
    exact exit_sz h (hb.2 B hB1) (hk' B hB1) hB2
  generalize exits bs x (movedM x r sp) sp = L at *
  cases L with
  | nil => cases ht
  | cons t0 r0 =>
    unfold best at ht
    cases ht
    exact leastM_sz r0 t0 (hall t0 (by simp)) fun u hu => hall u (by simp [hu])
theorem tl_loop {n a e : Nat} {bs : List Bd} (hb : GOk n bs) (all : List Seg) (pts : List (List Rat)) (x0 x1 x2 x3 : Option SV) (hst : ∃ (m : Int) (w : D) (l1 l2 : List D), x1 = some (.val w) ∧ x2 = some (.val (.int m)) ∧ (∀ μ, itsS μ w = some l1) ∧ atI l1 0 = some (.tup l2) ∧ atI l2 m = some (bsD bs)) : ∀ (ss : List Seg) (i : Nat) (x : List Rat) (now : Rat) (b c : Nat) (x7 x8 x9 x10 : Option SV),
    all.drop i = ss → pts.drop i = passedM x ss → WalkSz n a c e ss x → hasB bs x = true → Sz b now → b + ss.length * (e + 1) ≤ 1000 →
    (match timeE bs now x ss with
      | some t => forS (T.nm 7) (fun env' μ' => exs (Py.run fs Γ (k + 9)) Γ l1_time_left env' μ') ((List.range' i ss.length).map fun j : Nat => D.int (j : Int)) [x0, x1, x2, x3, some (.val (segsD all)), some (.val (rD now)), some (.val (.lst (pts.map ptD))), x7, x8, x9, x10] μ = some (.rt (rD t) μ)
      | none => ∃ env', forS (T.nm 7) (fun env' μ' => exs (Py.run fs Γ (k + 9)) Γ l1_time_left env' μ') ((List.range' i ss.length).map fun j : Nat => D.int (j : Int)) [x0, x1, x2, x3, some (.val (segsD all)), some (.val (rD now)), some (.val (.lst (pts.map ptD))), x7, x8, x9, x10] μ = some (.nx env' μ) ∧ env'.take 5 = [x0, x1, x2, x3, some (.val (segsD all))])
  | [], i, x, now, b, c, x7, x8, x9, x10, _, _, _, _, _, _ => ⟨_, rfl, rfl⟩
  | s :: r, i, x, now, b, c, x7, x8, x9, x10, ha, hp, hw, hk, hb1, hb2 => by
    have hs := hw.seg
    rw [List.length_cons, Nat.succ_mul] at hb2
    have hi : i < all.length := by
      refine Nat.lt_of_not_le fun hle => ?_
      rw [List.drop_eq_nil_of_le hle] at ha; cases ha
    have hi2 : i < pts.length := by
      refine Nat.lt_of_not_le fun hle => ?_
      rw [List.drop_eq_nil_of_le hle, passedM] at hp; cases hp
    rw [List.drop_eq_getElem_cons hi] at ha
    rw [List.drop_eq_getElem_cons hi2, passedM] at hp
    injection ha with ha1 ha2
    injection hp with hp1 hp2
    have a1 : atI (all.map segD) (i : Int) = some (segD s) := by rw [atI_map hi, ha1]
    have a2 : atI (pts.map ptD) (i : Int) = some (ptD x) := by rw [atI_map hi2, hp1]
    have g := r_time_in_segment (k := k + 1) (μ := μ) hs hb hk
    have hsg : segD s = .tup [rD s.1, ptD s.2] := rfl
    rw [List.length_cons, List.range'_succ, List.map_cons]
    rw [timeE]
    obtain ⟨m, w, l1, l2, rfl, rfl, w1, w2, w3⟩ := hst
    have hse : segsD all = .tup (all.map segD) := rfl
    cases hq : best (exits bs x (movedM x s.2 s.1) s.1) with
    | some t =>
      dsimp only
      rw [hq] at g
      have hk2 : Py.isNon (rD t) = false := rfl
      have st := best_sz hs hb hk hq
      have g2 := r_added (k := k + 6) (μ := μ) now t hb1 st (by omega)
      refine forS_rt (env1 := [x0, some (.val w), some (.val (.int m)), x3, some (.val (segsD all)), some (.val (rD now)), some (.val (.lst (pts.map ptD))), some (.val (.int i)), x8, x9, x10]) (by simp) ?_
      rw [hse]
      rw [hsg] at a1
      simp -implicitDefEqProofs [l1_time_left, a1, a2, w1, w2, w3, g, oR, hk2, g2]
    | none =>
      dsimp only
      rw [hq] at g
      have hk2 : hasB bs (movedM x s.2 s.1) = true := exits_nil.mp hq
      have g2 := r_added (k := k + 6) (μ := μ) now s.1 hb1 hs.ss (by omega)
      have ih := tl_loop hb all pts x0 (some (.val w)) (some (.val (.int m))) x3 ⟨m, w, l1, l2, rfl, rfl, w1, w2, w3⟩ r (i + 1) (movedM x s.2 s.1) (now + s.1) (b + e + 1) (c + (a + e) + 1) (some (.val (.int i))) (some (.val (rD s.1))) (some (.val (ptD s.2))) (some (.val .non)) ha2 hp2 hw.next hk2 (hb1.add hs.ss) (by omega)
      have step : forS (T.nm 7) (fun env' μ' => exs (Py.run fs Γ (k + 9)) Γ l1_time_left env' μ') (D.int (i : Int) :: (List.range' (i + 1) r.length).map fun j : Nat => D.int (j : Int)) [x0, some (.val w), some (.val (.int m)), x3, some (.val (segsD all)), some (.val (rD now)), some (.val (.lst (pts.map ptD))), x7, x8, x9, x10] μ =
          forS (T.nm 7) (fun env' μ' => exs (Py.run fs Γ (k + 9)) Γ l1_time_left env' μ') ((List.range' (i + 1) r.length).map fun j : Nat => D.int (j : Int)) [x0, some (.val w), some (.val (.int m)), x3, some (.val (segsD all)), some (.val (rD (now + s.1))), some (.val (.lst (pts.map ptD))), some (.val (.int i)), some (.val (rD s.1)), some (.val (ptD s.2)), some (.val .non)] μ := by
        refine forS_go (env1 := [x0, some (.val w), some (.val (.int m)), x3, some (.val (segsD all)), some (.val (rD now)), some (.val (.lst (pts.map ptD))), some (.val (.int i)), x8, x9, x10]) (by simp) ?_
        rw [hse]
        rw [hsg] at a1
        simp -implicitDefEqProofs [l1_time_left, a1, a2, w1, w2, w3, g, oR, n2, g2]
      rw [step]
      exact ih
theorem r_time_left {n a c e : Nat} {P : Pl} {wi : List (List Bd)} (hP : PlOk n P) (hW : StOk n P wi) (hμ : scalS μ = true) (m : Nat) (hm : m < P.modes.length) (x : List Rat) (ss : List Seg) (hw : WalkSz n a c e ss x) :
    Py.run fs Γ (k + 10) f_time_left [plD P, wiD wi, .int m, ptD x, segsD ss] μ = some (rD (if hasB (stayM wi m) x then (timeE (stayM wi m) 0 x ss).getD P.beat else 0), μ) := by
  have hn : n ≤ 1000 := by rcases hP.hn with h | h <;> omega
  have hle := hw.le
  have hlen := hw.len
  have h5 : ss.length * (e + 1) ≤ ss.length * (a + e + 1) := Nat.mul_le_mul_left _ (by omega)
  have g1 := r_in_stay (k := k) (μ := μ) hP hW m hm x hw.hx hw.sx (by omega)
  have g2 := r_passed (k := k + 4) (μ := μ) hn hμ x ss hw.ok hw.hx hw.sx (by omega) (by omega)
  have hm' : m < wi.length := by rw [hW.1]; exact hm
  have hv : stayM wi m = wi[m] := by unfold stayM; simp [List.getD_eq_getElem?_getD, List.getElem?_eq_getElem hm']
  have h3 := hW.2 _ (List.getElem_mem hm')
  rw [← hv] at h3
  have a1 : atI (wi.map bsD) (m : Int) = some (bsD (stayM wi m)) := by rw [atI_map hm', hv]
  have hr := rngS_map (n := ss.length) (by omega)
  rw [List.range_eq_range'] at hr
  have hse : segsD ss = .tup (ss.map segD) := rfl
  rw [u_time_left, b_time_left]
  cases hk : hasB (stayM wi m) x with
  | false =>
    rw [hk] at g1
    rw [if_neg Bool.false_ne_true]
    simp -implicitDefEqProofs [g1, rD_zero]
  | true =>
    rw [hk] at g1
    rw [if_pos rfl]
    have key := tl_loop (k := k) (μ := μ) h3 ss (passedM x ss) (some (.val (plD P))) (some (.val (wiD wi))) (some (.val (.int m))) (some (.val (ptD x))) ⟨m, wiD wi, [.tup (wi.map bsD), .non], wi.map bsD, rfl, rfl, fun _ => rfl, at2_0, a1⟩ ss 0 x 0 1 c none none none none rfl rfl hw hk (sz_zero (by decide)) (by omega)
    rw [rD_zero] at key
    cases ht : timeE (stayM wi m) 0 x ss with
    | some t =>
      rw [ht] at key
      rw [hse] at key g2 ⊢
      simp -implicitDefEqProofs [ex_for, g1, g2, hr, key]
    | none =>
      rw [ht] at key
      obtain ⟨env', key, henv⟩ := key
      obtain ⟨y0, y1, y2, y3, y4, rest, rfl⟩ : ∃ y0 y1 y2 y3 y4 rest, env' = y0 :: y1 :: y2 :: y3 :: y4 :: rest := by
        match env', henv with
        | y0 :: y1 :: y2 :: y3 :: y4 :: rest, _ => exact ⟨y0, y1, y2, y3, y4, rest, rfl⟩
      simp only [List.take_succ_cons, List.take_zero, List.cons.injEq] at henv
      obtain ⟨rfl, rfl, rfl, rfl, rfl, _⟩ := henv
      rw [hse] at key g2 ⊢
      simp -implicitDefEqProofs [ex_for, g1, g2, hr, key, pl2, at9_4]
/-! the law's own time -/
def pick (t : Rat) : Option Rat → Rat
  | none => t
  | some b => if t < b then t else b
theorem pick_sz {n : Nat} {t : Rat} {acc : Option Rat} (h : Sz n t) (h' : ∀ b, acc = some b → Sz n b) : Sz n (pick t acc) := by
  cases acc with
  | none => exact h
  | some b =>
    show Sz n (if t < b then t else b)
    split
    · exact h
    · exact h' b rfl
def lstep (x y : List Rat) (sp : Rat) (acc : Option Rat) (B : Bd) : Option Rat := if keepsB B y then acc else some (pick (exitT x y sp B) acc)
theorem lstep_fold (x y : List Rat) (sp : Rat) : ∀ (bs : List Bd) (b : Rat), bs.foldl (lstep x y sp) (some b) = some (leastM b (exits bs x y sp))
  | [], b => rfl
  | B :: bs, b => by
    rw [List.foldl_cons]
    cases hq : keepsB B y with
    | true =>
      have : lstep x y sp (some b) B = some b := by unfold lstep; rw [hq]; rfl
      rw [this, lstep_fold x y sp bs b]
      unfold exits; rw [List.filter_cons, hq]; rfl
    | false =>
      have : lstep x y sp (some b) B = some (if exitT x y sp B < b then exitT x y sp B else b) := by unfold lstep; rw [hq]; rfl
      rw [this, lstep_fold x y sp bs]
      unfold exits leastM; rw [List.filter_cons, hq]; simp
theorem lstep_best (x y : List Rat) (sp : Rat) : ∀ (bs : List Bd), bs.foldl (lstep x y sp) none = best (exits bs x y sp)
  | [] => rfl
  | B :: bs => by
    rw [List.foldl_cons]
    cases hq : keepsB B y with
    | true =>
      have : lstep x y sp none B = none := by unfold lstep; rw [hq]; rfl
      rw [this, lstep_best x y sp bs]
      unfold exits; rw [List.filter_cons, hq]; rfl
    | false =>
      have : lstep x y sp none B = some (exitT x y sp B) := by unfold lstep; rw [hq]; rfl
      rw [this, lstep_fold x y sp bs]
      unfold exits best; rw [List.filter_cons, hq]; simp
theorem lt_inner {n a c e : Nat} {x r : List Rat} {sp : Rat} (h : SegSz n a c e x r sp) {bs : List Bd} (hb : GOk n bs) (hk : hasB bs x = true) (x0 x1 x2 x3 x6 x10 x11 x12 x9 : Option SV) :
    ∃ y9 y10 y11 y12, forS (T.nm 9) (fun env' μ' => exs (Py.run fs Γ (k + 4)) Γ l1__law_time env' μ') (bs.map bdD) [x0, x1, x2, x3, some (.val (ptD x)), some (.val (rD sp)), x6, some (.val (ptD (movedM x r sp))), some (.val .non), x9, x10, x11, x12] μ =
      some (.nx [x0, x1, x2, x3, some (.val (ptD x)), some (.val (rD sp)), x6, some (.val (ptD (movedM x r sp))), some (.val (oR (best (exits bs x (movedM x r sp) sp)))), y9, y10, y11, y12] μ) := by
  have hle := h.le
  have hk' := List.all_eq_true.mp hk
  obtain ⟨env', e1, y9, y10, y11, y12, rfl, _⟩ := forS_fold (t := T.nm 9) (b := fun env' μ' => exs (Py.run fs Γ (k + 4)) Γ l1__law_time env' μ') (μ := μ) bdD (lstep x (movedM x r sp) sp)
    (fun i acc env => ∃ y9 y10 y11 y12, env = [x0, x1, x2, x3, some (.val (ptD x)), some (.val (rD sp)), x6, some (.val (ptD (movedM x r sp))), some (.val (oR acc)), y9, y10, y11, y12] ∧ ∀ b, acc = some b → Sz 4000 b) bs 0 none [x0, x1, x2, x3, some (.val (ptD x)), some (.val (rD sp)), x6, some (.val (ptD (movedM x r sp))), some (.val .non), x9, x10, x11, x12]
    ⟨x9, x10, x11, x12, rfl, fun b hb => by cases hb⟩ (by
      rintro B hB j acc env _ _ ⟨y9, y10, y11, y12, rfl, hacc⟩
      obtain ⟨i1, i2⟩ := hb.2 B hB
      have hkx := hk' B hB
      have g1 := r_lkeeps (k := k) (μ := μ) B (movedM x r sp) i2 h.mv.2 (by rw [i1, h.mv.1]) (by rw [h.mv.1]; rcases h.hn with rfl | rfl <;> omega)
      cases hq : keepsB B (movedM x r sp) with
      | true =>
        rw [hq] at g1
        refine ⟨[x0, x1, x2, x3, some (.val (ptD x)), some (.val (rD sp)), x6, some (.val (ptD (movedM x r sp))), some (.val (oR acc)), some (.val (bdD B)), y10, y11, y12], [x0, x1, x2, x3, some (.val (ptD x)), some (.val (rD sp)), x6, some (.val (ptD (movedM x r sp))), some (.val (oR acc)), some (.val (bdD B)), y10, y11, y12], by simp, .inl ?_, some (.val (bdD B)), y10, y11, y12, ?_, ?_⟩
        · simp -implicitDefEqProofs [l1__law_time, g1]
        · unfold lstep; rw [hq]; rfl
        · unfold lstep; rw [hq]; exact hacc
      | false =>
        rw [hq] at g1
        obtain ⟨g2, _⟩ := r_lheight (k := k + 1) (μ := μ) B x i2 h.sx (by rw [i1, h.hx]) (by rw [h.hx]; rcases h.hn with rfl | rfl <;> omega)
        obtain ⟨g3, _⟩ := r_lheight (k := k + 1) (μ := μ) B (movedM x r sp) i2 h.mv.2 (by rw [i1, h.mv.1]) (by rw [h.mv.1]; rcases h.hn with rfl | rfl <;> omega)
        have s1 := val_sz h.hn (hb.2 B hB) h.hx h.sx (by omega)
        have s2 := val_sz h.hn (hb.2 B hB) h.mv.1 h.mv.2 (by omega)
        have hf := fall_pos hkx hq
        have st := exit_sz h (hb.2 B hB) hkx hq
        have g4 := r_lminus (k := k + 1) (n := 8999) (μ := μ) (B.val x) (B.val (movedM x r sp)) s1 s2 (by omega) (by decide)
        have s3 := s1.sub s2
        have hex : exitT x (movedM x r sp) sp B = sp * (B.val x / (B.val x - B.val (movedM x r sp))) := rfl
        have hd0 : B.val x - B.val (movedM x r sp) ≠ 0 := by grind
        rw [hex] at st
        have hls : lstep x (movedM x r sp) sp acc B = some (pick (sp * (B.val x / (B.val x - B.val (movedM x r sp)))) acc) := by
          unfold lstep; rw [hq]; rfl
        rw [hls]
        generalize B.val x - B.val (movedM x r sp) = d at *
        generalize B.val x = v at *
        have hS : ∃ A D', Sz A v ∧ Sz D' d ∧ A ≤ 1014 ∧ D' ≤ 2029 := ⟨_, _, s1, s3, by omega, by omega⟩
        obtain ⟨A, D', sv, sd, hA, hD⟩ := hS
        have m1 := mulOk_of sv.1 sd.den (by omega)
        have m2 := mulOk_of sv.den sd.1 (by omega)
        have g5 := r_lratio (k := k + 3) (n := A + D') (μ := μ) (v.num * d.den) (v.den * d.num) (Int.mul_ne_zero (den_ne v) (num_ne hd0)) (abs_mul_lt sv.1 sd.den) (abs_mul_lt sv.den sd.1) (by omega)
        rw [div_divInt] at g5
        have svd := sv.div sd hd0
        have g6 := r_lmult (k := k + 2) (n := 8999) (μ := μ) sp (v / d) h.ss svd (by omega) (by decide)
        have t1 : ∀ (v : Rat) (μ : Store), itsS μ (rD v) = some [.int v.num, .int v.den] := fun _ _ => rfl
        generalize sp * (v / d) = t at *
        cases acc with
        | none =>
          refine ⟨[x0, x1, x2, x3, some (.val (ptD x)), some (.val (rD sp)), x6, some (.val (ptD (movedM x r sp))), some (.val (oR none)), some (.val (bdD B)), y10, y11, y12], [x0, x1, x2, x3, some (.val (ptD x)), some (.val (rD sp)), x6, some (.val (ptD (movedM x r sp))), some (.val (rD t)), some (.val (bdD B)), some (.val (rD v)), some (.val (rD d)), some (.val (rD t))], by simp, .inl ?_, some (.val (bdD B)), some (.val (rD v)), some (.val (rD d)), some (.val (rD t)), rfl, fun b hb => by cases hb; exact pick_sz st (fun b hb => by cases hb)⟩
          simp -implicitDefEqProofs [l1__law_time, g1, g2, g3, g4, t1, at2_0, at2_1, m1, m2, g5, g6, oR, n2]
        | some b =>
          have sb := hacc b rfl
          have g7 := r_lminus (k := k + 1) (n := 8999) (μ := μ) t b st sb (by decide) (by decide)
          have hk2 : Py.isNon (rD b) = false := rfl
          have hlt : (t - b).num < 0 ↔ t < b := by rw [← num_neg_iff]; constructor <;> intro h <;> grind
          refine ⟨[x0, x1, x2, x3, some (.val (ptD x)), some (.val (rD sp)), x6, some (.val (ptD (movedM x r sp))), some (.val (oR (some b))), some (.val (bdD B)), y10, y11, y12], [x0, x1, x2, x3, some (.val (ptD x)), some (.val (rD sp)), x6, some (.val (ptD (movedM x r sp))), some (.val (rD (if t < b then t else b))), some (.val (bdD B)), some (.val (rD v)), some (.val (rD d)), some (.val (rD t))], by simp, .inl ?_, some (.val (bdD B)), some (.val (rD v)), some (.val (rD d)), some (.val (rD t)), rfl, fun b' hb' => by cases hb'; exact pick_sz st hacc⟩
          by_cases cc : t < b
          · have cc' := hlt.mpr cc
            simp -implicitDefEqProofs [l1__law_time, g1, g2, g3, g4, t1, at2_0, at2_1, m1, m2, g5, g6, oR, hk2, g7, cc, cc']
          · have cc' : ¬ (t - b).num < 0 := fun z => cc (hlt.mp z)
            simp -implicitDefEqProofs [l1__law_time, g1, g2, g3, g4, t1, at2_0, at2_1, m1, m2, g5, g6, oR, hk2, g7, cc, cc'])
  rw [lstep_best] at e1
  exact ⟨y9, y10, y11, y12, e1⟩
theorem ltm_loop {n a e : Nat} {bs : List Bd} (hb : GOk n bs) (x1 x2 : Option SV) : ∀ (ss : List Seg) (x : List Rat) (now : Rat) (b c : Nat) (x5 x6 x7 x8 x9 x10 x11 x12 : Option SV), WalkSz n a c e ss x → hasB bs x = true → Sz b now → b + ss.length * (e + 1) ≤ 1000 →
    (match timeE bs now x ss with
      | some t => forS (T.tp [(T.nm 5), (T.nm 6)]) (fun env' μ' => exs (Py.run fs Γ (k + 4)) Γ l2__law_time env' μ') (ss.map segD) [some (.val (bsD bs)), x1, x2, some (.val (rD now)), some (.val (ptD x)), x5, x6, x7, x8, x9, x10, x11, x12] μ = some (.rt (rD t) μ)
      | none => ∃ y4 y5 y6 y7 y8 y9 y10 y11 y12, forS (T.tp [(T.nm 5), (T.nm 6)]) (fun env' μ' => exs (Py.run fs Γ (k + 4)) Γ l2__law_time env' μ') (ss.map segD) [some (.val (bsD bs)), x1, x2, some (.val (rD now)), some (.val (ptD x)), x5, x6, x7, x8, x9, x10, x11, x12] μ = some (.nx [some (.val (bsD bs)), x1, x2, some (.val (rD (ss.foldl (fun t s => t + s.1) now))), y4, y5, y6, y7, y8, y9, y10, y11, y12] μ))
  | [], x, now, b, c, x5, x6, x7, x8, x9, x10, x11, x12, _, _, _, _ => ⟨_, x5, x6, x7, x8, x9, x10, x11, x12, rfl⟩
  | s :: r, x, now, b, c, x5, x6, x7, x8, x9, x10, x11, x12, hw, hk, hb1, hb2 => by
    have hs := hw.seg
    have hle := hs.le
    have hn : n ≤ 1000 := by rcases hs.hn with h | h <;> omega
    rw [List.length_cons, Nat.succ_mul] at hb2
    have g0 := r_lmoved (k := k + 1) (μ := μ) x s.2 s.1 hs.hx hs.hr hn hs.sx hs.sr hs.ss (by omega)
    obtain ⟨y9, y10, y11, y12, g1⟩ := lt_inner (k := k) (μ := μ) hs hb hk (some (.val (bsD bs))) x1 x2 (some (.val (rD now))) (some (.val (ptD s.2))) x10 x11 x12 x9
    have hbs : bsD bs = .tup (bs.map bdD) := rfl
    rw [List.map_cons]
    rw [timeE]
    cases hq : best (exits bs x (movedM x s.2 s.1) s.1) with
    | some t =>
      dsimp only
      rw [hq] at g1
      have hk2 : Py.isNon (rD t) = false := rfl
      have st := best_sz hs hb hk hq
      have g2 := r_lplus (k := k + 2) (n := 8999) (μ := μ) now t hb1 st (by omega) (by decide)
      refine forS_rt (env1 := [some (.val (bsD bs)), x1, x2, some (.val (rD now)), some (.val (ptD x)), some (.val (rD s.1)), some (.val (ptD s.2)), x7, x8, x9, x10, x11, x12]) (by unfold segD; simp) ?_
      rw [hbs] at g1 ⊢
      simp -implicitDefEqProofs [l2__law_time, ex_for, g0, g1, oR, hk2, g2]
    | none =>
      dsimp only
      rw [hq] at g1
      have hk2 : hasB bs (movedM x s.2 s.1) = true := exits_nil.mp hq
      have g2 := r_lplus (k := k + 2) (n := 8999) (μ := μ) now s.1 hb1 hs.ss (by omega) (by decide)
      have ih := ltm_loop hb x1 x2 r (movedM x s.2 s.1) (now + s.1) (b + e + 1) (c + (a + e) + 1) (some (.val (rD s.1))) (some (.val (ptD s.2))) (some (.val (ptD (movedM x s.2 s.1)))) (some (.val .non)) y9 y10 y11 y12 hw.next hk2 (hb1.add hs.ss) (by omega)
      have step : forS (T.tp [(T.nm 5), (T.nm 6)]) (fun env' μ' => exs (Py.run fs Γ (k + 4)) Γ l2__law_time env' μ') (segD s :: r.map segD) [some (.val (bsD bs)), x1, x2, some (.val (rD now)), some (.val (ptD x)), x5, x6, x7, x8, x9, x10, x11, x12] μ =
          forS (T.tp [(T.nm 5), (T.nm 6)]) (fun env' μ' => exs (Py.run fs Γ (k + 4)) Γ l2__law_time env' μ') (r.map segD) [some (.val (bsD bs)), x1, x2, some (.val (rD (now + s.1))), some (.val (ptD (movedM x s.2 s.1))), some (.val (rD s.1)), some (.val (ptD s.2)), some (.val (ptD (movedM x s.2 s.1))), some (.val .non), y9, y10, y11, y12] μ := by
        refine forS_go (env1 := [some (.val (bsD bs)), x1, x2, some (.val (rD now)), some (.val (ptD x)), some (.val (rD s.1)), some (.val (ptD s.2)), x7, x8, x9, x10, x11, x12]) (by unfold segD; simp) ?_
        rw [hbs] at g1 ⊢
        simp -implicitDefEqProofs [l2__law_time, ex_for, g0, g1, oR, n2, g2]
      rw [step, List.foldl_cons]
      exact ih
theorem r_ltime {n a c e : Nat} {bs : List Bd} (hb : GOk n bs) (x : List Rat) (ss : List Seg) (hw : WalkSz n a c e ss x) :
    Py.run fs Γ (k + 6) f__law_time [bsD bs, ptD x, segsD ss] μ = some (rD (if hasB bs x then (timeE bs 0 x ss).getD (sumT ss) else 0), μ) := by
  have hle := hw.le
  have h5 : ss.length * (e + 1) ≤ ss.length * (a + e + 1) := Nat.mul_le_mul_left _ (by omega)
  have g1 := r_lhas (k := k) (μ := μ) (.int x.length) bs x (by have := hb.1; omega) (fun B hB => by rw [hw.hx]; exact hb.2 B hB) hw.sx (by rw [hw.hx]; exact fit4 hw.hn (by omega))
  have tx : ∀ μ : Store, itsS μ (ptD x) = some (x.map rD) := fun _ => rfl
  have hse : segsD ss = .tup (ss.map segD) := rfl
  rw [u__law_time, b__law_time]
  cases hk : hasB bs x with
  | false =>
    rw [hk] at g1
    rw [if_neg Bool.false_ne_true]
    simp -implicitDefEqProofs [g1, tx, szle, rD_zero]
  | true =>
    rw [hk] at g1
    rw [if_pos rfl]
    have key := ltm_loop (k := k + 1) (μ := μ) hb (some (.val (ptD x))) (some (.val (segsD ss))) ss x 0 1 c none none none none none none none none hw hk (sz_zero (by decide)) (by omega)
    rw [rD_zero] at key
    cases ht : timeE bs 0 x ss with
    | some t =>
      rw [ht] at key
      rw [hse] at key ⊢
      simp -implicitDefEqProofs [ex_for, g1, tx, szle, key]
    | none =>
      rw [ht] at key
      obtain ⟨y4, y5, y6, y7, y8, y9, y10, y11, y12, key⟩ := key
      have es : ss.foldl (fun (t : Rat) (s : Seg) => t + s.1) 0 = sumT ss := rfl
      rw [es] at key
      rw [hse] at key ⊢
      simp -implicitDefEqProofs [ex_for, g1, tx, szle, key]
end
end P19
end
section
set_option Elab.async false
set_option linter.all false
set_option maxRecDepth 100000
set_option maxHeartbeats 0
namespace P19
open PySem L2 Py Geo FM
/-! ### courses cut; when they are left; points at moments -/
theorem ext_getD' {x y : List Rat} (h : x.length = y.length) (h' : ∀ j, j < x.length → x.getD j 0 = y.getD j 0) : x = y := by
  refine List.ext_getElem h fun j h1 h2 => ?_
  have := h' j h1
  simpa [List.getD_eq_getElem?_getD, List.getElem?_eq_getElem h1, List.getElem?_eq_getElem h2] using this
theorem stepsOk_take {n c e : Nat} {P : Pl} {ss : List Step} (h : StepsOk n c e P ss) (j : Nat) : StepsOk n c e P (ss.take j) := fun s hs => h s (List.mem_of_mem_take hs)
theorem stepsOk_drop {n c e : Nat} {P : Pl} {ss : List Step} (h : StepsOk n c e P ss) (j : Nat) : StepsOk n c e P (ss.drop j) := fun s hs => h s (List.mem_of_mem_drop hs)
theorem placesM_take (P : Pl) : ∀ (ss : List Step) (m : Nat) (x : List Rat) (j : Nat), placesM P m x (ss.take j) = (placesM P m x ss).take (j + 1)
  | [], _, _, j => by simp [placesM]
  | s :: r, m, x, 0 => by simp [placesM]
  | s :: r, m, x, j + 1 => by rw [List.take_succ_cons, placesM, placesM, List.take_succ_cons, placesM_take P r]
theorem placesM_drop (P : Pl) : ∀ (ss : List Step) (m : Nat) (x : List Rat) (j : Nat), j ≤ ss.length → placesM P (lastM P m x (ss.take j)).1 (lastM P m x (ss.take j)).2 (ss.drop j) = (placesM P m x ss).drop j
  | [], m, x, j, h => by
    have : j = 0 := by simpa using h
    subst this; rfl
  | s :: r, m, x, 0, _ => by simp [lastM]
  | s :: r, m, x, j + 1, h => by
    rw [List.take_succ_cons, List.drop_succ_cons, lastM, placesM, List.drop_succ_cons]
    exact placesM_drop P r _ _ j (by simpa using h)
theorem lastM_take (P : Pl) : ∀ (ss : List Step) (m : Nat) (x : List Rat) (j : Nat), j ≤ ss.length → (placesM P m x ss)[j]? = some (lastM P m x (ss.take j))
  | [], m, x, j, h => by
    have : j = 0 := by simpa using h
    subst this; rfl
  | s :: r, m, x, 0, _ => rfl
  | s :: r, m, x, j + 1, h => by
    rw [List.take_succ_cons, lastM, placesM, List.getElem?_cons_succ]
    exact lastM_take P r _ _ j (by simpa using h)
theorem plcSz_take (P : Pl) {b : Nat} : ∀ (ss : List Step) (m : Nat) (x : List Rat) (j : Nat), PlcSz P b m x ss → PlcSz P b m x (ss.take j)
  | [], _, _, j, h => by simpa using h
  | s :: r, m, x, 0, h => h.1
  | s :: r, m, x, j + 1, h => ⟨h.1, plcSz_take P r _ _ j h.2⟩
theorem plcSz_drop (P : Pl) {b : Nat} : ∀ (ss : List Step) (m : Nat) (x : List Rat) (j : Nat), PlcSz P b m x ss → PlcSz P b (lastM P m x (ss.take j)).1 (lastM P m x (ss.take j)).2 (ss.drop j)
  | [], _, _, j, h => by simpa [lastM] using h
  | s :: r, m, x, 0, h => h
  | s :: r, m, x, j + 1, h => by
    rw [List.take_succ_cons, List.drop_succ_cons, lastM]
    exact plcSz_drop P r _ _ j h.2
theorem rightS_take (P : Pl) : ∀ (ss : List Step) (m : Nat) (x : List Rat) (j : Nat), RightS P m x ss → RightS P m x (ss.take j)
  | [], _, _, j, h => by simpa using h
  | s :: r, m, x, 0, h => trivial
  | s :: r, m, x, j + 1, h => ⟨h.1, h.2.1, rightS_take P r _ _ j h.2.2⟩
theorem rightS_drop (P : Pl) : ∀ (ss : List Step) (m : Nat) (x : List Rat) (j : Nat), RightS P m x ss → RightS P (lastM P m x (ss.take j)).1 (lastM P m x (ss.take j)).2 (ss.drop j)
  | [], _, _, j, h => by simpa [lastM] using h
  | s :: r, m, x, 0, h => h
  | s :: r, m, x, j + 1, h => by
    rw [List.take_succ_cons, List.drop_succ_cons, lastM]
    exact rightS_drop P r _ _ j h.2.2
theorem rightS_mem {P : Pl} : ∀ (ss : List Step) (m : Nat) (x : List Rat), RightS P m x ss → ∀ s ∈ ss, (∀ g ∈ s.2.segs, 0 < g.1) ∧ sumT s.2.segs = P.beat ∧ s.1 < P.cmds.length
  | [], _, _, _, s, hs => by cases hs
  | t :: r, m, x, h, s, hs => by
    rcases List.mem_cons.mp hs with rfl | hs
    · exact ⟨fun g hg => (h.2.1.segs g hg).1, h.2.1.sum, h.1⟩
    · exact rightS_mem r _ _ h.2.2 s hs
def timeAt (P : Pl) (wi : List (List Bd)) (m : Nat) (x : List Rat) (ss : List Step) (j : Nat) : Rat :=
  let p := (placesM P m x ss).getD j (0, [])
  let g := match ss[j]? with
    | some s => s.2.segs
    | none => []
  if hasB (stayM wi p.1) p.2 then (timeE (stayM wi p.1) 0 p.2 g).getD P.beat else 0
def pwM : List Seg → Rat → List Rat → List Rat
  | [], _, y => y
  | s :: r, l, y => pwM r (l - (if s.1 < l then s.1 else l)) (movedM y s.2 (if s.1 < l then s.1 else l))
/-- all that is asked of a right course -/
structure CrsOk (n b c e : Nat) (P : Pl) (m : Nat) (x : List Rat) (ss : List Step) : Prop where
  pl : PlOk n P
  hm : m < P.modes.length
  hx : x.length = n
  ok : StepsOk n c e P ss
  sz : PlcSz P b m x ss
  rt : RightS P m x ss
  le : b + 5 * (c + e + 1) + c + 5 ≤ 500
  len : ss.length ≤ 50
theorem CrsOk.at {n b c e : Nat} {P : Pl} {m : Nat} {x : List Rat} {ss : List Step} (h : CrsOk n b c e P m x ss) {j : Nat} (hj : j < ss.length) : ∃ (p : Plc), (placesM P m x ss)[j]? = some p ∧ p = lastM P m x (ss.take j) ∧ p.1 < P.modes.length ∧ WalkSz n c b e ss[j].2.segs p.2 ∧ BtOk n c e P ss[j].2 := by
  have hl := placesM_length P ss m x
  have h1 := lastM_take P ss m x j (by omega)
  have hlt : j < (placesM P m x ss).length := by omega
  have hmem := List.mem_of_getElem? h1
  obtain ⟨p1, p2, p3⟩ := placesM_ok h.pl ss m x h.hm h.ok h.hx h.sz _ hmem
  have hs := h.ok _ (List.getElem_mem hj)
  have hr := rightS_mem ss m x h.rt _ (List.getElem_mem hj)
  have hle := h.le
  have h5 : ss[j].2.segs.length * (c + e + 1) ≤ 5 * (c + e + 1) := Nat.mul_le_mul_right _ hs.len
  exact ⟨_, h1, rfl, p1, ⟨h.pl.hn, p2, p3, hs.segs, hr.1, by omega, hs.len⟩, hs⟩
section
variable {k : Nat} {μ : Store}
theorem tcD (x : List Rat) (ss : List Step) : ∀ μ : Store, itsS μ (courseD x ss) = some [ptD x, .tup (ss.map stepD)] := fun _ => rfl
theorem tsD (s : Step) : ∀ μ : Store, itsS μ (stepD s) = some [.int (s.1 : Int), beatD s.2] := fun _ => rfl
theorem tbD (B : Beat) : ∀ μ : Store, itsS μ (beatD B) = some [segsD B.segs, oD B.ix, kickD B] := fun _ => rfl
theorem tpD (p : Plc) : ∀ μ : Store, itsS μ (plcD p) = some [.int (p.1 : Int), ptD p.2] := fun _ => rfl
theorem r_left_at {n b c e : Nat} {P : Pl} {wi : List (List Bd)} {m : Nat} {x : List Rat} {ss : List Step} (h : CrsOk n b c e P m x ss) (hW : StOk n P wi) (hμ : scalS μ = true) :
    Py.run fs Γ (k + 12) f_left_at [plD P, wiD wi, .int m, courseD x ss] μ = some ((match firstBad P wi m x ss with | none => .non | some j => .tup [.int (j : Int), rD (timeAt P wi m x ss j)]), μ) := by
  have hle := h.le
  have hlen := h.len
  have g := r_first_bad (k := k) (μ := μ) h.pl hW hμ (by omega) m h.hm x h.hx ss h.ok h.sz (by omega)
  rw [u_left_at, b_left_at]
  cases hf : firstBad P wi m x ss with
  | none =>
    rw [hf] at g
    simp -implicitDefEqProofs [g, n2]
  | some j =>
    rw [hf] at g
    have hj : j < ss.length := by
      have := List.mem_of_find?_eq_some hf
      exact List.mem_range.mp this
    obtain ⟨p, q1, q2, q3, q4, q5⟩ := h.at hj
    have hd : (placesM P m x ss).getD j (0, []) = p := by simp [List.getD_eq_getElem?_getD, q1]
    dsimp only at g
    rw [hd] at g
    have a2 : atI (ss.map stepD) (j : Int) = some (stepD ss[j]) := atI_map hj
    have gt := r_time_left (k := k + 1) (μ := μ) h.pl hW hμ p.1 q3 p.2 ss[j].2.segs q4
    have ht : timeAt P wi m x ss j = if hasB (stayM wi p.1) p.2 then (timeE (stayM wi p.1) 0 p.2 ss[j].2.segs).getD P.beat else 0 := by
      unfold timeAt; rw [hd, List.getElem?_eq_getElem hj]
    have n3 : ∀ l : List D, Py.isNon (.tup l) = false := fun _ => rfl
    dsimp only
    rw [ht]
    simp -implicitDefEqProofs [g, n3, tpD, at2_0, at2_1, tcD, a2, tsD, tbD, at3_0, gt, szle]
theorem r_lleft {n b c e : Nat} {P : Pl} {wi : List (List Bd)} {m : Nat} {x : List Rat} {ss : List Step} (h : CrsOk n b c e P m x ss) (hW : StOk n P wi) (hμ : scalS μ = true) :
    Py.run fs Γ (k + 8) f__law_left [plD P, wiD wi, .int m, courseD x ss] μ = some ((match firstBad P wi m x ss with | none => .non | some j => .tup [.int (j : Int), rD (timeAt P wi m x ss j)]), μ) := by
  have hle := h.le
  have hlen := h.len
  have g0 := r_lplaces (k := k + 1) (μ := μ) h.pl hμ (by omega) m h.hm x h.hx ss h.ok h.sz (by omega)
  have hr := rngS_map (n := ss.length) (by omega)
  have hpl := placesM_length P ss m x
  have tw : ∀ μ : Store, itsS μ (wiD wi) = some [.tup (wi.map bsD), .non] := fun _ => rfl
  rw [u__law_left, b__law_left]
  unfold firstBad
  rcases forS_find (t := T.nm 5) (b := fun env' μ' => exs (Py.run fs Γ (k + 7)) Γ l1__law_left env' μ') (μ := μ) (fun j : Nat => D.int (j : Int)) (fun j : Nat => D.tup [.int (j : Int), rD (timeAt P wi m x ss j)]) (fun j => !safeAt P wi m x ss j)
    (fun env => ∃ x5 x6 x7, env = [some (.val (plD P)), some (.val (wiD wi)), some (.val (.int m)), some (.val (courseD x ss)), some (.val (.lst ((placesM P m x ss).map plcD))), x5, x6, x7]) (List.range ss.length) [some (.val (plD P)), some (.val (wiD wi)), some (.val (.int m)), some (.val (courseD x ss)), some (.val (.lst ((placesM P m x ss).map plcD))), none, none, none] ⟨none, none, none, rfl⟩ (by
      rintro j hj env ⟨x5, x6, x7, rfl⟩
      have hj1 := List.mem_range.mp hj
      obtain ⟨p, q1, q2, q3, q4, q5⟩ := h.at hj1
      have hj2 : j < (placesM P m x ss).length := by omega
      have hpj : (placesM P m x ss)[j] = p := by rw [List.getElem?_eq_getElem hj2] at q1; exact Option.some.inj q1
      have a1 : atI ((placesM P m x ss).map plcD) (j : Int) = some (plcD p) := by rw [atI_map hj2, hpj]
      have a2 : atI (ss.map stepD) (j : Int) = some (stepD ss[j]) := atI_map hj1
      have tp : plcD p = .tup [.int (p.1 : Int), ptD p.2] := rfl
      have g := r_lsafe (k := k + 1) (μ := μ) h.pl hW q5 hμ p.1 q3 p.2 q4.hx q4.sx (by omega)
      have hv : safeAt P wi m x ss j = safeM P wi p.1 p.2 ss[j].2 := by
        unfold safeAt; rw [q1, List.getElem?_eq_getElem hj1]
      rw [← hv] at g
      have hm' : p.1 < wi.length := by rw [hW.1]; exact q3
      have hst : stayM wi p.1 = wi[p.1] := by unfold stayM; simp [List.getD_eq_getElem?_getD, List.getElem?_eq_getElem hm']
      have h3 := hW.2 _ (List.getElem_mem hm')
      rw [← hst] at h3
      have a3 : atI (wi.map bsD) (p.1 : Int) = some (bsD (stayM wi p.1)) := by rw [atI_map hm', hst]
      have gt := r_ltime (k := k + 1) (μ := μ) h3 p.2 ss[j].2.segs q4
      have hd : (placesM P m x ss).getD j (0, []) = p := by simp [List.getD_eq_getElem?_getD, q1]
      have hsum := (rightS_mem ss m x h.rt _ (List.getElem_mem hj1)).2.1
      have ht : timeAt P wi m x ss j = if hasB (stayM wi p.1) p.2 then (timeE (stayM wi p.1) 0 p.2 ss[j].2.segs).getD (sumT ss[j].2.segs) else 0 := by
        unfold timeAt; rw [hd, List.getElem?_eq_getElem hj1, hsum]
      rw [← ht] at gt
      rw [tp] at a1
      refine ⟨[some (.val (plD P)), some (.val (wiD wi)), some (.val (.int m)), some (.val (courseD x ss)), some (.val (.lst ((placesM P m x ss).map plcD))), some (.val (.int j)), x6, x7], by simp, fun hq => ?_, fun hq => ⟨[some (.val (plD P)), some (.val (wiD wi)), some (.val (.int m)), some (.val (courseD x ss)), some (.val (.lst ((placesM P m x ss).map plcD))), some (.val (.int j)), some (.val (.int (p.1 : Int))), some (.val (ptD p.2))], .inl ?_, _, _, _, rfl⟩⟩
      · rw [Bool.not_eq_true'] at hq
        rw [hq] at g
        simp -implicitDefEqProofs [l1__law_left, a1, tcD, at2_0, at2_1, a2, tsD, tbD, at3_0, g, tw, a3, gt, szle]
      · rw [Bool.not_eq_false'] at hq
        rw [hq] at g
        simp -implicitDefEqProofs [l1__law_left, a1, tcD, at2_0, at2_1, a2, tsD, g, szle]) with ⟨j, hj, hf, e1⟩ | ⟨hf, env', e1, x5, x6, x7, rfl⟩
  · rw [hf]
    simp -implicitDefEqProofs [ex_for, g0, tcD, at2_1, hr, e1]
  · rw [hf]
    simp -implicitDefEqProofs [ex_for, g0, tcD, at2_1, hr, e1]
theorem r_course_behind {n b c e : Nat} {P : Pl} {m : Nat} {x : List Rat} {ss : List Step} (h : CrsOk n b c e P m x ss) (hμ : scalS μ = true) (j : Nat) (hj : j ≤ ss.length) :
    Py.run fs Γ (k + 8) f_course_behind [plD P, .int m, courseD x ss, .int j] μ = some (.tup [.int ((lastM P m x (ss.take j)).1 : Int), courseD (lastM P m x (ss.take j)).2 (ss.drop j)], μ) := by
  have hle := h.le
  have hlen := h.len
  have g0 := r_first_steps (k := k + 6) (μ := μ) x ss j
  have g1 := r_replayed (k := k) (μ := μ) h.pl hμ (by omega) m h.hm x h.hx (ss.take j) (stepsOk_take h.ok j) (plcSz_take P ss m x j h.sz) (by simp; omega)
  have hat : atI ((placesM P m x (ss.take j)).map plcD) (-1) = some (plcD (lastM P m x (ss.take j))) := atI_last (placesM_last P _ _ _)
  generalize lastM P m x (ss.take j) = q at *
  have tq : plcD q = .tup [.int (q.1 : Int), ptD q.2] := rfl
  rw [tq] at hat
  rw [u_course_behind, b_course_behind]
  simp -implicitDefEqProofs [g0, g1, hat, tcD, at2_1, cutS_drop, szle]
  unfold courseD
  rw [List.map_drop]
theorem moved_zero {x r : List Rat} (h : x.length = r.length) : movedM x r 0 = x := by
  refine ext_getD' (by rw [movedM_length h]) fun j hj => ?_
  rw [movedM_length h] at hj
  unfold movedM
  have hz : j < (x.zip r).length := by rw [List.length_zip]; omega
  have hr : j < r.length := by omega
  simp [List.getD_eq_getElem?_getD, List.getElem?_eq_getElem hj, List.getElem?_eq_getElem hr, List.getElem?_eq_getElem hz, Rat.mul_zero, Rat.add_zero]
theorem pwM_zero : ∀ (ss : List Seg) (y : List Rat), (∀ s ∈ ss, 0 < s.1 ∧ s.2.length = y.length) → pwM ss 0 y = y
  | [], _, _ => rfl
  | s :: r, y, h => by
    obtain ⟨h1, h2⟩ := h s (by simp)
    have c : ¬ s.1 < 0 := by grind
    have e0 : (0 : Rat) - 0 = 0 := by grind
    rw [pwM, if_neg c, moved_zero h2.symm, e0]
    exact pwM_zero r y fun t ht => h t (by simp [ht])
theorem pw_zero {n a e : Nat} (hn : n ≤ 1000) (x0 x1 x2 : Option SV) : ∀ (ss : List Seg) (y : List Rat) (b : Nat) (x5 x6 x7 : Option SV), SegsOk n a e ss → (∀ s ∈ ss, 0 < s.1) → y.length = n → (∀ z ∈ y, Sz b z) → b + a + e + 3 ≤ 8999 →
    ∃ y3 y5 y6 y7, forS (T.tp [(T.nm 5), (T.nm 6)]) (fun env' μ' => exs (Py.run fs Γ (k + 4)) Γ l1_point_within env' μ') (ss.map segD) [x0, x1, x2, some (.val (rD 0)), some (.val (ptD y)), x5, x6, x7] μ = some (.nx [x0, x1, x2, y3, some (.val (ptD y)), y5, y6, y7] μ)
  | [], y, b, x5, x6, x7, _, _, _, _, _ => ⟨_, x5, x6, x7, rfl⟩
  | s :: r, y, b, x5, x6, x7, hs, hp, hy, hb, h1 => by
    obtain ⟨w1, w2, w3⟩ := hs s (by simp)
    have hp1 := hp s (by simp)
    have c : ¬ s.1 < 0 := by grind
    have z1 : Sz 1 (0 : Rat) := sz_zero (by decide)
    have g1 := r_compare (k := k + 3) (μ := μ) s.1 0 w2 z1 (by omega)
    have g2 := r_moved (k := k) (μ := μ) y s.2 0 hy w1 hn hb w3 z1 (by omega)
    have g3 := r_less (k := k) (μ := μ) 0 0 z1 z1 (by omega)
    rw [moved_zero (by rw [hy, w1])] at g2
    have e0 : (0 : Rat) - 0 = 0 := by grind
    rw [e0] at g3
    unfold sgn at g1
    rw [if_neg c, if_pos hp1] at g1
    obtain ⟨y3, y5, y6, y7, ih⟩ := pw_zero hn x0 x1 x2 r y b (some (.val (rD s.1))) (some (.val (ptD s.2))) (some (.val (rD 0))) (fun t ht => hs t (by simp [ht])) (fun t ht => hp t (by simp [ht])) hy hb h1
    refine ⟨y3, y5, y6, y7, ?_⟩
    rw [← ih, List.map_cons]
    refine forS_go (env1 := [x0, x1, x2, some (.val (rD 0)), some (.val (ptD y)), some (.val (rD s.1)), some (.val (ptD s.2)), x7]) (by unfold segD; simp) ?_
    simp -implicitDefEqProofs [l1_point_within, g1, g2, g3]
theorem pw_loop {n a e O : Nat} (hn : n ≤ 1000) (x0 x1 x2 : Option SV) : ∀ (ss : List Seg) (l : Rat) (y : List Rat) (f b : Nat) (x5 x6 x7 : Option SV), SegsOk n a e ss → (∀ s ∈ ss, 0 < s.1) → y.length = n → (∀ z ∈ y, Sz b z) → Sz f l → f + ss.length * (e + 1) ≤ O → b + ss.length * (a + e + 1) + a + e + O + 5 ≤ 8900 → O ≤ 4400 →
    ∃ y3 y5 y6 y7, forS (T.tp [(T.nm 5), (T.nm 6)]) (fun env' μ' => exs (Py.run fs Γ (k + 4)) Γ l1_point_within env' μ') (ss.map segD) [x0, x1, x2, some (.val (rD l)), some (.val (ptD y)), x5, x6, x7] μ = some (.nx [x0, x1, x2, y3, some (.val (ptD (pwM ss l y))), y5, y6, y7] μ)
  | [], l, y, f, b, x5, x6, x7, _, _, _, _, _, _, _, _ => ⟨_, x5, x6, x7, rfl⟩
  | s :: r, l, y, f, b, x5, x6, x7, hs, hp, hy, hb, hl, h1, h2, h3 => by
    rw [List.length_cons, Nat.succ_mul] at h1 h2
    obtain ⟨w1, w2, w3⟩ := hs s (by simp)
    have hsr : SegsOk n a e r := fun t ht => hs t (by simp [ht])
    have hpr : ∀ t ∈ r, 0 < t.1 := fun t ht => hp t (by simp [ht])
    have g1 := r_compare (k := k + 3) (μ := μ) s.1 l w2 hl (by omega)
    unfold sgn at g1
    by_cases c : s.1 < l
    · rw [if_pos c] at g1
      have g2 := r_moved (k := k) (μ := μ) y s.2 s.1 hy w1 hn hb w3 w2 (by omega)
      have g3 := r_less (k := k) (μ := μ) l s.1 hl w2 (by omega)
      obtain ⟨y3, y5, y6, y7, ih⟩ := pw_loop hn x0 x1 x2 r (l - s.1) (movedM y s.2 s.1) (f + e + 1) (b + (a + e) + 1) (some (.val (rD s.1))) (some (.val (ptD s.2))) (some (.val (rD s.1))) hsr hpr (by rw [movedM_length (by rw [hy, w1])]; exact hy) (movedM_sz hb w3 w2) (hl.sub w2) (by omega) (by omega) h3
      refine ⟨y3, y5, y6, y7, ?_⟩
      rw [pwM, if_pos c, ← ih, List.map_cons]
      refine forS_go (env1 := [x0, x1, x2, some (.val (rD l)), some (.val (ptD y)), some (.val (rD s.1)), some (.val (ptD s.2)), x7]) (by unfold segD; simp) ?_
      simp -implicitDefEqProofs [l1_point_within, g1, g2, g3]
    · rw [if_neg c] at g1
      have g2 := r_moved (k := k) (μ := μ) y s.2 l hy w1 hn hb w3 hl (by omega)
      have g3 := r_less (k := k) (μ := μ) l l hl hl (by omega)
      have e0 : l - l = 0 := by grind
      rw [e0] at g3
      have hyl : (movedM y s.2 l).length = n := by rw [movedM_length (by rw [hy, w1])]; exact hy
      obtain ⟨y3, y5, y6, y7, ih⟩ := pw_zero hn x0 x1 x2 r (movedM y s.2 l) (b + (a + f) + 1) (some (.val (rD s.1))) (some (.val (ptD s.2))) (some (.val (rD l))) hsr hpr hyl (movedM_sz hb w3 hl) (by omega)
      refine ⟨y3, y5, y6, y7, ?_⟩
      rw [pwM, if_neg c, e0, pwM_zero r _ (fun t ht => ⟨hpr t ht, by rw [hyl]; exact (hsr t ht).1⟩), ← ih, List.map_cons]
      refine forS_go (env1 := [x0, x1, x2, some (.val (rD l)), some (.val (ptD y)), some (.val (rD s.1)), some (.val (ptD s.2)), x7]) (by unfold segD; simp) ?_
      by_cases c2 : l < s.1
      · rw [if_pos c2] at g1
        simp -implicitDefEqProofs [l1_point_within, g1, g2, g3]
      · rw [if_neg c2] at g1
        simp -implicitDefEqProofs [l1_point_within, g1, g2, g3]
theorem lat_zero {n a e : Nat} (hn : n ≤ 1000) (x0 x1 x2 x3 x4 x5 : Option SV) : ∀ (ss : List Seg) (y : List Rat) (b : Nat) (x8 x9 x10 : Option SV), SegsOk n a e ss → (∀ s ∈ ss, 0 < s.1) → y.length = n → (∀ z ∈ y, Sz b z) → b + a + e + 3 ≤ 8999 →
    ∃ y7 y8 y9 y10, forS (T.tp [(T.nm 8), (T.nm 9)]) (fun env' μ' => exs (Py.run fs Γ (k + 3)) Γ l1__law_at env' μ') (ss.map segD) [x0, x1, x2, x3, x4, x5, some (.val (ptD y)), some (.val (rD 0)), x8, x9, x10] μ = some (.nx [x0, x1, x2, x3, x4, x5, some (.val (ptD y)), y7, y8, y9, y10] μ)
  | [], y, b, x8, x9, x10, _, _, _, _, _ => ⟨_, x8, x9, x10, rfl⟩
  | s :: r, y, b, x8, x9, x10, hs, hp, hy, hb, h1 => by
    obtain ⟨w1, w2, w3⟩ := hs s (by simp)
    have hp1 := hp s (by simp)
    have z1 : Sz 1 (0 : Rat) := sz_zero (by decide)
    have g1 := r_lminus (k := k) (n := 8999) (μ := μ) s.1 0 w2 z1 (by omega) (by decide)
    have g2 := r_lmoved (k := k) (μ := μ) y s.2 0 hy w1 hn hb w3 z1 (by omega)
    have g3 := r_lminus (k := k) (n := 8999) (μ := μ) 0 0 z1 z1 (by omega) (by decide)
    rw [moved_zero (by rw [hy, w1])] at g2
    have e0 : (0 : Rat) - 0 = 0 := by grind
    rw [e0] at g3
    have c' : ¬ (s.1 - 0).num < 0 := fun z => by have := num_neg_iff.mpr z; grind
    obtain ⟨y7, y8, y9, y10, ih⟩ := lat_zero hn x0 x1 x2 x3 x4 x5 r y b (some (.val (rD s.1))) (some (.val (ptD s.2))) (some (.val (rD 0))) (fun t ht => hs t (by simp [ht])) (fun t ht => hp t (by simp [ht])) hy hb h1
    refine ⟨y7, y8, y9, y10, ?_⟩
    rw [← ih, List.map_cons]
    have t1 : ∀ (v : Rat) (μ : Store), itsS μ (rD v) = some [.int v.num, .int v.den] := fun _ _ => rfl
    refine forS_go (env1 := [x0, x1, x2, x3, x4, x5, some (.val (ptD y)), some (.val (rD 0)), some (.val (rD s.1)), some (.val (ptD s.2)), x10]) (by unfold segD; simp) ?_
    simp -implicitDefEqProofs [l1__law_at, g1, t1, at2_0, c', g2, g3]
theorem lat_loop {n a e O : Nat} (hn : n ≤ 1000) (x0 x1 x2 x3 x4 x5 : Option SV) : ∀ (ss : List Seg) (l : Rat) (y : List Rat) (f b : Nat) (x8 x9 x10 : Option SV), SegsOk n a e ss → (∀ s ∈ ss, 0 < s.1) → y.length = n → (∀ z ∈ y, Sz b z) → Sz f l → f + ss.length * (e + 1) ≤ O → b + ss.length * (a + e + 1) + a + e + O + 5 ≤ 8900 → O ≤ 4400 →
    ∃ y7 y8 y9 y10, forS (T.tp [(T.nm 8), (T.nm 9)]) (fun env' μ' => exs (Py.run fs Γ (k + 3)) Γ l1__law_at env' μ') (ss.map segD) [x0, x1, x2, x3, x4, x5, some (.val (ptD y)), some (.val (rD l)), x8, x9, x10] μ = some (.nx [x0, x1, x2, x3, x4, x5, some (.val (ptD (pwM ss l y))), y7, y8, y9, y10] μ)
  | [], l, y, f, b, x8, x9, x10, _, _, _, _, _, _, _, _ => ⟨_, x8, x9, x10, rfl⟩
  | s :: r, l, y, f, b, x8, x9, x10, hs, hp, hy, hb, hl, h1, h2, h3 => by
    rw [List.length_cons, Nat.succ_mul] at h1 h2
    obtain ⟨w1, w2, w3⟩ := hs s (by simp)
    have hsr : SegsOk n a e r := fun t ht => hs t (by simp [ht])
    have hpr : ∀ t ∈ r, 0 < t.1 := fun t ht => hp t (by simp [ht])
    have g1 := r_lminus (k := k) (n := 8999) (μ := μ) s.1 l w2 hl (by omega) (by decide)
    have t1 : ∀ (v : Rat) (μ : Store), itsS μ (rD v) = some [.int v.num, .int v.den] := fun _ _ => rfl
    have hlt : (s.1 - l).num < 0 ↔ s.1 < l := by rw [← num_neg_iff]; constructor <;> intro h <;> grind
    by_cases c : s.1 < l
    · have c' := hlt.mpr c
      have g2 := r_lmoved (k := k) (μ := μ) y s.2 s.1 hy w1 hn hb w3 w2 (by omega)
      have g3 := r_lminus (k := k) (n := 8999) (μ := μ) l s.1 hl w2 (by omega) (by decide)
      obtain ⟨y7, y8, y9, y10, ih⟩ := lat_loop hn x0 x1 x2 x3 x4 x5 r (l - s.1) (movedM y s.2 s.1) (f + e + 1) (b + (a + e) + 1) (some (.val (rD s.1))) (some (.val (ptD s.2))) (some (.val (rD s.1))) hsr hpr (by rw [movedM_length (by rw [hy, w1])]; exact hy) (movedM_sz hb w3 w2) (hl.sub w2) (by omega) (by omega) h3
      refine ⟨y7, y8, y9, y10, ?_⟩
      rw [pwM, if_pos c, ← ih, List.map_cons]
      refine forS_go (env1 := [x0, x1, x2, x3, x4, x5, some (.val (ptD y)), some (.val (rD l)), some (.val (rD s.1)), some (.val (ptD s.2)), x10]) (by unfold segD; simp) ?_
      simp -implicitDefEqProofs [l1__law_at, g1, t1, at2_0, c', g2, g3]
    · have c' : ¬ (s.1 - l).num < 0 := fun z => c (hlt.mp z)
      have g2 := r_lmoved (k := k) (μ := μ) y s.2 l hy w1 hn hb w3 hl (by omega)
      have g3 := r_lminus (k := k) (n := 8999) (μ := μ) l l hl hl (by omega) (by decide)
      have e0 : l - l = 0 := by grind
      rw [e0] at g3
      have hyl : (movedM y s.2 l).length = n := by rw [movedM_length (by rw [hy, w1])]; exact hy
      obtain ⟨y7, y8, y9, y10, ih⟩ := lat_zero hn x0 x1 x2 x3 x4 x5 r (movedM y s.2 l) (b + (a + f) + 1) (some (.val (rD s.1))) (some (.val (ptD s.2))) (some (.val (rD l))) hsr hpr hyl (movedM_sz hb w3 hl) (by omega)
      refine ⟨y7, y8, y9, y10, ?_⟩
      rw [pwM, if_neg c, e0, pwM_zero r _ (fun t ht => ⟨hpr t ht, by rw [hyl]; exact (hsr t ht).1⟩), ← ih, List.map_cons]
      refine forS_go (env1 := [x0, x1, x2, x3, x4, x5, some (.val (ptD y)), some (.val (rD l)), some (.val (rD s.1)), some (.val (ptD s.2)), x10]) (by unfold segD; simp) ?_
      simp -implicitDefEqProofs [l1__law_at, g1, t1, at2_0, c', g2, g3]
theorem r_point_within {n a e f b O : Nat} (hn : n ≤ 1000) (x : List Rat) (ss : List Seg) (t : Rat) (hs : SegsOk n a e ss) (hp : ∀ s ∈ ss, 0 < s.1) (hx : x.length = n) (hb : ∀ z ∈ x, Sz b z) (ht : Sz f t) (h1 : f + ss.length * (e + 1) ≤ O) (h2 : b + ss.length * (a + e + 1) + a + e + O + 5 ≤ 8900) (h3 : O ≤ 4400) : Py.run fs Γ (k + 5) f_point_within [ptD x, segsD ss, rD t] μ = some (ptD (pwM ss t x), μ) := by
  obtain ⟨y3, y5, y6, y7, e1⟩ := pw_loop (k := k) (μ := μ) hn (some (.val (ptD x))) (some (.val (segsD ss))) (some (.val (rD t))) ss t x f b none none none hs hp hx hb ht h1 h2 h3
  have hse : segsD ss = .tup (ss.map segD) := rfl
  rw [u_point_within, b_point_within]
  rw [hse] at e1 ⊢
  simp -implicitDefEqProofs [ex_for, e1]
theorem pwM_len {n : Nat} : ∀ (ss : List Seg) (l : Rat) (y : List Rat), y.length = n → (∀ s ∈ ss, s.2.length = n) → (pwM ss l y).length = n
  | [], _, _, h, _ => h
  | s :: r, l, y, h, hs => by
    rw [pwM]
    exact pwM_len r _ _ (by rw [movedM_length (by rw [h, hs s (by simp)])]; exact h) fun t ht => hs t (by simp [ht])
theorem r_lat {n b c e : Nat} {P : Pl} {m : Nat} {x : List Rat} {ss : List Step} (h : CrsOk n b c e P m x ss) (hμ : scalS μ = true) (j : Nat) (hj : j < ss.length) (t : Rat) (ht : Sz 4100 t) (he : e ≤ 10) :
    Py.run fs Γ (k + 9) f__law_at [plD P, .int m, courseD x ss, .lst ((placesM P m x ss).map plcD), .int j, rD t] μ = some (.bl true, μ) := by
  have hle := h.le
  have hlen := h.len
  have hn : n ≤ 1000 := by rcases h.pl.hn with h | h <;> omega
  obtain ⟨p, q1, q2, q3, q4, q5⟩ := h.at hj
  have h5 : ss[j].2.segs.length * (e + 1) ≤ 5 * (e + 1) := Nat.mul_le_mul_right _ q5.len
  have h6 : ss[j].2.segs.length * (c + e + 1) ≤ 5 * (c + e + 1) := Nat.mul_le_mul_right _ q5.len
  have g0 := r_first_steps (k := k + 6) (μ := μ) x ss j
  have g1 := r_replayed (k := k) (μ := μ) h.pl hμ (by omega) m h.hm x h.hx (ss.take j) (stepsOk_take h.ok j) (plcSz_take P ss m x j h.sz) (by simp; omega)
  have hat : atI ((placesM P m x (ss.take j)).map plcD) (-1) = some (plcD p) := by rw [q2]; exact atI_last (placesM_last P _ _ _)
  have g2 := r_point_within (k := k + 2) (μ := μ) (O := 4400) hn p.2 ss[j].2.segs t q4.ok q4.pos q4.hx q4.sx ht (by omega) (by omega) (by decide)
  have a2 : atI (ss.map stepD) (j : Int) = some (stepD ss[j]) := atI_map hj
  have g3 : Py.run fs Γ (k + 8) f_point_at [plD P, .int m, courseD x ss, .tup [.int j, rD t]] μ = some (ptD (pwM ss[j].2.segs t p.2), μ) := by
    rw [u_point_at, b_point_at]
    simp -implicitDefEqProofs [g0, g1, hat, tpD, at2_1, tcD, a2, tsD, tbD, at3_0, g2]
  have hj2 : j < (placesM P m x ss).length := by have := placesM_length P ss m x; omega
  have hpj : (placesM P m x ss)[j] = p := by rw [List.getElem?_eq_getElem hj2] at q1; exact Option.some.inj q1
  have a1 : atI ((placesM P m x ss).map plcD) (j : Int) = some (plcD p) := by rw [atI_map hj2, hpj]
  obtain ⟨y7, y8, y9, y10, e1⟩ := lat_loop (k := k + 5) (μ := μ) (O := 4400) hn (some (.val (plD P))) (some (.val (.int m))) (some (.val (courseD x ss))) (some (.val (.lst ((placesM P m x ss).map plcD)))) (some (.val (.int j))) (some (.val (rD t))) ss[j].2.segs t p.2 4100 b none none none q4.ok q4.pos q4.hx q4.sx ht (by omega) (by omega) (by decide)
  have heq : eqS (ptD (pwM ss[j].2.segs t p.2)) (ptD (pwM ss[j].2.segs t p.2)) = some true := eqS_refl (n := 2) (plain_ptD (by rw [pwM_len ss[j].2.segs t p.2 q4.hx (fun s hs => (q4.ok s hs).1)]; omega))
  have hse : segsD ss[j].2.segs = .tup (ss[j].2.segs.map segD) := rfl
  rw [u__law_at, b__law_at]
  have tb' : ∀ μ : Store, itsS μ (beatD ss[j].2) = some [.tup (ss[j].2.segs.map segD), oD ss[j].2.ix, kickD ss[j].2] := fun _ => rfl
  simp -implicitDefEqProofs [ex_for, a1, tpD, at2_0, at2_1, tcD, a2, tsD, tb', at3_0, e1, g3, heq, szle]
theorem timeE_sz {n a e : Nat} {bs : List Bd} (hb : GOk n bs) : ∀ (ss : List Seg) (x : List Rat) (now : Rat) (b c : Nat) (t : Rat), WalkSz n a c e ss x → hasB bs x = true → Sz b now → timeE bs now x ss = some t → Sz (b + ss.length * (e + 1) + 4001) t
  | [], _, _, _, _, _, _, _, _, h => by cases h
  | s :: r, x, now, b, c, t, hw, hk, hn, h => by
    rw [List.length_cons, Nat.succ_mul]
    rw [timeE] at h
    cases hq : best (exits bs x (movedM x s.2 s.1) s.1) with
    | some t' =>
      rw [hq] at h
      cases h
      exact (hn.add (best_sz hw.seg hb hk hq)).mono (by omega)
    | none =>
      rw [hq] at h
      exact (timeE_sz hb r _ (now + s.1) (b + e + 1) _ t hw.next (exits_nil.mp hq) (hn.add hw.seg.ss) h).mono (by omega)
theorem timeAt_sz {n b c e : Nat} {P : Pl} {wi : List (List Bd)} {m : Nat} {x : List Rat} {ss : List Step} (h : CrsOk n b c e P m x ss) (hW : StOk n P wi) {j : Nat} (hj : j < ss.length) (he : e ≤ 10) : Sz 4100 (timeAt P wi m x ss j) := by
  obtain ⟨p, q1, q2, q3, q4, q5⟩ := h.at hj
  have hd : (placesM P m x ss).getD j (0, []) = p := by simp [List.getD_eq_getElem?_getD, q1]
  have h5 : ss[j].2.segs.length * (e + 1) ≤ 5 * (e + 1) := Nat.mul_le_mul_right _ q5.len
  have hm' : p.1 < wi.length := by rw [hW.1]; exact q3
  have hst : stayM wi p.1 = wi[p.1] := by unfold stayM; simp [List.getD_eq_getElem?_getD, List.getElem?_eq_getElem hm']
  have h3 := hW.2 _ (List.getElem_mem hm')
  rw [← hst] at h3
  unfold timeAt
  rw [hd, List.getElem?_eq_getElem hj]
  dsimp only
  cases hk : hasB (stayM wi p.1) p.2 with
  | false => rw [if_neg Bool.false_ne_true]; exact sz_zero (by decide)
  | true =>
    rw [if_pos rfl]
    cases ht : timeE (stayM wi p.1) 0 p.2 ss[j].2.segs with
    | none => exact h.pl.bz.mono (by decide)
    | some t => exact (timeE_sz h3 _ _ 0 1 _ t q4 hk (sz_zero (by decide)) ht).mono (by omega)
end
end P19
end
section
set_option Elab.async false
set_option linter.all false
set_option maxRecDepth 100000
set_option maxHeartbeats 0
namespace P19
open PySem L2 Py Geo FM
/-! ### mean beats -/
def meanK (ss : List Seg) (beat : Rat) (j : Nat) : Rat := dot (ss.map (·.1)) (ss.map fun s => s.2.getD j 0) / beat
def meanM (n : Nat) (ss : List Seg) (beat : Rat) : List Rat := (List.range n).map (meanK ss beat)
def meanB (P : Pl) (n : Nat) (B : Beat) : Beat := ⟨[(P.beat, meanM n B.segs P.beat)], B.ix, B.kick⟩
def meanS (P : Pl) (n : Nat) (ss : List Step) : List Step := ss.map fun s => (s.1, meanB P n s.2)
theorem getD_moved {x r : List Rat} {t : Rat} {j : Nat} (h1 : j < x.length) (h2 : j < r.length) : (movedM x r t).getD j 0 = x.getD j 0 + r.getD j 0 * t := by
  unfold movedM
  have hz : j < (x.zip r).length := by rw [List.length_zip]; omega
  simp [List.getD_eq_getElem?_getD, List.getElem?_eq_getElem h1, List.getElem?_eq_getElem h2, List.getElem?_eq_getElem hz]
theorem end_coord {n c e : Nat} : ∀ (ss : List Seg) (x : List Rat) (j : Nat), SegsOk n c e ss → x.length = n → j < n → (endM x ss).getD j 0 = x.getD j 0 + dot (ss.map (·.1)) (ss.map fun s => s.2.getD j 0)
  | [], x, j, _, _, _ => by simp [endM, dot, Rat.add_zero]
  | s :: r, x, j, hs, hx, hj => by
    obtain ⟨h1, _, _⟩ := hs s (by simp)
    rw [endM, end_coord r _ j (fun t ht => hs t (by simp [ht])) (by rw [movedM_length (by rw [hx, h1])]; exact hx) hj, getD_moved (by omega) (by omega)]
    simp only [List.map_cons, dot]
    grind
theorem meanM_getD {n : Nat} {ss : List Seg} {b : Rat} {j : Nat} (h : j < n) : (meanM n ss b).getD j 0 = meanK ss b j := by
  unfold meanM
  simp [List.getD_eq_getElem?_getD, List.getElem?_map, List.getElem?_range h]
theorem ext_getD {x y : List Rat} (h : x.length = y.length) (h' : ∀ j, j < x.length → x.getD j 0 = y.getD j 0) : x = y := by
  refine List.ext_getElem h fun j h1 h2 => ?_
  have := h' j h1
  simpa [List.getD_eq_getElem?_getD, List.getElem?_eq_getElem h1, List.getElem?_eq_getElem h2] using this
theorem mean_end {n c e : Nat} {ss : List Seg} {x : List Rat} {b : Rat} (hs : SegsOk n c e ss) (hx : x.length = n) (hb : b ≠ 0) : endM x [(b, meanM n ss b)] = endM x ss := by
  have hl : (meanM n ss b).length = n := by unfold meanM; simp
  have h2 : (endM x ss).length = n := by
    have : ∀ (ss : List Seg) (x : List Rat), SegsOk n c e ss → x.length = n → (endM x ss).length = n := by
      intro ss
      induction ss with
      | nil => intro x _ h; exact h
      | cons s r ih => intro x hs h; exact ih _ (fun t ht => hs t (by simp [ht])) (by rw [movedM_length (by rw [h, (hs s (by simp)).1])]; exact h)
    exact this ss x hs hx
  have h1 : (endM x [(b, meanM n ss b)]).length = n := by
    show (movedM x (meanM n ss b) b).length = n
    rw [movedM_length (by rw [hx, hl])]; exact hx
  refine ext_getD (by rw [h1, h2]) fun j hj => ?_
  rw [h1] at hj
  rw [end_coord ss x j hs hx hj]
  show (movedM x (meanM n ss b) b).getD j 0 = _
  rw [getD_moved (by omega) (by omega), meanM_getD hj]
  unfold meanK
  rw [Rat.div_mul_cancel hb]
theorem inBox_iff {b : Box} {r : List Rat} : inBoxM b r = true ↔ r.length = b.length ∧ ∀ j, j < b.length → (b.getD j (0, 0)).1 ≤ r.getD j 0 ∧ r.getD j 0 ≤ (b.getD j (0, 0)).2 := by
  unfold inBoxM
  rw [Bool.and_eq_true, decide_eq_true_iff, List.all_eq_true]
  constructor
  · rintro ⟨h1, h2⟩
    refine ⟨h1, fun j hj => ?_⟩
    have hr : j < r.length := by omega
    have hz : j < (r.zip b).length := by rw [List.length_zip]; omega
    have := h2 _ (List.getElem_mem hz)
    simpa [List.getD_eq_getElem?_getD, List.getElem?_eq_getElem hj, List.getElem?_eq_getElem hr] using this
  · rintro ⟨h1, h2⟩
    refine ⟨h1, fun p hp => ?_⟩
    obtain ⟨j, hj, rfl⟩ := List.getElem_of_mem hp
    rw [List.length_zip] at hj
    have hb : j < b.length := by omega
    have hr : j < r.length := by omega
    have := h2 j hb
    simpa [List.getD_eq_getElem?_getD, List.getElem?_eq_getElem hb, List.getElem?_eq_getElem hr] using this
theorem sumT_from : ∀ (ss : List Seg) (t : Rat), ss.foldl (fun t s => t + s.1) t = t + sumT ss
  | [], t => by unfold sumT; simp [Rat.add_zero]
  | s :: r, t => by
    unfold sumT
    rw [List.foldl_cons, List.foldl_cons, sumT_from r, sumT_from r (0 + s.1)]
    grind
theorem dot_between (lo hi : Rat) (j : Nat) : ∀ ss : List Seg, (∀ s ∈ ss, 0 < s.1 ∧ lo ≤ s.2.getD j 0 ∧ s.2.getD j 0 ≤ hi) → lo * sumT ss ≤ dot (ss.map (·.1)) (ss.map fun s => s.2.getD j 0) ∧ dot (ss.map (·.1)) (ss.map fun s => s.2.getD j 0) ≤ hi * sumT ss
  | [], _ => by simp [sumT, dot, Rat.mul_zero]
  | s :: r, h => by
    obtain ⟨h1, h2, h3⟩ := h s (by simp)
    obtain ⟨i1, i2⟩ := dot_between lo hi j r (fun t ht => h t (by simp [ht]))
    have e : sumT (s :: r) = s.1 + sumT r := by
      unfold sumT; rw [List.foldl_cons, sumT_from]; unfold sumT; grind
    have a1 := Rat.mul_le_mul_of_nonneg_left h2 (Rat.le_of_lt h1)
    have a2 := Rat.mul_le_mul_of_nonneg_left h3 (Rat.le_of_lt h1)
    simp only [List.map_cons, dot, e]
    constructor <;> grind
theorem mean_box {n : Nat} {b : Box} {ss : List Seg} {beat : Rat} (hb : b.length = n) (h0 : 0 < beat) (hsum : sumT ss = beat) (h : ∀ s ∈ ss, 0 < s.1 ∧ inBoxM b s.2 = true) : inBoxM b (meanM n ss beat) = true := by
  rw [inBox_iff]
  refine ⟨by unfold meanM; simp [hb], fun j hj => ?_⟩
  rw [meanM_getD (by omega)]
  obtain ⟨d1, d2⟩ := dot_between (b.getD j (0, 0)).1 (b.getD j (0, 0)).2 j ss fun s hs => ⟨(h s hs).1, (inBox_iff.mp (h s hs).2).2 j hj⟩
  unfold meanK
  rw [hsum] at d1 d2
  generalize dot (ss.map (·.1)) (ss.map fun s => s.2.getD j 0) = v at *
  have hinv : 0 ≤ beat⁻¹ := Rat.le_of_lt (Rat.inv_pos.mpr h0)
  have e1 := Rat.mul_le_mul_of_nonneg_right d1 hinv
  have e2 := Rat.mul_le_mul_of_nonneg_right d2 hinv
  have e3 : beat * beat⁻¹ = 1 := Rat.mul_inv_cancel _ (by grind)
  rw [Rat.div_def]
  rw [Rat.mul_assoc, e3, Rat.mul_one] at e1 e2
  exact ⟨e1, e2⟩
theorem meanK_sz {n c e : Nat} {ss : List Seg} {beat : Rat} (hs : SegsOk n c e ss) (hl : ss.length ≤ 5) (hb : Sz 2 beat) (h0 : beat ≠ 0) {j : Nat} (hj : j < n) (hce : c + e ≤ 100) : Sz (5 * (e + c + 1) + 3) (meanK ss beat j) := by
  have g := (r_blended_l (k := 0) (μ := []) (b := e) (c := c) (ss.map (·.1)) (ss.map fun s => s.2.getD j 0) (fun a ha => by
    obtain ⟨s, hs', rfl⟩ := List.mem_map.mp ha; exact (hs s hs').2.1) (fun a ha => by
    obtain ⟨s, hs', rfl⟩ := List.mem_map.mp ha
    obtain ⟨q1, q2, q3⟩ := hs s hs'
    have : j < s.2.length := by omega
    simp only [List.getD_eq_getElem?_getD, List.getElem?_eq_getElem this]
    exact q3 _ (List.getElem_mem this)) (by
    have : ss.length * (e + c + 1) ≤ 5 * (e + c + 1) := Nat.mul_le_mul_right _ hl
    simp only [List.length_map]; omega)).2
  have : ss.length * (e + c + 1) ≤ 5 * (e + c + 1) := Nat.mul_le_mul_right _ hl
  rw [List.length_map] at g
  unfold meanK
  exact (g.div hb h0).mono (by omega)
theorem meanB_ok {n c e : Nat} {P : Pl} {B : Beat} (hP : PlOk n P) (hB : BtOk n c e P B) (hce : c + e ≤ 100) : BtOk n (5 * (e + c + 1) + 3) 2 P (meanB P n B) := by
  have hb0 : P.beat ≠ 0 := by have := hP.b0; grind
  refine ⟨fun s hs => ?_, by unfold meanB; simp, fun i hi => ?_⟩
  · unfold meanB at hs
    rw [List.mem_singleton] at hs
    subst hs
    refine ⟨by unfold meanM; simp, hP.bz, fun y hy => ?_⟩
    obtain ⟨j, hj, rfl⟩ := List.mem_map.mp hy
    exact meanK_sz hB.segs hB.len hP.bz hb0 (List.mem_range.mp hj) hce
  · obtain ⟨q1, q2, q3⟩ := hB.ix i hi
    exact ⟨q1, q2, fun y hy => (q3 y hy).mono (by omega)⟩
theorem mean_place {n c e : Nat} {P : Pl} {B : Beat} (hP : PlOk n P) (hB : BtOk n c e P B) {m : Nat} {x : List Rat} (hx : x.length = n) : placeM P m x (meanB P n B) = placeM P m x B := by
  have hb0 : P.beat ≠ 0 := by have := hP.b0; grind
  have he := mean_end (x := x) (b := P.beat) hB.segs hx hb0
  unfold placeM meanB
  dsimp only
  rw [he]
theorem sumT_one (b : Rat) (r : List Rat) : sumT [(b, r)] = b := by unfold sumT; simp [Rat.zero_add]
theorem mean_right {n b c e : Nat} {P : Pl} (hP : PlOk n P) : ∀ (ss : List Step) (m : Nat) (x : List Rat), m < P.modes.length → StepsOk n c e P ss → x.length = n → PlcSz P b m x ss → RightS P m x ss →
    RightS P m x (meanS P n ss) ∧ PlcSz P b m x (meanS P n ss) ∧ placesM P m x (meanS P n ss) = placesM P m x ss
  | [], m, x, _, _, _, h, _ => ⟨trivial, h, rfl⟩
  | s :: r, m, x, hm, hs, hx, hp, hr => by
    have hB := hs s (by simp)
    obtain ⟨p1, p2, p3⟩ := placeM_ok hP hm hB hx hp.1
    have hpl := mean_place hP hB (m := m) hx
    obtain ⟨i1, i2, i3⟩ := mean_right hP r _ _ p1 (fun t ht => hs t (by simp [ht])) p2 hp.2 hr.2.2
    have hb0 : P.beat ≠ 0 := by have := hP.b0; grind
    have he := mean_end (x := x) (b := P.beat) hB.segs hx hb0
    have e0 : meanS P n (s :: r) = (s.1, meanB P n s.2) :: meanS P n r := rfl
    obtain ⟨q1, q2, q3, q4⟩ := boxOf_eq hP hm hr.1
    rw [e0]
    refine ⟨⟨hr.1, ⟨fun g hg => ?_, sumT_one _ _, ?_, hr.2.1.kick⟩, ?_⟩, ⟨hp.1, ?_⟩, ?_⟩
    · have : g = (P.beat, meanM n s.2.segs P.beat) := by simpa [meanB] using hg
      rw [this]
      refine ⟨hP.b0, mean_box (by rw [q3]; exact q4.1) hP.b0 hr.2.1.sum hr.2.1.segs⟩
    · show s.2.ix ∈ choicesM P.sw m (endM x [(P.beat, meanM n s.2.segs P.beat)])
      rw [he]; exact hr.2.1.ix
    · show RightS P (placeM P m x (meanB P n s.2)).1 (placeM P m x (meanB P n s.2)).2 (meanS P n r)
      rw [hpl]; exact i1
    · show PlcSz P b (placeM P m x (meanB P n s.2)).1 (placeM P m x (meanB P n s.2)).2 (meanS P n r)
      rw [hpl]; exact i2
    · show (m, x) :: placesM P (placeM P m x (meanB P n s.2)).1 (placeM P m x (meanB P n s.2)).2 (meanS P n r) = _
      rw [hpl, i3]; rfl
theorem mean_safe {n b c e : Nat} {P : Pl} {wi : List (List Bd)} (hP : PlOk n P) {ss : List Step} {m : Nat} {x : List Rat} (hm : m < P.modes.length) (hs : StepsOk n c e P ss) (hx : x.length = n) (hp : PlcSz P b m x ss) (hr : RightS P m x ss) (h : firstBad P wi m x ss = none) : firstBad P wi m x (meanS P n ss) = none := by
  have hb0 : P.beat ≠ 0 := by have := hP.b0; grind
  obtain ⟨_, _, i3⟩ := mean_right hP ss m x hm hs hx hp hr
  have hl : (meanS P n ss).length = ss.length := by unfold meanS; simp
  unfold firstBad at h ⊢
  rw [List.find?_eq_none] at h ⊢
  rw [hl]
  intro j hj
  have hj' := List.mem_range.mp hj
  have h1 := h j hj
  unfold safeAt at h1 ⊢
  have hj2 : j < (placesM P m x ss).length := by have := placesM_length P ss m x; omega
  obtain ⟨p1, p2, p3⟩ := placesM_ok hP ss m x hm hs hx hp _ (List.getElem_mem hj2)
  have hms : (meanS P n ss)[j]? = some (ss[j].1, meanB P n ss[j].2) := by unfold meanS; simp [List.getElem?_eq_getElem hj']
  rw [i3, hms]
  rw [List.getElem?_eq_getElem hj2, List.getElem?_eq_getElem hj'] at h1
  rw [List.getElem?_eq_getElem hj2]
  dsimp only at h1 ⊢
  have hB := hs _ (List.getElem_mem hj')
  have hpl := mean_place hP hB (m := (placesM P m x ss)[j].1) p2
  have he := mean_end (x := (placesM P m x ss)[j].2) (b := P.beat) hB.segs p2 hb0
  unfold safeM at h1 ⊢
  rw [hpl]
  generalize (placesM P m x ss)[j] = q at *
  have hpass : passedM q.2 (meanB P n ss[j].2).segs = [q.2, endM q.2 ss[j].2.segs] := by
    show [q.2, movedM q.2 (meanM n ss[j].2.segs P.beat) P.beat] = _
    have : movedM q.2 (meanM n ss[j].2.segs P.beat) P.beat = endM q.2 [(P.beat, meanM n ss[j].2.segs P.beat)] := rfl
    rw [this, he]
  rw [hpass]
  simp only [Bool.not_eq_true', Bool.not_eq_true, Bool.not_eq_false', Bool.and_eq_true, List.all_eq_true, Bool.not_eq_false] at h1 ⊢
  refine ⟨fun y hy => ?_, h1.2⟩
  have hy' : y = q.2 ∨ y = endM q.2 ss[j].2.segs := by simpa using hy
  rcases hy' with rfl | rfl
  · exact h1.1 _ (by rw [passedM_cons]; simp)
  · exact h1.1 _ (List.mem_of_getLast? (passedM_last _ _))
section
variable {k : Nat} {μ : Store}
theorem r_mean_rates {n c e : Nat} {P : Pl} (hP : PlOk n P) (ss : List Seg) (hs : SegsOk n c e ss) (hl : ss.length ≤ 5) (hce : c + e ≤ 100) : Py.run fs Γ (k + 6) f_mean_rates [plD P, segsD ss] μ = some (ptD (meanM n ss P.beat), μ) := by
  have hn : n ≤ 2 := by rcases hP.hn with h | h <;> omega
  have hb0 : P.beat ≠ 0 := by have := hP.b0; grind
  have hse : segsD ss = .tup (ss.map segD) := rfl
  have c1 : ∀ x2 x3 x4 x5 x6 x7 : Option SV, ev (Py.run fs Γ (k + 5)) Γ c1_mean_rates [some (.val (plD P)), some (.val (segsD ss)), x2, x3, x4, x5, x6, x7] μ = some (.lst ((ss.map (·.1)).map rD), μ) := by
    intro x2 x3 x4 x5 x6 x7
    rw [c1_mean_rates, List.map_map]
    refine ev_lc_map (g := segD) ss (by rw [hse]; simp) (by omega) fun s _ => ?_
    exact ⟨[some (.val (plD P)), some (.val (segsD ss)), x2, some (.val (rD s.1)), some (.val (ptD s.2)), x5, x6, x7], by unfold segD; simp, by simp, by simp⟩
  have hr := rngS_map (n := n) (by omega)
  obtain ⟨env', e1, ⟨x6, x7, rfl⟩, _⟩ := forS_fold (t := T.nm 6) (b := fun env' μ' => exs (Py.run fs Γ (k + 5)) Γ l1_mean_rates env' μ') (μ := μ) (fun j : Nat => D.int (j : Int)) (fun (acc : List Rat) (j : Nat) => acc ++ [meanK ss P.beat j])
    (fun i acc env => (∃ x6 x7, env = [some (.val (plD P)), some (.val (segsD ss)), some (.val (.lst ((ss.map (·.1)).map rD))), none, none, some (.own (acc.map rD)), x6, x7]) ∧ acc.length = i) (List.range n) 0 [] [some (.val (plD P)), some (.val (segsD ss)), some (.val (.lst ((ss.map (·.1)).map rD))), none, none, some (.own []), none, none] ⟨⟨none, none, rfl⟩, rfl⟩ (by
      rintro j hj i acc env _ hi ⟨⟨x6, x7, rfl⟩, hacc⟩
      have hj' := List.mem_range.mp hj
      rw [List.length_range] at hi
      have c2 : ∀ x3 x4 x5 x7 : Option SV, ev (Py.run fs Γ (k + 5)) Γ c2_mean_rates [some (.val (plD P)), some (.val (segsD ss)), some (.val (.lst ((ss.map (·.1)).map rD))), x3, x4, x5, some (.val (.int j)), x7] μ = some (.lst ((ss.map fun s => s.2.getD j 0).map rD), μ) := by
        intro x3 x4 x5 x7
        have hmm : (ss.map fun s => s.2.getD j 0).map rD = ss.map fun s => rD (s.2.getD j 0) := by rw [List.map_map]; rfl
        rw [c2_mean_rates, hmm]
        refine ev_lc_map (g := segD) ss (by rw [hse]; simp) (by omega) fun s hs' => ?_
        obtain ⟨q1, q2, q3⟩ := hs s hs'
        have hjl : j < s.2.length := by omega
        have a1 : atI (s.2.map rD) (j : Int) = some (rD s.2[j]) := atI_map hjl
        have tx : itsS μ (ptD s.2) = some (s.2.map rD) := rfl
        have v1 : s.2.getD j 0 = s.2[j] := by simp [List.getD_eq_getElem?_getD, List.getElem?_eq_getElem hjl]
        refine ⟨[some (.val (plD P)), some (.val (segsD ss)), some (.val (.lst ((ss.map (·.1)).map rD))), x3, some (.val (rD s.1)), x5, some (.val (.int j)), some (.val (ptD s.2))], by unfold segD; simp, by simp, ?_⟩
        rw [v1]
        simp -implicitDefEqProofs [tx, a1]
      have h5 : ss.length * (e + c + 1) ≤ 5 * (e + c + 1) := Nat.mul_le_mul_right _ hl
      obtain ⟨g1, s1⟩ := r_blended_l (k := k) (μ := μ) (b := e) (c := c) (ss.map (·.1)) (ss.map fun s => s.2.getD j 0) (fun a ha => by
        obtain ⟨s, hs', rfl⟩ := List.mem_map.mp ha; exact (hs s hs').2.1) (fun a ha => by
        obtain ⟨s, hs', rfl⟩ := List.mem_map.mp ha
        obtain ⟨q1, q2, q3⟩ := hs s hs'
        have : j < s.2.length := by omega
        simp only [List.getD_eq_getElem?_getD, List.getElem?_eq_getElem this]
        exact q3 _ (List.getElem_mem this)) (by simp only [List.length_map]; omega)
      rw [List.length_map] at s1
      have g2 := r_over (k := k + 2) (μ := μ) (dot (ss.map (·.1)) (ss.map fun s => s.2.getD j 0)) P.beat hb0 s1 hP.bz (by omega)
      have hlt : acc.length < 16777216 := by omega
      refine ⟨[some (.val (plD P)), some (.val (segsD ss)), some (.val (.lst ((ss.map (·.1)).map rD))), none, none, some (.own (acc.map rD)), some (.val (.int j)), x7], [some (.val (plD P)), some (.val (segsD ss)), some (.val (.lst ((ss.map (·.1)).map rD))), none, none, some (.own ((acc ++ [meanK ss P.beat j]).map rD)), some (.val (.int j)), x7], by simp, .inl ?_, ⟨_, _, rfl⟩, by simp [hacc]⟩
      unfold meanK
      simp -implicitDefEqProofs [-List.map_map, -List.getD_eq_getElem?_getD, l1_mean_rates, c2, g1, pl2, at9_4, g2, szlt, hlt])
  have hfold : ∀ (l : List Nat) (acc : List Rat), l.foldl (fun (acc : List Rat) (j : Nat) => acc ++ [meanK ss P.beat j]) acc = acc ++ l.map (meanK ss P.beat) := by
    intro l
    induction l with
    | nil => intro acc; simp
    | cons a l ih => intro acc; rw [List.foldl_cons, ih]; simp
  rw [hfold, List.nil_append] at e1
  have hmn : (List.range n).map (meanK ss P.beat) = meanM n ss P.beat := rfl
  rw [hmn] at e1
  have hnl : (P.names.length : Int) = (n : Int) := by rw [hP.names]
  rw [u_mean_rates, b_mean_rates]
  simp -implicitDefEqProofs [-List.map_map, ex_for, c1, szle, pl2, at9_1, hnl, hr, e1]
  rfl
theorem r_mean_beat {n c e : Nat} {P : Pl} (hP : PlOk n P) (B : Beat) (hB : BtOk n c e P B) (hce : c + e ≤ 100) : Py.run fs Γ (k + 7) f_mean_beat [plD P, beatD B] μ = some (beatD (meanB P n B), μ) := by
  have g := r_mean_rates (k := k) (μ := μ) hP B.segs hB.segs hB.len hce
  have hb : beatD B = .tup [segsD B.segs, oD B.ix, kickD B] := rfl
  have hmb : beatD (meanB P n B) = .tup [.tup [.tup [rD P.beat, ptD (meanM n B.segs P.beat)]], oD B.ix, kickD B] := rfl
  rw [u_mean_beat, b_mean_beat, hb, hmb]
  simp -implicitDefEqProofs [g, pl2, at9_4, szle]
theorem r_mean_course {n c e : Nat} {P : Pl} (hP : PlOk n P) (x : List Rat) (ss : List Step) (hs : StepsOk n c e P ss) (hl : ss.length ≤ 50) (hce : c + e ≤ 100) : Py.run fs Γ (k + 8) f_mean_course [plD P, courseD x ss] μ = some (courseD x (meanS P n ss), μ) := by
  have hc : ∀ x2 x3 : Option SV, ev (Py.run fs Γ (k + 7)) Γ c1_mean_course [some (.val (plD P)), some (.val (courseD x ss)), x2, x3] μ = some (.lst (ss.map fun s => stepD (s.1, meanB P n s.2)), μ) := by
    intro x2 x3
    rw [c1_mean_course]
    refine ev_lc_map (g := stepD) ss (by simp -implicitDefEqProofs [tcD, at2_1]) (by omega) fun s hs' => ?_
    have g := r_mean_beat (k := k) (μ := μ) hP s.2 (hs s hs') hce
    exact ⟨[some (.val (plD P)), some (.val (courseD x ss)), some (.val (.int (s.1 : Int))), some (.val (beatD s.2))], by unfold stepD; simp, by simp, by simp -implicitDefEqProofs [g, szle, stepD]⟩
  rw [u_mean_course, b_mean_course]
  have hcd : courseD x (meanS P n ss) = .tup [ptD x, .tup (ss.map fun s => stepD (s.1, meanB P n s.2))] := by unfold courseD meanS; rw [List.map_map]; rfl
  rw [hcd]
  simp -implicitDefEqProofs [hc, tcD, at2_0, szle]
end
end P19
end
section
set_option Elab.async false
set_option linter.all false
set_option maxRecDepth 100000
set_option maxHeartbeats 0
namespace P19
open PySem L2 Py Geo FM
/-! ### beats drawn by a number -/
def cornerM (b : Box) (num : Nat) : List Rat := (List.range b.length).map fun j => if num / 2 ^ j % 2 = 1 then (b.getD j (0, 0)).2 else (b.getD j (0, 0)).1
def drawnM (P : Pl) (n m c : Nat) (x : List Rat) (num : Nat) : Beat :=
  let r := cornerM (boxOf P m c) num
  let t := choicesM P.sw m (movedM x r P.beat)
  let ix := (t[num / 2 ^ n % t.length]?).getD none
  ⟨[(P.beat, r)], ix, match ix with | some i => cornerM (kicksOf P i) (num / 2 ^ n / t.length) | none => []⟩
theorem corner_box {n : Nat} {b : Box} (hb : BOk n b) (num : Nat) : inBoxM b (cornerM b num) = true ∧ (cornerM b num).length = n ∧ ∀ y ∈ cornerM b num, Sz 7 y := by
  have hl : (cornerM b num).length = b.length := by unfold cornerM; simp
  refine ⟨inBox_iff.mpr ⟨hl, fun j hj => ?_⟩, by rw [hl]; exact hb.1, fun y hy => ?_⟩
  · have h := hb.2 _ (List.getElem_mem hj)
    have e : (cornerM b num).getD j 0 = if num / 2 ^ j % 2 = 1 then b[j].2 else b[j].1 := by
      unfold cornerM
      simp [List.getD_eq_getElem?_getD, List.getElem?_map, List.getElem?_range hj, List.getElem?_eq_getElem hj]
    have e2 : b.getD j (0, 0) = b[j] := by simp [List.getD_eq_getElem?_getD, List.getElem?_eq_getElem hj]
    rw [e, e2]
    split
    · exact ⟨h.2.2, by grind⟩
    · exact ⟨by grind, h.2.2⟩
  · obtain ⟨j, hj, rfl⟩ := List.mem_map.mp hy
    have hj' := List.mem_range.mp hj
    have h := hb.2 _ (List.getElem_mem hj')
    have e2 : b.getD j (0, 0) = b[j] := by simp [List.getD_eq_getElem?_getD, List.getElem?_eq_getElem hj']
    rw [e2]
    split
    · exact h.2.1
    · exact h.1
theorem drawn_ok {n : Nat} {P : Pl} (hP : PlOk n P) {m c : Nat} (hm : m < P.modes.length) (hc : c < P.cmds.length) (x : List Rat) (num : Nat) : BtOk n 9 6 P (drawnM P n m c x num) ∧ BeatR P m c x (drawnM P n m c x num) := by
  obtain ⟨q1, q2, q3, q4⟩ := boxOf_eq hP hm hc
  have hb := corner_box (b := boxOf P m c) (by rw [q3]; exact q4) num
  have hlen := choicesM_len P.sw m (movedM x (cornerM (boxOf P m c) num) P.beat)
  have hmod : num / 2 ^ n % (choicesM P.sw m (movedM x (cornerM (boxOf P m c) num) P.beat)).length < (choicesM P.sw m (movedM x (cornerM (boxOf P m c) num) P.beat)).length := Nat.mod_lt _ hlen.1
  have hix : (drawnM P n m c x num).ix = (choicesM P.sw m (movedM x (cornerM (boxOf P m c) num) P.beat))[num / 2 ^ n % (choicesM P.sw m (movedM x (cornerM (boxOf P m c) num) P.beat)).length] := by
    unfold drawnM
    simp [List.getElem?_eq_getElem hmod]
  have hmem : (drawnM P n m c x num).ix ∈ choicesM P.sw m (movedM x (cornerM (boxOf P m c) num) P.beat) := by rw [hix]; exact List.getElem_mem hmod
  have hk : ∀ i, (drawnM P n m c x num).ix = some i → (drawnM P n m c x num).kick = cornerM (kicksOf P i) (num / 2 ^ n / (choicesM P.sw m (movedM x (cornerM (boxOf P m c) num) P.beat)).length) := by
    intro i hi
    have : (drawnM P n m c x num).kick = match (drawnM P n m c x num).ix with | some i => cornerM (kicksOf P i) (num / 2 ^ n / (choicesM P.sw m (movedM x (cornerM (boxOf P m c) num) P.beat)).length) | none => [] := rfl
    rw [this, hi]
  refine ⟨⟨fun s hs => ?_, by unfold drawnM; simp, fun i hi => ?_⟩, ⟨fun s hs => ?_, sumT_one _ _, hmem, fun i hi => ?_⟩⟩
  · have : s = (P.beat, cornerM (boxOf P m c) num) := by simpa [drawnM] using hs
    rw [this]
    exact ⟨hb.2.1, hP.bz.mono (by decide), fun y hy => (hb.2.2 y hy).mono (by decide)⟩
  · rw [hi] at hmem
    obtain ⟨h1, _⟩ := choicesM_lt hmem
    obtain ⟨k1, k2⟩ := kicksOf_eq hP h1
    have hkb := corner_box (b := kicksOf P i) (by rw [k1]; exact k2) (num / 2 ^ n / (choicesM P.sw m (movedM x (cornerM (boxOf P m c) num) P.beat)).length)
    rw [hk i hi]
    exact ⟨h1, hkb.2.1, fun y hy => (hkb.2.2 y hy).mono (by decide)⟩
  · have : s = (P.beat, cornerM (boxOf P m c) num) := by simpa [drawnM] using hs
    rw [this]
    exact ⟨hP.b0, hb.1⟩
  · rw [hi] at hmem
    obtain ⟨h1, _⟩ := choicesM_lt hmem
    obtain ⟨k1, k2⟩ := kicksOf_eq hP h1
    rw [hk i hi]
    exact (corner_box (b := kicksOf P i) (by rw [k1]; exact k2) _).1
section
variable {k : Nat} {μ : Store}
theorem tpair (p : Rat × Rat) : ∀ μ : Store, itsS μ (pairD p) = some [rD p.1, rD p.2] := fun _ => rfl
theorem r_corner {n : Nat} (hn : n = 1 ∨ n = 2) {b : Box} (hb : BOk n b) (num : Nat) : Py.run fs Γ (k + 1) f_corner [boxD b, .int num] μ = some (ptD (cornerM b num), μ) := by
  have tb : ∀ μ : Store, itsS μ (boxD b) = some (b.map pairD) := fun _ => rfl
  have hr := rngS_map (n := b.length) (by rw [hb.1]; omega)
  have hc : ∀ x2 : Option SV, ev (Py.run fs Γ k) Γ c1_corner [some (.val (boxD b)), some (.val (.int num)), x2] μ = some (.lst ((cornerM b num).map rD), μ) := by
    intro x2
    rw [c1_corner]
    unfold cornerM
    rw [List.map_map]
    refine ev_lc_map (g := fun j : Nat => D.int (j : Int)) (List.range b.length) (by simp -implicitDefEqProofs [tb, hr]) (by simp [hb.1]; omega) fun j hj => ?_
    have hj' := List.mem_range.mp hj
    have a1 : atI (b.map pairD) (j : Int) = some (pairD b[j]) := atI_map hj'
    have e2 : b.getD j (0, 0) = b[j] := by simp [List.getD_eq_getElem?_getD, List.getElem?_eq_getElem hj']
    have h0 : (0 : Int) ≤ (num : Int) / 2 ^ j := Int.ediv_nonneg (by omega) (Int.pow_nonneg (by omega))
    have hcast : (num : Int) / 2 ^ j % 2 = ((num / 2 ^ j % 2 : Nat) : Int) := by
      rw [Int.natCast_emod, Int.natCast_ediv, Int.natCast_pow]; rfl
    refine ⟨[some (.val (boxD b)), some (.val (.int num)), some (.val (.int j))], by simp, by simp, ?_⟩
    simp only [Function.comp_apply, e2]
    by_cases c : num / 2 ^ j % 2 = 1
    · have c' : (num : Int) / 2 ^ j % 2 = 1 := by rw [hcast, c]; rfl
      rw [if_pos c]
      simp -implicitDefEqProofs [tb, a1, h0, c', eqS_int, tpair, at2_1]
    · have c' : ¬ (num : Int) / 2 ^ j % 2 = 1 := by rw [hcast]; omega
      rw [if_neg c]
      simp -implicitDefEqProofs [tb, a1, h0, c', eqS_int, tpair, at2_0]
  rw [u_corner, b_corner]
  simp -implicitDefEqProofs [hc]
  rfl
theorem r_lcorner {n : Nat} (hn : n = 1 ∨ n = 2) {b : Box} (hb : BOk n b) (num : Nat) : Py.run fs Γ (k + 1) f__law_corner [boxD b, .int num] μ = some (ptD (cornerM b num), μ) := by
  have tb : ∀ μ : Store, itsS μ (boxD b) = some (b.map pairD) := fun _ => rfl
  have hr := rngS_map (n := b.length) (by rw [hb.1]; omega)
  have hc : ∀ x2 : Option SV, ev (Py.run fs Γ k) Γ c1__law_corner [some (.val (boxD b)), some (.val (.int num)), x2] μ = some (.lst ((cornerM b num).map rD), μ) := by
    intro x2
    rw [c1__law_corner]
    unfold cornerM
    rw [List.map_map]
    refine ev_lc_map (g := fun j : Nat => D.int (j : Int)) (List.range b.length) (by simp -implicitDefEqProofs [tb, hr]) (by simp [hb.1]; omega) fun j hj => ?_
    have hj' := List.mem_range.mp hj
    have a1 : atI (b.map pairD) (j : Int) = some (pairD b[j]) := atI_map hj'
    have e2 : b.getD j (0, 0) = b[j] := by simp [List.getD_eq_getElem?_getD, List.getElem?_eq_getElem hj']
    refine ⟨[some (.val (boxD b)), some (.val (.int num)), some (.val (.int j))], by simp, by simp, ?_⟩
    simp only [Function.comp_apply, e2]
    have hp : ∃ p : Int, p = 2 ^ j ∧ atI [D.int 1, D.int 2, D.int 4] (j : Int) = some (.int p) ∧ divOk p = true := by
      have : j = 0 ∨ j = 1 := by rw [hb.1] at hj'; omega
      rcases this with rfl | rfl
      · exact ⟨1, rfl, by simp [atI, ixN], by decide +kernel⟩
      · exact ⟨2, rfl, by simp [atI, ixN], by decide +kernel⟩
    obtain ⟨p, hp1, hp2, hp3⟩ := hp
    have hcast : ((num : Int) / p).fmod 2 = ((num / 2 ^ j % 2 : Nat) : Int) := by
      rw [hp1, Int.fmod_eq_emod_of_nonneg _ (by decide), Int.natCast_emod, Int.natCast_ediv, Int.natCast_pow]; rfl
    by_cases c : num / 2 ^ j % 2 = 1
    · rw [c] at hcast
      rw [if_pos c]
      simp -implicitDefEqProofs [tb, a1, szle, hp2, hp3, hcast, tpair, at2_1]
    · have c0 : num / 2 ^ j % 2 = 0 := by omega
      rw [c0] at hcast
      rw [if_neg c]
      simp -implicitDefEqProofs [tb, a1, szle, hp2, hp3, hcast, tpair, at2_0]
  rw [u__law_corner, b__law_corner]
  simp -implicitDefEqProofs [hc]
  rfl
theorem r_drawn_beat {n b : Nat} {P : Pl} (hP : PlOk n P) {m c : Nat} (hm : m < P.modes.length) (hcm : c < P.cmds.length) (x : List Rat) (hx : x.length = n) (hb : ∀ z ∈ x, Sz b z) (hz : b ≤ 2000) (num : Nat) (hnum : num < 1000) : Py.run fs Γ (k + 12) f_drawn_beat [plD P, .int m, .int c, ptD x, .int num] μ = some (beatD (drawnM P n m c x num), μ) := by
  obtain ⟨q1, q2, q3, q4⟩ := boxOf_eq hP hm hcm
  have hbx := corner_box (b := boxOf P m c) (by rw [q3]; exact q4) num
  have hn : n ≤ 1000 := by rcases hP.hn with h | h <;> omega
  have g1 := r_rates_of (k := k + 10) (μ := μ) P m c q1 q2
  rw [← q3] at g1 q4
  have g2 := r_corner (k := k + 10) (μ := μ) hP.hn q4 num
  have g3 := r_moved (k := k + 7) (μ := μ) x (cornerM (boxOf P m c) num) P.beat hx hbx.2.1 hn hb hbx.2.2 hP.bz (by omega)
  have hml : (movedM x (cornerM (boxOf P m c) num) P.beat).length = n := by rw [movedM_length (by rw [hx, hbx.2.1])]; exact hx
  have g4 := r_choices (k := k) (μ := μ) hP m (movedM x (cornerM (boxOf P m c) num) P.beat) hml (movedM_sz hb hbx.2.2 hP.bz) (by omega)
  have hlen := choicesM_len P.sw m (movedM x (cornerM (boxOf P m c) num) P.beat)
  have tr : itsS μ (ptD (cornerM (boxOf P m c) num)) = some ((cornerM (boxOf P m c) num).map rD) := rfl
  have hshr : (num : Int) / 2 ^ n = ((num / 2 ^ n : Nat) : Int) := by rw [Int.natCast_ediv, Int.natCast_pow]; rfl
  have hle : num / 2 ^ n ≤ num := Nat.div_le_self _ _
  have hclt : ∀ i, some i ∈ choicesM P.sw m (movedM x (cornerM (boxOf P m c) num) P.beat) → i < P.sw.length := fun i hi => (choicesM_lt hi).1
  unfold drawnM
  dsimp only
  generalize choicesM P.sw m (movedM x (cornerM (boxOf P m c) num) P.beat) = t at *
  have hmod : num / 2 ^ n % t.length < t.length := Nat.mod_lt _ hlen.1
  have hfm : (((num / 2 ^ n : Nat) : Int)).fmod (t.length : Int) = ((num / 2 ^ n % t.length : Nat) : Int) := by
    rw [Int.fmod_eq_emod_of_nonneg _ (by omega)]; exact (Int.natCast_emod _ _).symm
  have a1 : atI (t.map oD) ((num / 2 ^ n % t.length : Nat) : Int) = some (oD t[num / 2 ^ n % t.length]) := atI_map hmod
  have hne : t.length ≠ 0 := by omega
  rw [List.getElem?_eq_getElem hmod, Option.getD_some]
  have hmem : t[num / 2 ^ n % t.length] ∈ t := List.getElem_mem hmod
  have hdiv : divOk (t.length : Int) = true := divOk_of (b := 10) (by omega) (by have := hP.sl; omega) (by decide)
  have hdd : ((num / 2 ^ n : Nat) : Int) / (t.length : Int) = ((num / 2 ^ n / t.length : Nat) : Int) := (Int.natCast_ediv _ _).symm
  generalize ho : t[num / 2 ^ n % t.length] = o at *
  clear ho
  generalize num / 2 ^ n % t.length = rr at *
  generalize num / 2 ^ n / t.length = ss at *
  generalize num / 2 ^ n = q at *
  have gend : Py.run fs Γ (k + 11) f_drawn_end [plD P, .int m, ptD (movedM x (cornerM (boxOf P m c) num) P.beat), .int (q : Int)] μ = some (match o with | none => .tup [.non, .non] | some i => .tup [.int (i : Int), ptD (cornerM (kicksOf P i) ss)], μ) := by
    rw [u_drawn_end, b_drawn_end]
    have hnz : ¬ (t.length : Int) = 0 := by omega
    cases o with
    | none =>
      simp -implicitDefEqProofs [g4, hne, hnz, hfm, a1, oD, n2, szle]
    | some i =>
      have hi := hclt i hmem
      obtain ⟨k1, k2⟩ := kicksOf_eq hP hi
      rw [← k1] at k2
      have g5 := r_corner (k := k + 9) (μ := μ) hP.hn k2 ss
      have a2 : atI (P.sw.map swD) (i : Int) = some (swD P.sw[i]) := atI_map hi
      rw [k1] at g5
      simp -implicitDefEqProofs [g4, hne, hnz, hfm, a1, oD, n1, szle, pl2, at9_6, a2, sw2, at6_5, hdiv, hdd, g5, k1]
  have tP : ∀ μ : Store, itsS μ (plD P) = some [.str "p", .tup P.names, .tup P.modes, .tup P.cmds, rD P.beat, .tup (P.rates.map rowD), .tup (P.sw.map swD), P.x7, P.x8] := pl2 P
  have hnl : (((cornerM (boxOf P m c) num).map rD).length : Int) = (n : Int) := by rw [List.length_map, hbx.2.1]
  have hnl2 : ((cornerM (boxOf P m c) num).length : Int) = (n : Int) := by rw [hbx.2.1]
  have hge : (0 : Int) ≤ (n : Int) := by omega
  rw [u_drawn_beat, b_drawn_beat]
  unfold beatD kickD segsD segD
  cases o with
  | none =>
    simp -implicitDefEqProofs [g1, g2, g3, tr, tP, at9_4, hnl, hnl2, hge, hshr, gend, szle, oD]
  | some i =>
    simp -implicitDefEqProofs [g1, g2, g3, tr, tP, at9_4, hnl, hnl2, hge, hshr, gend, szle, oD]
theorem r_ldrawn_beat {n b : Nat} {P : Pl} (hP : PlOk n P) {m c : Nat} (hm : m < P.modes.length) (hcm : c < P.cmds.length) (x : List Rat) (hx : x.length = n) (hb : ∀ z ∈ x, Sz b z) (hz : b ≤ 2000) (num : Nat) (hnum : num < 1000) : Py.run fs Γ (k + 8) f__law_drawn_beat [plD P, .int m, .int c, ptD x, .int num] μ = some (beatD (drawnM P n m c x num), μ) := by
  obtain ⟨q1, q2, q3, q4⟩ := boxOf_eq hP hm hcm
  have hbx := corner_box (b := boxOf P m c) (by rw [q3]; exact q4) num
  have hn : n ≤ 1000 := by rcases hP.hn with h | h <;> omega
  rw [← q3] at q4
  have a3 : atI (P.rates.map rowD) (m : Int) = some (rowD P.rates[m]) := atI_map q1
  have a4 : atI (P.rates[m].map boxD) (c : Int) = some (boxD (boxOf P m c)) := by rw [atI_map q2, q3]
  have t4 : ∀ μ : Store, itsS μ (rowD P.rates[m]) = some (P.rates[m].map boxD) := fun _ => rfl
  have tb : ∀ μ : Store, itsS μ (boxD (boxOf P m c)) = some ((boxOf P m c).map pairD) := fun _ => rfl
  have g2 := r_lcorner (k := k + 6) (μ := μ) hP.hn q4 num
  have g3 := r_lmoved (k := k + 4) (μ := μ) x (cornerM (boxOf P m c) num) P.beat hx hbx.2.1 hn hb hbx.2.2 hP.bz (by omega)
  have hml : (movedM x (cornerM (boxOf P m c) num) P.beat).length = n := by rw [movedM_length (by rw [hx, hbx.2.1])]; exact hx
  have g4 := r_lchoices (k := k + 1) (μ := μ) hP m (movedM x (cornerM (boxOf P m c) num) P.beat) hml (movedM_sz hb hbx.2.2 hP.bz) (by omega)
  have hlen := choicesM_len P.sw m (movedM x (cornerM (boxOf P m c) num) P.beat)
  have hclt : ∀ i, some i ∈ choicesM P.sw m (movedM x (cornerM (boxOf P m c) num) P.beat) → i < P.sw.length := fun i hi => (choicesM_lt hi).1
  have hp : ∃ p : Int, p = 2 ^ n ∧ atI [D.int 1, D.int 2, D.int 4, D.int 8] ((boxOf P m c).length : Int) = some (.int p) ∧ divOk p = true := by
    rw [q4.1]
    rcases hP.hn with rfl | rfl
    · exact ⟨2, rfl, by simp [atI, ixN], by decide +kernel⟩
    · exact ⟨4, rfl, by simp [atI, ixN], by decide +kernel⟩
  obtain ⟨p, hp1, hp2, hp3⟩ := hp
  have hleft : (num : Int) / p = ((num / 2 ^ n : Nat) : Int) := by rw [hp1, Int.natCast_ediv, Int.natCast_pow]; rfl
  unfold drawnM
  dsimp only
  generalize choicesM P.sw m (movedM x (cornerM (boxOf P m c) num) P.beat) = t at *
  have hmod : num / 2 ^ n % t.length < t.length := Nat.mod_lt _ hlen.1
  have hfm : (((num / 2 ^ n : Nat) : Int)).fmod (t.length : Int) = ((num / 2 ^ n % t.length : Nat) : Int) := by
    rw [Int.fmod_eq_emod_of_nonneg _ (by omega)]; exact (Int.natCast_emod _ _).symm
  have a1 : atI (t.map oD) ((num / 2 ^ n % t.length : Nat) : Int) = some (oD t[num / 2 ^ n % t.length]) := atI_map hmod
  have hne : t.length ≠ 0 := by omega
  have hnz : ¬ (t.length : Int) = 0 := by omega
  rw [List.getElem?_eq_getElem hmod, Option.getD_some]
  have hmem : t[num / 2 ^ n % t.length] ∈ t := List.getElem_mem hmod
  have hdiv : divOk (t.length : Int) = true := divOk_of (b := 10) (by omega) (by have := hP.sl; omega) (by decide)
  have hdd : ((num / 2 ^ n : Nat) : Int) / (t.length : Int) = ((num / 2 ^ n / t.length : Nat) : Int) := (Int.natCast_ediv _ _).symm
  rw [u__law_drawn_beat, b__law_drawn_beat]
  generalize ho : t[num / 2 ^ n % t.length] = o at *
  clear ho
  generalize num / 2 ^ n % t.length = rr at *
  generalize num / 2 ^ n / t.length = ss at *
  generalize num / 2 ^ n = q at *
  unfold beatD kickD segsD segD
  cases o with
  | none =>
    simp -implicitDefEqProofs [pl2, at9_5, at9_4, a3, t4, a4, tb, g2, g3, hp2, hp3, hleft, g4, hne, hnz, hfm, a1, oD, n2, szle]
  | some i =>
    have hi := hclt i hmem
    obtain ⟨k1, k2⟩ := kicksOf_eq hP hi
    rw [← k1] at k2
    have g5 := r_lcorner (k := k + 6) (μ := μ) hP.hn k2 ss
    have a2 : atI (P.sw.map swD) (i : Int) = some (swD P.sw[i]) := atI_map hi
    rw [k1] at g5
    simp -implicitDefEqProofs [pl2, at9_5, at9_4, at9_6, a3, t4, a4, tb, g2, g3, hp2, hp3, hleft, g4, hne, hnz, hfm, a1, oD, n1, szle, a2, sw2, at6_5, hdiv, hdd, g5, k1]
end
end P19
end
section
set_option Elab.async false
set_option linter.all false
set_option maxRecDepth 100000
set_option maxHeartbeats 0
namespace P19
open PySem L2 Py Geo FM
/-! ### what is drawn: plants -/
def Tight (p : Rat × Rat) : Prop := Sz 3 p.1 ∧ Sz 7 p.2 ∧ p.1 ≤ p.2 ∧ Sz 2 (p.2 - p.1)
def BT (n : Nat) (b : Box) : Prop := b.length = n ∧ ∀ p ∈ b, Tight p
theorem BT.ok {n : Nat} {b : Box} (h : BT n b) : BOk n b := ⟨h.1, fun p hp => ⟨(h.2 p hp).1.mono (by decide), (h.2 p hp).2.1, (h.2 p hp).2.2.1⟩⟩
def PlT (n : Nat) (P : Pl) : Prop := (∀ r ∈ P.rates, ∀ b ∈ r, BT n b) ∧ ∀ s ∈ P.sw, BT n s.kicks
section
variable {k : Nat} (ns : List Int) (t : Int) (h : DealOk ns t)
include h
theorem r_takeN (m : Nat) (hm : 0 < m) (a : Nat) (ha : a < 100000) : ∃ r : Nat, r < m ∧ Py.run fs Γ (k + 1) f__law_take [dealD ns t, .int (m : Int)] (Sa a) = some (.int (r : Int), Sa (a + 1)) := by
  obtain ⟨r, h1, h2, e⟩ := r_take (k := k) (a := a) ns t (m : Int) h (by omega) ha
  obtain ⟨r', rfl⟩ := Int.eq_ofNat_of_zero_le h1
  exact ⟨r', by omega, e⟩
theorem r_small (a : Nat) (ha : a < 90000) : ∃ r a', Py.run fs Γ (k + 2) f__law_small [dealD ns t] (Sa a) = some (rD r, Sa a') ∧ a ≤ a' ∧ a' ≤ a + 3 ∧ Sz 3 r := by
  obtain ⟨r1, b1, b2, e1⟩ := r_take (k := k) (a := a) ns t 4 h (by decide) (by omega)
  rw [u__law_small, b__law_small]
  by_cases c : r1 = 0
  · subst c
    obtain ⟨r2, b3, b4, e2⟩ := r_take (k := k) (a := a + 1) ns t 7 h (by decide) (by omega)
    obtain ⟨r3, b5, b6, e3⟩ := r_take (k := k) (a := a + 2) ns t 3 h (by decide) (by omega)
    have f1 := r_lratio (k := k) (n := 3) (μ := Sa (a + 3)) (r2 - 3) (1 + r3) (by omega) (by omega) (by omega) (by decide)
    refine ⟨Rat.divInt (r2 - 3) (1 + r3), a + 3, ?_, by omega, by omega, Sz.divInt (by omega) (by omega) (by omega)⟩
    simp -implicitDefEqProofs [e1, e2, e3, f1, eqS_int]
  · obtain ⟨r2, b3, b4, e2⟩ := r_take (k := k) (a := a + 1) ns t 9 h (by decide) (by omega)
    refine ⟨((r2 - 4 : Int) : Rat), a + 2, ?_, by omega, by omega, Sz.int (by omega)⟩
    rw [rD_int]
    simp -implicitDefEqProofs [e1, e2, c, szle, eqS_int]
theorem r_pair (w : Nat) (hw : w = 1 ∨ w = 2) (a : Nat) (ha : a < 80000) : ∃ p a', Py.run fs Γ (k + 3) f__law_pair [dealD ns t, .int (w : Int)] (Sa a) = some (pairD p, Sa a') ∧ a ≤ a' ∧ a' ≤ a + 4 ∧ Tight p := by
  obtain ⟨lo, a1, e1, b1, b2, b3⟩ := r_small (k := k) ns t h a (by omega)
  obtain ⟨r, c1, e2⟩ := r_takeN (k := k + 1) ns t h (w + 1) (by omega) a1 (by omega)
  have hc : ((w + 1 : Nat) : Int) = (w : Int) + 1 := by omega
  rw [hc] at e2
  have sr : Sz 2 ((r : Int) : Rat) := Sz.int (by omega)
  have g := r_lplus (k := k) (n := 6) (μ := Sa (a1 + 1)) lo ((r : Int) : Rat) b3 sr (by decide) (by decide)
  rw [rD_int] at g
  have h0 : (0 : Rat) ≤ ((r : Int) : Rat) := by exact_mod_cast (show (0 : Int) ≤ (r : Int) by omega)
  refine ⟨(lo, lo + ((r : Int) : Rat)), a1 + 1, ?_, by omega, by omega, b3, (b3.add sr).mono (by decide), by dsimp only; grind, ?_⟩
  · rw [u__law_pair, b__law_pair]
    simp -implicitDefEqProofs [e1, e2, g, szle, pairD]
  · have : lo + ((r : Int) : Rat) - lo = ((r : Int) : Rat) := by grind
    dsimp only
    rw [this]; exact sr
theorem r_point (n : Nat) (hn : n ≤ 2) (a : Nat) (ha : a < 80000) : ∃ x a', Py.run fs Γ (k + 3) f__law_point [dealD ns t, .int (n : Int)] (Sa a) = some (ptD x, Sa a') ∧ a ≤ a' ∧ a' ≤ a + 6 ∧ x.length = n ∧ ∀ y ∈ x, Sz 3 y := by
  have hr := rngS_map (n := n) (by omega)
  obtain ⟨f, a1, g1, g2, g3, g4, g5⟩ := ev_lc_draw (Φ := Py.run fs Γ (k + 2)) (Γ := Γ) (x := E.call 61 (E.slot 0) Es.nil) (t := T.nm 2) (it := I.rng1 (E.slot 1)) (vs := [2]) (env := [some (.val (dealD ns t)), some (.val (.int (n : Int))), none]) (enc := rD) (P := Sz 3) (a0 := a) (a := a) (ds := (List.range n).map fun m : Nat => D.int (m : Int)) 3 90000
    (by simp -implicitDefEqProofs [hr]) (by simp; omega) (by simp; omega) (fun d hd a ha => by
      obtain ⟨r, a', e2, b3, b4, b5⟩ := r_small (k := k) ns t h a (by omega)
      exact ⟨[some (.val (dealD ns t)), some (.val (.int (n : Int))), some (.val d)], r, a', by simp, by simp -implicitDefEqProofs [e2], b5, by omega, by omega⟩)
  have g1' : ev (Py.run fs Γ (k + 2)) Γ c1__law_point [some (.val (dealD ns t)), some (.val (.int (n : Int))), none] (Sa a) = _ := g1
  rw [List.length_map, List.length_range] at g2 g5
  refine ⟨f, a1, ?_, by omega, by omega, g2, g3⟩
  rw [u__law_point, b__law_point]
  simp -implicitDefEqProofs [g1']
  rfl
omit h in
theorem r_line {μ : Store} (n i : Nat) (lo hi : Rat) (hn : n ≤ 1000) : Py.run fs Γ (k + 1) f__law_line [.int i, .int n, rD lo, rD hi] μ = some (.tup [bdD ⟨unitL n i 1, -lo, false⟩, bdD ⟨unitL n i (-1), hi, false⟩], μ) := by
  have hr := rngS_map (n := n) (by omega)
  have hm : ∀ v : Rat, (unitL n i v).map rD = (List.range n).map fun m => rD (if m = i then v else 0) := fun v => by unfold unitL; rw [List.map_map]; rfl
  have e1 : ∀ x4 x5 x6 : Option SV, ev (Py.run fs Γ k) Γ c1__law_line [some (.val (.int i)), some (.val (.int n)), some (.val (rD lo)), some (.val (rD hi)), x4, x5, x6] μ = some (.lst ((unitL n i 1).map rD), μ) := by
    intro x4 x5 x6
    rw [c1__law_line, hm]
    refine ev_lc_map (g := fun m : Nat => D.int (m : Int)) (List.range n) (by simp -implicitDefEqProofs [hr]) (by simp; omega) fun m _ => ?_
    refine ⟨[some (.val (.int i)), some (.val (.int n)), some (.val (rD lo)), some (.val (rD hi)), x4, some (.val (.int (m : Int))), x6], by simp, by simp, ?_⟩
    by_cases c : m = i
    · subst c
      simp -implicitDefEqProofs [szle, eqS_int, rD_one]
    · have c' : ¬ (m : Int) = i := by omega
      simp -implicitDefEqProofs [szle, eqS_int, rD_zero, c, c']
  have e2 : ∀ x4 x5 x6 : Option SV, ev (Py.run fs Γ k) Γ c2__law_line [some (.val (.int i)), some (.val (.int n)), some (.val (rD lo)), some (.val (rD hi)), x4, x5, x6] μ = some (.lst ((unitL n i (-1)).map rD), μ) := by
    intro x4 x5 x6
    rw [c2__law_line, hm]
    refine ev_lc_map (g := fun m : Nat => D.int (m : Int)) (List.range n) (by simp -implicitDefEqProofs [hr]) (by simp; omega) fun m _ => ?_
    refine ⟨[some (.val (.int i)), some (.val (.int n)), some (.val (rD lo)), some (.val (rD hi)), x4, some (.val (.int (m : Int))), x6], by simp, by simp, ?_⟩
    have h1 : rD (-1) = .tup [.int (-1), .int 1] := rfl
    by_cases c : m = i
    · subst c
      simp -implicitDefEqProofs [szle, eqS_int, h1]
    · have c' : ¬ (m : Int) = i := by omega
      simp -implicitDefEqProofs [szle, eqS_int, rD_zero, c, c']
  have t1 : itsS μ (rD lo) = some [.int lo.num, .int lo.den] := rfl
  rw [u__law_line, b__law_line]
  unfold bdD
  simp -implicitDefEqProofs [e1, e2, szle, t1, atI, ixN, rD_neg]
omit h in
theorem unit_ok {n i : Nat} {v r : Rat} {s : Bool} (hv : Sz 4 v) (hr : Sz 4 r) : (⟨unitL n i v, r, s⟩ : Bd).f.length = n ∧ BSz 4 ⟨unitL n i v, r, s⟩ := by
  refine ⟨by simp [unitL], fun a ha => ?_, hr⟩
  unfold unitL at ha
  obtain ⟨m, _, rfl⟩ := List.mem_map.mp ha
  split
  · exact hv
  · exact sz_zero (by decide)
theorem r_stay (n : Nat) (hn : n ≤ 2) (a : Nat) (ha : a < 80000) : ∃ bs a', Py.run fs Γ (k + 2) f__law_stay [dealD ns t, .int (n : Int)] (Sa a) = some (bsD bs, Sa a') ∧ a ≤ a' ∧ a' ≤ a + 4 ∧ GOk n bs := by
  have hr := rngS_0 (n := n) (by omega)
  obtain ⟨env', μ', e, bs, a', x3, x4, rfl, rfl, c1, c2, c3, c4⟩ := forS_inv (t := T.nm 3) (b := fun env' μ' => exs (Py.run fs Γ (k + 1)) Γ l1__law_stay env' μ') (ds := rangeD 0 n) (env := [some (.val (dealD ns t)), some (.val (.int (n : Int))), some (.val (.tup [])), none, none]) (μ := Sa a)
    (fun i env m' => ∃ (bs : List Bd) (a' : Nat) (x3 x4 : Option SV), env = [some (.val (dealD ns t)), some (.val (.int (n : Int))), some (.val (bsD bs)), x3, x4] ∧ m' = Sa a' ∧ a ≤ a' ∧ a' ≤ a + 2 * i ∧ bs.length = 2 * i ∧ ∀ B ∈ bs, B.f.length = n ∧ BSz 4 B)
    ⟨[], a, none, none, rfl, rfl, Nat.le_refl _, Nat.le_refl _, rfl, fun _ h => by cases h⟩ (by
      rintro i env m' d hd ⟨bs, a', x3, x4, rfl, rfl, c1, c2, c3, c4⟩
      obtain ⟨rfl, hi⟩ := rangeD_get hd
      rw [Int.zero_add]
      obtain ⟨r1, b1, e1⟩ := r_takeN (k := k) ns t h 6 (by decide) a' (by omega)
      obtain ⟨r2, b2, e2⟩ := r_takeN (k := k) ns t h 6 (by decide) (a' + 1) (by omega)
      have g := r_line (k := k) (μ := Sa (a' + 2)) n i (((-(2 + (r1 : Int)) : Int)) : Rat) ((2 + (r2 : Int) : Int) : Rat) (by omega)
      rw [rD_int, rD_int] at g
      have hbs : bsD bs = .tup (bs.map bdD) := rfl
      have hlen : bs.length + 1 + 1 ≤ 16777216 := by omega
      refine ⟨[some (.val (dealD ns t)), some (.val (.int (n : Int))), some (.val (bsD bs)), some (.val (.int (i : Int))), x4], [some (.val (dealD ns t)), some (.val (.int (n : Int))), some (.val (bsD (bs ++ [⟨unitL n i 1, -(((-(2 + (r1 : Int)) : Int)) : Rat), false⟩, ⟨unitL n i (-1), ((2 + (r2 : Int) : Int) : Rat), false⟩]))), some (.val (.int (i : Int))), some (.val (.tup [.int (-(2 + (r1 : Int))), .int 1]))], Sa (a' + 2), by simp, .inl ?_, _, a' + 2, _, _, rfl, rfl, by omega, by omega, by simp; omega, ?_⟩
      · have hc6 : ((6 : Nat) : Int) = 6 := rfl
        rw [hc6] at e1 e2
        rw [hbs]
        unfold bsD
        rw [List.map_append]
        simp -implicitDefEqProofs [l1__law_stay, e1, e2, g, szle, hlen]
      · intro B hB
        rcases List.mem_append.mp hB with hB | hB
        · exact c4 B hB
        · have hB' : B = ⟨unitL n i 1, -(((-(2 + (r1 : Int)) : Int)) : Rat), false⟩ ∨ B = ⟨unitL n i (-1), ((2 + (r2 : Int) : Int) : Rat), false⟩ := by simpa using hB
          rcases hB' with rfl | rfl
          · exact unit_ok (sz_one (by decide)) (Sz.int (by omega)).neg
          · exact unit_ok (sz_one (by decide)).neg (Sz.int (by omega)))
  rw [rangeD_len] at c2 c3
  have hnil : bsD [] = .tup [] := rfl
  refine ⟨bs, a', ?_, by omega, by omega, by omega, c4⟩
  rw [u__law_stay, b__law_stay]
  simp -implicitDefEqProofs [ex_for, hr, e, szle]
theorem r_guard (n : Nat) (hn : n = 1 ∨ n = 2) (a : Nat) (ha : a < 80000) : ∃ bs a', Py.run fs Γ (k + 2) f__law_guard [dealD ns t, .int (n : Int)] (Sa a) = some (bsD bs, Sa a') ∧ a ≤ a' ∧ a' ≤ a + 4 ∧ GOk n bs := by
  obtain ⟨r1, b1, b2, e1⟩ := r_take (k := k) (a := a) ns t 3 h (by decide) (by omega)
  rw [u__law_guard, b__law_guard]
  by_cases c : r1 = 0
  · refine ⟨[], a + 1, ?_, by omega, by omega, by simp, fun _ h => by cases h⟩
    simp -implicitDefEqProofs [e1, c, eqS_int, szle]
    rfl
  · obtain ⟨i, b3, e2⟩ := r_takeN (k := k) ns t h n (by omega) (a + 1) (by omega)
    obtain ⟨r3, b4, b5, e3⟩ := r_take (k := k) (a := a + 2) ns t 7 h (by decide) (by omega)
    obtain ⟨r4, b6, b7, e4⟩ := r_take (k := k) (a := a + 3) ns t 2 h (by decide) (by omega)
    have sl : Sz 4 ((r3 - 3 : Int) : Rat) := Sz.int (by omega)
    have g1 := r_line (k := k) (μ := Sa (a + 4)) n i ((r3 - 3 : Int) : Rat) 0 (by omega)
    have g2 := r_line (k := k) (μ := Sa (a + 4)) n i 0 ((r3 - 3 : Int) : Rat) (by omega)
    rw [rD_int, rD_zero] at g1 g2
    have hc1 : ∀ a b : D, Py.cutS [a, b] none (some 1) = [a] := fun a b => by have := cutS_take [a, b] 1; simpa using this
    have hc2 : ∀ a b : D, Py.cutS [a, b] (some 1) none = [b] := fun a b => by have := cutS_drop [a, b] 1; simpa using this
    by_cases c4 : r4 = 0
    · refine ⟨[⟨unitL n i 1, -((r3 - 3 : Int) : Rat), false⟩], a + 4, ?_, by omega, by omega, by simp, fun B hB => ?_⟩
      · simp -implicitDefEqProofs [e1, c, e2, e3, e4, c4, eqS_int, szle, g1, hc1]
        rfl
      · have hB' : B = _ := List.mem_singleton.mp hB
        rw [hB']; exact unit_ok (sz_one (by decide)) sl.neg
    · refine ⟨[⟨unitL n i (-1), ((r3 - 3 : Int) : Rat), false⟩], a + 4, ?_, by omega, by omega, by simp, fun B hB => ?_⟩
      · simp -implicitDefEqProofs [e1, c, e2, e3, e4, c4, eqS_int, szle, g2, hc2]
        rfl
      · have hB' : B = _ := List.mem_singleton.mp hB
        rw [hB']; exact unit_ok (sz_one (by decide)).neg sl
theorem r_strictly (n : Nat) (bs : List Bd) (hb : GOk n bs) (a : Nat) (ha : a < 80000) : ∃ bs' a', Py.run fs Γ (k + 2) f__law_strictly [dealD ns t, bsD bs] (Sa a) = some (bsD bs', Sa a') ∧ a ≤ a' ∧ a' ≤ a + 10 ∧ GOk n bs' := by
  have hb1 := hb.1
  obtain ⟨f, a1, g1, g2, g3, g4, g5⟩ := ev_lc_drawM (Φ := Py.run fs Γ (k + 1)) (Γ := Γ) (x := E.tup (Es.cons (E.slot 2) (Es.cons (E.slot 3) (Es.cons (E.cmp .Eq (E.call 50 (E.slot 0) (Es.cons (E.int 4) Es.nil)) (E.int 0)) Es.nil)))) (t := T.tp [(T.nm 2), (T.nm 3), (T.nm 4)]) (it := I.seq (E.slot 1)) (vs := [2, 3, 4]) (env := [some (.val (dealD ns t)), some (.val (bsD bs)), none, none, none]) (g := bdD) (enc := bdD) (P := fun B B' => B'.f = B.f ∧ B'.r = B.r) (a0 := a) (a := a) bs 1 90000
    (by simp -implicitDefEqProofs [bsD]) (by omega) (by omega) (fun B hB a ha => by
      obtain ⟨r1, b1, b2, e1⟩ := r_take (k := k) (a := a) ns t 4 h (by decide) (by omega)
      refine ⟨[some (.val (dealD ns t)), some (.val (bsD bs)), some (.val (.tup (B.f.map rD))), some (.val (rD B.r)), some (.val (.bl B.s))], ⟨B.f, B.r, decide (r1 = 0)⟩, a + 1, by unfold bdD; simp, ?_, ⟨rfl, rfl⟩, by omega, by omega⟩
      unfold bdD
      by_cases c : r1 = 0 <;> simp -implicitDefEqProofs [e1, eqS_int, szle, c])
  have g1' : ev (Py.run fs Γ (k + 1)) Γ c1__law_strictly [some (.val (dealD ns t)), some (.val (bsD bs)), none, none, none] (Sa a) = _ := g1
  refine ⟨f, a1, ?_, by omega, by omega, by omega, fun B' hB' => ?_⟩
  · rw [u__law_strictly, b__law_strictly]
    simp -implicitDefEqProofs [g1']
    rfl
  · obtain ⟨j, hj, rfl⟩ := List.getElem_of_mem hB'
    have hj2 : j < bs.length := by omega
    have hz : (bs[j], f[j]) ∈ bs.zip f := by
      have : (bs.zip f)[j]'(by rw [List.length_zip]; omega) = (bs[j], f[j]) := by simp
      rw [← this]; exact List.getElem_mem _
    obtain ⟨q1, q2⟩ := g3 _ hz
    obtain ⟨w1, w2, w3⟩ := hb.2 _ (List.getElem_mem hj2)
    dsimp only at q1 q2
    refine ⟨by rw [q1]; exact w1, by rw [q1]; exact w2, by rw [q2]; exact w3⟩
end
end P19
end
section
set_option Elab.async false
set_option linter.all false
set_option maxRecDepth 100000
set_option maxHeartbeats 0
namespace P19
open PySem L2 Py Geo FM
section
variable {k : Nat} (ns : List Int) (t : Int) (h : DealOk ns t)
include h
theorem r_pick (ds : List D) (hl : 0 < ds.length) (hl2 : ds.length ≤ 1000) (a : Nat) (ha : a < 90000) : ∃ (j : Nat) (hj : j < ds.length), Py.run fs Γ (k + 2) f__law_pick [dealD ns t, .lst ds] (Sa a) = some (ds[j], Sa (a + 1)) := by
  obtain ⟨r, c1, e⟩ := r_takeN (k := k) ns t h ds.length hl a (by omega)
  refine ⟨r, c1, ?_⟩
  have hat : atI ds (r : Int) = some ds[r] := atI_of c1
  rw [u__law_pick, b__law_pick]
  simp -implicitDefEqProofs [e, hat]
theorem pl_c1 (n : Nat) (hn : n ≤ 2) (x2 x3 x4 x5 x6 x7 x8 x9 x10 x11 x12 x13 x14 x15 x16 : Option SV) (a : Nat) (ha : a < 75000) : ∃ b a', ev (Py.run fs Γ (k + 3)) Γ c1__law_plant [some (.val (dealD ns t)), some (.val (.int (n : Int))), x2, x3, x4, x5, x6, x7, x8, x9, x10, x11, x12, x13, x14, x15, x16] (Sa a) = some (.lst (b.map pairD), Sa a') ∧ a ≤ a' ∧ a' ≤ a + 8 ∧ BT n b := by
  have hr := rngS_map (n := n) (by omega)
  obtain ⟨f, a1, g1, g2, g3, g4, g5⟩ := ev_lc_draw (Φ := Py.run fs Γ (k + 3)) (Γ := Γ) (x := E.call 62 (E.slot 0) (Es.cons (E.int 2) Es.nil)) (t := T.nm 7) (it := I.rng1 (E.slot 1)) (vs := [7]) (env := [some (.val (dealD ns t)), some (.val (.int (n : Int))), x2, x3, x4, x5, x6, x7, x8, x9, x10, x11, x12, x13, x14, x15, x16]) (enc := pairD) (P := Tight) (a0 := a) (a := a) (ds := (List.range n).map fun m : Nat => D.int (m : Int)) 4 78000
    (by simp -implicitDefEqProofs [hr]) (by simp; omega) (by simp; omega) (fun d hd a ha => by
      obtain ⟨p, a', e2, b3, b4, b5⟩ := r_pair (k := k) ns t h 2 (.inr rfl) a (by omega)
      have hc : ((2 : Nat) : Int) = 2 := rfl
      rw [hc] at e2
      exact ⟨[some (.val (dealD ns t)), some (.val (.int (n : Int))), x2, x3, x4, x5, x6, some (.val d), x8, x9, x10, x11, x12, x13, x14, x15, x16], p, a', by simp, by simp -implicitDefEqProofs [e2], b5, by omega, by omega⟩)
  rw [List.length_map, List.length_range] at g2 g5
  exact ⟨f, a1, g1, by omega, by omega, g2, g3⟩
theorem pl_c2 (n : Nat) (hn : n ≤ 2) (cs : List D) (hcs : cs.length ≤ 3) (x2 x3 x5 x6 x7 x8 x9 x10 x11 x12 x13 x14 x15 x16 : Option SV) (a : Nat) (ha : a < 70000) : ∃ (r : List Box) (a' : Nat), ev (Py.run fs Γ (k + 3)) Γ c2__law_plant [some (.val (dealD ns t)), some (.val (.int (n : Int))), x2, x3, some (.val (.tup cs)), x5, x6, x7, x8, x9, x10, x11, x12, x13, x14, x15, x16] (Sa a) = some (.lst (r.map boxD), Sa a') ∧ a ≤ a' ∧ a' ≤ a + 24 ∧ r.length = cs.length ∧ ∀ b ∈ r, BT n b := by
  obtain ⟨f, a1, g1, g2, g3, g4, g5⟩ := ev_lc_draw (Φ := Py.run fs Γ (k + 3)) (Γ := Γ) (x := E.bi .tuple c1__law_plant Es.nil) (t := T.nm 8) (it := I.seq (E.slot 4)) (vs := [8]) (env := [some (.val (dealD ns t)), some (.val (.int (n : Int))), x2, x3, some (.val (.tup cs)), x5, x6, x7, x8, x9, x10, x11, x12, x13, x14, x15, x16]) (enc := boxD) (P := BT n) (a0 := a) (a := a) (ds := cs) 8 74000
    (by simp) (by omega) (by omega) (fun d hd a ha => by
      obtain ⟨b, a', e2, b3, b4, b5⟩ := pl_c1 (k := k) ns t h n hn x2 x3 (some (.val (.tup cs))) x5 x6 x7 (some (.val d)) x9 x10 x11 x12 x13 x14 x15 x16 a (by omega)
      exact ⟨[some (.val (dealD ns t)), some (.val (.int (n : Int))), x2, x3, some (.val (.tup cs)), x5, x6, x7, some (.val d), x9, x10, x11, x12, x13, x14, x15, x16], b, a', by simp, by simp -implicitDefEqProofs [e2, boxD], b5, by omega, by omega⟩)
  exact ⟨f, a1, g1, by omega, by omega, g2, g3⟩
theorem pl_c3 (n : Nat) (hn : n ≤ 2) (ms cs : List D) (hms : ms.length ≤ 2) (hcs : cs.length ≤ 3) (x2 x5 x6 x7 x8 x9 x10 x11 x12 x13 x14 x15 x16 : Option SV) (a : Nat) (ha : a < 65000) : ∃ (r : List (List Box)) (a' : Nat), ev (Py.run fs Γ (k + 3)) Γ c3__law_plant [some (.val (dealD ns t)), some (.val (.int (n : Int))), x2, some (.val (.tup ms)), some (.val (.tup cs)), x5, x6, x7, x8, x9, x10, x11, x12, x13, x14, x15, x16] (Sa a) = some (.lst (r.map rowD), Sa a') ∧ a ≤ a' ∧ a' ≤ a + 48 ∧ r.length = ms.length ∧ ∀ row ∈ r, row.length = cs.length ∧ ∀ b ∈ row, BT n b := by
  obtain ⟨f, a1, g1, g2, g3, g4, g5⟩ := ev_lc_draw (Φ := Py.run fs Γ (k + 3)) (Γ := Γ) (x := E.bi .tuple c2__law_plant Es.nil) (t := T.nm 9) (it := I.seq (E.slot 3)) (vs := [9]) (env := [some (.val (dealD ns t)), some (.val (.int (n : Int))), x2, some (.val (.tup ms)), some (.val (.tup cs)), x5, x6, x7, x8, x9, x10, x11, x12, x13, x14, x15, x16]) (enc := rowD) (P := fun row : List Box => row.length = cs.length ∧ ∀ b ∈ row, BT n b) (a0 := a) (a := a) (ds := ms) 24 69000
    (by simp) (by omega) (by omega) (fun d hd a ha => by
      obtain ⟨b, a', e2, b3, b4, b5, b6⟩ := pl_c2 (k := k) ns t h n hn cs hcs x2 (some (.val (.tup ms))) x5 x6 x7 x8 (some (.val d)) x10 x11 x12 x13 x14 x15 x16 a (by omega)
      exact ⟨[some (.val (dealD ns t)), some (.val (.int (n : Int))), x2, some (.val (.tup ms)), some (.val (.tup cs)), x5, x6, x7, x8, some (.val d), x10, x11, x12, x13, x14, x15, x16], b, a', by simp, by simp -implicitDefEqProofs [e2, rowD], ⟨b5, b6⟩, by omega, by omega⟩)
  exact ⟨f, a1, g1, by omega, by omega, g2, g3⟩
theorem pl_c4 (n : Nat) (hn : n ≤ 2) (x2 x3 x4 x5 x6 x7 x8 x9 x10 x11 x12 x13 x14 x15 x16 : Option SV) (a : Nat) (ha : a < 75000) : ∃ b a', ev (Py.run fs Γ (k + 3)) Γ c4__law_plant [some (.val (dealD ns t)), some (.val (.int (n : Int))), x2, x3, x4, x5, x6, x7, x8, x9, x10, x11, x12, x13, x14, x15, x16] (Sa a) = some (.lst (b.map pairD), Sa a') ∧ a ≤ a' ∧ a' ≤ a + 10 ∧ BT n b := by
  have hr := rngS_map (n := n) (by omega)
  obtain ⟨f, a1, g1, g2, g3, g4, g5⟩ := ev_lc_draw (Φ := Py.run fs Γ (k + 3)) (Γ := Γ) (x := E.ite (E.cmp .Eq (E.call 50 (E.slot 0) (Es.cons (E.int 3) Es.nil)) (E.int 0)) (E.call 62 (E.slot 0) (Es.cons (E.int 1) Es.nil)) (E.tup (Es.cons (E.tup (Es.cons (E.int 0) (Es.cons (E.int 1) Es.nil))) (Es.cons (E.tup (Es.cons (E.int 0) (Es.cons (E.int 1) Es.nil))) Es.nil)))) (t := T.nm 7) (it := I.rng1 (E.slot 1)) (vs := [7]) (env := [some (.val (dealD ns t)), some (.val (.int (n : Int))), x2, x3, x4, x5, x6, x7, x8, x9, x10, x11, x12, x13, x14, x15, x16]) (enc := pairD) (P := Tight) (a0 := a) (a := a) (ds := (List.range n).map fun m : Nat => D.int (m : Int)) 5 78000
    (by simp -implicitDefEqProofs [hr]) (by simp; omega) (by simp; omega) (fun d hd a ha => by
      obtain ⟨r1, q1, q2, e1⟩ := r_take (k := k + 2) (a := a) ns t 3 h (by decide) (by omega)
      obtain ⟨p, a', e2, b3, b4, b5⟩ := r_pair (k := k) ns t h 1 (.inl rfl) (a + 1) (by omega)
      have hc : ((1 : Nat) : Int) = 1 := rfl
      rw [hc] at e2
      by_cases c : r1 = 0
      · exact ⟨[some (.val (dealD ns t)), some (.val (.int (n : Int))), x2, x3, x4, x5, x6, some (.val d), x8, x9, x10, x11, x12, x13, x14, x15, x16], p, a', by simp, by simp -implicitDefEqProofs [e1, c, eqS_int, e2], b5, by omega, by omega⟩
      · refine ⟨[some (.val (dealD ns t)), some (.val (.int (n : Int))), x2, x3, x4, x5, x6, some (.val d), x8, x9, x10, x11, x12, x13, x14, x15, x16], (0, 0), a + 1, by simp, ?_, ⟨sz_zero (by decide), sz_zero (by decide), Rat.le_refl, ?_⟩, by omega, by omega⟩
        · have hz : pairD (0, 0) = .tup [.tup [.int 0, .int 1], .tup [.int 0, .int 1]] := rfl
          simp -implicitDefEqProofs [e1, c, eqS_int, szle, hz]
        · have : ((0 : Rat), (0 : Rat)).2 - ((0 : Rat), (0 : Rat)).1 = 0 := by grind
          rw [this]; exact sz_zero (by decide))
  rw [List.length_map, List.length_range] at g2 g5
  exact ⟨f, a1, g1, by omega, by omega, g2, g3⟩
theorem pl_c5 (n : Nat) (hn : n ≤ 2) (x2 x3 x4 x5 x6 x7 x8 x9 x10 x11 x12 x13 x14 x15 x16 : Option SV) (a : Nat) (ha : a < 75000) : ∃ (b : List Rat) (a' : Nat), ev (Py.run fs Γ (k + 3)) Γ c5__law_plant [some (.val (dealD ns t)), some (.val (.int (n : Int))), x2, x3, x4, x5, x6, x7, x8, x9, x10, x11, x12, x13, x14, x15, x16] (Sa a) = some (.lst (b.map rD), Sa a') ∧ a ≤ a' ∧ a' ≤ a + 2 := by
  have hr := rngS_map (n := n) (by omega)
  obtain ⟨f, a1, g1, g2, g3, g4, g5⟩ := ev_lc_draw (Φ := Py.run fs Γ (k + 3)) (Γ := Γ) (x := E.call 53 (E.call 50 (E.slot 0) (Es.cons (E.int 3) Es.nil)) (Es.cons (E.int 2) Es.nil)) (t := T.nm 7) (it := I.rng1 (E.slot 1)) (vs := [7]) (env := [some (.val (dealD ns t)), some (.val (.int (n : Int))), x2, x3, x4, x5, x6, x7, x8, x9, x10, x11, x12, x13, x14, x15, x16]) (enc := rD) (P := fun _ => True) (a0 := a) (a := a) (ds := (List.range n).map fun m : Nat => D.int (m : Int)) 1 78000
    (by simp -implicitDefEqProofs [hr]) (by simp; omega) (by simp; omega) (fun d hd a ha => by
      obtain ⟨r1, q1, q2, e1⟩ := r_take (k := k + 2) (a := a) ns t 3 h (by decide) (by omega)
      have f1 := r_lratio (k := k + 2) (n := 3) (μ := Sa (a + 1)) r1 2 (by decide) (by omega) (by decide) (by decide)
      exact ⟨[some (.val (dealD ns t)), some (.val (.int (n : Int))), x2, x3, x4, x5, x6, some (.val d), x8, x9, x10, x11, x12, x13, x14, x15, x16], Rat.divInt r1 2, a + 1, by simp, by simp -implicitDefEqProofs [e1, f1], trivial, by omega, by omega⟩)
  rw [List.length_map, List.length_range] at g5
  exact ⟨f, a1, g1, by omega, by omega⟩
theorem pl_l1 (n : Nat) (hn : n = 1 ∨ n = 2) (ms : List D) (hm1 : 1 ≤ ms.length) (hm2 : ms.length ≤ 2) (x2 x4 x5 x6 : Option SV) (m : Nat) (hm : m ≤ 2) (a : Nat) (ha : a < 60000) : ∃ (sw : List Sw) (a' : Nat) (y11 y12 y13 : Option SV), forS (T.nm 11) (fun env' μ' => exs (Py.run fs Γ (k + 3)) Γ l1__law_plant env' μ') (rangeD 0 m) [some (.val (dealD ns t)), some (.val (.int (n : Int))), x2, some (.val (.tup ms)), x4, x5, x6, none, none, none, some (.own []), none, none, none, none, none, none] (Sa a) =
    some (.nx [some (.val (dealD ns t)), some (.val (.int (n : Int))), x2, some (.val (.tup ms)), x4, x5, x6, none, none, none, some (.own (sw.map swD)), y11, y12, y13, none, none, none] (Sa a')) ∧ a ≤ a' ∧ a' ≤ a + 50 ∧ sw.length = m ∧ ∀ s ∈ sw, s.st < ms.length ∧ s.goal < ms.length ∧ GOk n s.guard ∧ BT n s.kicks := by
  obtain ⟨env', μ', e, sw, a', y11, y12, y13, rfl, rfl, c1, c2, c3, c4⟩ := forS_inv (t := T.nm 11) (b := fun env' μ' => exs (Py.run fs Γ (k + 3)) Γ l1__law_plant env' μ') (ds := rangeD 0 m) (env := [some (.val (dealD ns t)), some (.val (.int (n : Int))), x2, some (.val (.tup ms)), x4, x5, x6, none, none, none, some (.own []), none, none, none, none, none, none]) (μ := Sa a)
    (fun i env m' => ∃ (sw : List Sw) (a' : Nat) (y11 y12 y13 : Option SV), env = [some (.val (dealD ns t)), some (.val (.int (n : Int))), x2, some (.val (.tup ms)), x4, x5, x6, none, none, none, some (.own (sw.map swD)), y11, y12, y13, none, none, none] ∧ m' = Sa a' ∧ a ≤ a' ∧ a' ≤ a + 25 * i ∧ sw.length = i ∧ ∀ s ∈ sw, s.st < ms.length ∧ s.goal < ms.length ∧ GOk n s.guard ∧ BT n s.kicks)
    ⟨[], a, none, none, none, rfl, rfl, Nat.le_refl _, Nat.le_refl _, rfl, fun _ h => by cases h⟩ (by
      rintro i env m' d hd ⟨sw, a', y11, y12, y13, rfl, rfl, c1, c2, c3, c4⟩
      obtain ⟨rfl, hi⟩ := rangeD_get hd
      obtain ⟨kb, a1, e1, b1, b2, b3⟩ := pl_c4 (k := k) ns t h n (by omega) x2 (some (.val (.tup ms))) x4 x5 x6 none none none (some (.own (sw.map swD))) (some (.val (.int (0 + (i : Nat))))) y12 y13 none none none a' (by omega)
      obtain ⟨r2, q1, q2, e2⟩ := r_take (k := k + 2) (a := a1) ns t 2 h (by decide) (by omega)
      obtain ⟨st, q3, e3⟩ := r_takeN (k := k + 2) ns t h ms.length (by omega) (a1 + 1) (by omega)
      obtain ⟨j, hj, e4⟩ := r_pick (k := k + 1) ns t h [.str "go", .str "fall"] (by decide) (by decide) (a1 + 2) (by omega)
      obtain ⟨gl, q4, e5⟩ := r_takeN (k := k + 2) ns t h ms.length (by omega) (a1 + 3) (by omega)
      obtain ⟨gs, a2, e6, b4, b5, b6⟩ := r_guard (k := k + 1) ns t h n hn (a1 + 4) (by omega)
      have hlt : sw.length < 16777216 := by omega
      refine ⟨[some (.val (dealD ns t)), some (.val (.int (n : Int))), x2, some (.val (.tup ms)), x4, x5, x6, none, none, none, some (.own (sw.map swD)), some (.val (.int (0 + (i : Nat)))), y12, y13, none, none, none], [some (.val (dealD ns t)), some (.val (.int (n : Int))), x2, some (.val (.tup ms)), x4, x5, x6, none, none, none, some (.own ((sw ++ [(⟨st, [D.str "go", .str "fall"][j], gl, gs, decide (r2 = 1), kb⟩ : Sw)]).map swD)), some (.val (.int (0 + (i : Nat)))), some (.val (boxD kb)), some (.val (kindD (decide (r2 = 1)))), none, none, none], Sa a2, by simp, .inl ?_, sw ++ [⟨st, [D.str "go", .str "fall"][j], gl, gs, decide (r2 = 1), kb⟩], a2, _, _, _, rfl, rfl, by omega, by omega, by simp [c3], ?_⟩
      · have hk : atI [D.str "may", D.str "must"] r2 = some (kindD (decide (r2 = 1))) := by
          obtain rfl | rfl : r2 = 0 ∨ r2 = 1 := by omega
          · simp [atI, ixN, kindD]
          · simp [atI, ixN, kindD]
        generalize [D.str "go", .str "fall"][j] = nmD at *
        rw [Int.zero_add] at e1
        simp -implicitDefEqProofs [l1__law_plant, e1, e2, hk, e3, e4, e5, e6, szle, szlt, hlt, swD, boxD]
      · intro s hs
        rcases List.mem_append.mp hs with hs | hs
        · exact c4 s hs
        · have hs' : s = _ := List.mem_singleton.mp hs
          rw [hs']
          exact ⟨q3, q4, b6, b3⟩)
  rw [rangeD_len] at c2 c3
  exact ⟨sw, a', y11, y12, y13, e, by omega, by omega, c3, c4⟩
theorem pl_l2 (n : Nat) (hn : n ≤ 2) (x2 x3 x4 x5 x6 x8 x9 x10 x11 x12 x13 x14 : Option SV) (a : Nat) (ha : a < 60000) : ∃ (ds : List D) (y7 y16 : Option SV), forS (T.nm 7) (fun env' μ' => exs (Py.run fs Γ (k + 3)) Γ l2__law_plant env' μ') (rangeD 0 n) [some (.val (dealD ns t)), some (.val (.int (n : Int))), x2, x3, x4, x5, x6, none, x8, x9, x10, x11, x12, x13, x14, some (.val (.tup [])), none] (Sa a) =
    some (.nx [some (.val (dealD ns t)), some (.val (.int (n : Int))), x2, x3, x4, x5, x6, y7, x8, x9, x10, x11, x12, x13, x14, some (.val (.tup ds)), y16] (Sa (a + n))) := by
  obtain ⟨env', μ', e, ds, y7, y16, rfl, rfl, c3⟩ := forS_inv (t := T.nm 7) (b := fun env' μ' => exs (Py.run fs Γ (k + 3)) Γ l2__law_plant env' μ') (ds := rangeD 0 n) (env := [some (.val (dealD ns t)), some (.val (.int (n : Int))), x2, x3, x4, x5, x6, none, x8, x9, x10, x11, x12, x13, x14, some (.val (.tup [])), none]) (μ := Sa a)
    (fun i env m' => ∃ (ds : List D) (y7 y16 : Option SV), env = [some (.val (dealD ns t)), some (.val (.int (n : Int))), x2, x3, x4, x5, x6, y7, x8, x9, x10, x11, x12, x13, x14, some (.val (.tup ds)), y16] ∧ m' = Sa (a + i) ∧ ds.length = 2 * i)
    ⟨[], none, none, rfl, rfl, rfl⟩ (by
      rintro i env m' d hd ⟨ds, y7, y16, rfl, rfl, c3⟩
      obtain ⟨rfl, hi⟩ := rangeD_get hd
      rw [Int.zero_add]
      obtain ⟨r1, b1, b2, e1⟩ := r_take (k := k + 2) (a := a + i) ns t 5 h (by decide) (by omega)
      have g := r_line (k := k + 2) (μ := Sa (a + i + 1)) n i ((r1 - 2 : Int) : Rat) ((r1 - 2 : Int) : Rat) (by omega)
      rw [rD_int] at g
      have hlen : ds.length + 1 + 1 ≤ 16777216 := by omega
      refine ⟨[some (.val (dealD ns t)), some (.val (.int (n : Int))), x2, x3, x4, x5, x6, some (.val (.int (i : Int))), x8, x9, x10, x11, x12, x13, x14, some (.val (.tup ds)), y16], [some (.val (dealD ns t)), some (.val (.int (n : Int))), x2, x3, x4, x5, x6, some (.val (.int (i : Int))), x8, x9, x10, x11, x12, x13, x14, some (.val (.tup (ds ++ [bdD ⟨unitL n i 1, -((r1 - 2 : Int) : Rat), false⟩, bdD ⟨unitL n i (-1), ((r1 - 2 : Int) : Rat), false⟩]))), some (.val (.tup [.int (r1 - 2), .int 1]))], Sa (a + i + 1), by simp, .inl ?_, _, _, _, rfl, rfl, by simp; omega⟩
      simp -implicitDefEqProofs [l2__law_plant, e1, g, szle, hlen])
  rw [rangeD_len] at e
  exact ⟨ds, y7, y16, e⟩
end
end P19
end
section
set_option Elab.async false
set_option linter.all false
set_option maxRecDepth 100000
set_option maxHeartbeats 0
namespace P19
open PySem L2 Py Geo FM
theorem zip_mem {α β : Type} {l : List α} {xs : List β} {Q : α → β → Prop} (hl : xs.length = l.length) (h : ∀ p ∈ l.zip xs, Q p.1 p.2) : ∀ (j : Nat) (h1 : j < l.length) (h2 : j < xs.length), Q l[j] xs[j] := fun j h1 h2 => by
  have hz : (l[j], xs[j]) ∈ l.zip xs := by
    have : (l.zip xs)[j]'(by rw [List.length_zip]; omega) = (l[j], xs[j]) := by simp
    rw [← this]; exact List.getElem_mem _
  exact h _ hz
theorem zip_ex {α β : Type} {l : List α} {xs : List β} {Q : α → β → Prop} (hl : xs.length = l.length) (h : ∀ p ∈ l.zip xs, Q p.1 p.2) : ∀ y ∈ xs, ∃ x ∈ l, Q x y := fun y hy => by
  obtain ⟨j, hj, rfl⟩ := List.getElem_of_mem hy
  have h1 : j < l.length := by omega
  exact ⟨l[j], List.getElem_mem h1, zip_mem hl h j h1 hj⟩
theorem lastM_app (P : Pl) : ∀ (ss : List Step) (m : Nat) (x : List Rat) (s : Step), lastM P m x (ss ++ [s]) = placeM P (lastM P m x ss).1 (lastM P m x ss).2 s.2
  | [], _, _, _ => rfl
  | t :: r, m, x, s => by rw [List.cons_append, lastM, lastM]; exact lastM_app P r _ _ s
theorem rightS_app (P : Pl) : ∀ (ss : List Step) (m : Nat) (x : List Rat) (s : Step), RightS P m x ss → s.1 < P.cmds.length → BeatR P (lastM P m x ss).1 s.1 (lastM P m x ss).2 s.2 → RightS P m x (ss ++ [s])
  | [], _, _, _, _, h1, h2 => ⟨h1, h2, trivial⟩
  | t :: r, m, x, s, h, h1, h2 => ⟨h.1, h.2.1, rightS_app P r _ _ s h.2.2 h1 h2⟩
section
variable {k : Nat} (ns : List Int) (t : Int) (h : DealOk ns t)
include h
theorem r_lplant (n : Nat) (hn : n = 1 ∨ n = 2) (a : Nat) (ha : a < 40000) : ∃ P a', Py.run fs Γ (k + 4) f__law_plant [dealD ns t, .int (n : Int)] (Sa a) = some (plD P, Sa a') ∧ a ≤ a' ∧ a' ≤ a + 200 ∧ PlOk n P ∧ PlT n P := by
  obtain ⟨m, q1, e1⟩ := r_takeN (k := k + 2) ns t h 2 (by decide) a (by omega)
  obtain ⟨c, q2, e2⟩ := r_takeN (k := k + 2) ns t h 3 (by decide) (a + 1) (by omega)
  obtain ⟨j, hj, e3⟩ := r_pick (k := k + 1) ns t h [.tup [.int 1, .int 1], .tup [.int 1, .int 2], .tup [.int 2, .int 1]] (by decide) (by decide) (a + 2) (by omega)
  have c2 : ((2 : Nat) : Int) = 2 := rfl
  have c3 : ((3 : Nat) : Int) = 3 := rfl
  rw [c2] at e1
  rw [c3] at e2
  obtain ⟨bt, hbt, hb0, hbz⟩ : ∃ b : Rat, [D.tup [.int 1, .int 1], .tup [.int 1, .int 2], .tup [.int 2, .int 1]][j] = rD b ∧ 0 < b ∧ Sz 2 b := by
    have : j = 0 ∨ j = 1 ∨ j = 2 := by simp at hj; omega
    rcases this with rfl | rfl | rfl
    · exact ⟨Rat.divInt 1 1, by rw [rD_divInt (by decide)]; rfl, divInt_pos (by decide) (by decide), Sz.divInt (by decide) (by decide) (by decide)⟩
    · exact ⟨Rat.divInt 1 2, by rw [rD_divInt (by decide)]; rfl, divInt_pos (by decide) (by decide), Sz.divInt (by decide) (by decide) (by decide)⟩
    · exact ⟨Rat.divInt 2 1, by rw [rD_divInt (by decide)]; rfl, divInt_pos (by decide) (by decide), Sz.divInt (by decide) (by decide) (by decide)⟩
  rw [hbt] at e3
  have hns : Py.cutS [D.str "x", .str "y", .str "z"] none (some (n : Int)) = [D.str "x", .str "y", .str "z"].take n := cutS_take _ _
  have hms : Py.cutS [D.str "m0", .str "m1"] none (some (1 + (m : Int))) = [D.str "m0", .str "m1"].take (1 + m) := by rw [show (1 : Int) + (m : Int) = ((1 + m : Nat) : Int) by omega]; exact cutS_take _ _
  have hcs : Py.cutS [D.str "up", .str "down", .str "wait"] none (some (1 + (c : Int))) = [D.str "up", .str "down", .str "wait"].take (1 + c) := by rw [show (1 : Int) + (c : Int) = ((1 + c : Nat) : Int) by omega]; exact cutS_take _ _
  have hmsl : ([D.str "m0", .str "m1"].take (1 + m)).length = 1 + m := by simp; omega
  have hcsl : ([D.str "up", .str "down", .str "wait"].take (1 + c)).length = 1 + c := by simp; omega
  have hnsl : ([D.str "x", .str "y", .str "z"].take n).length = n := by simp; omega
  generalize [D.str "x", .str "y", .str "z"].take n = nsD at *
  generalize [D.str "m0", .str "m1"].take (1 + m) = ms at *
  generalize [D.str "up", .str "down", .str "wait"].take (1 + c) = cs at *
  obtain ⟨rs, a1, e4, b1, b2, b3, b4⟩ := pl_c3 (k := k) ns t h n (by omega) ms cs (by omega) (by omega) (some (.val (.tup nsD))) (some (.val (rD bt))) none none none none none none none none none none none (a + 3) (by omega)
  obtain ⟨s, q3, e5⟩ := r_takeN (k := k + 2) ns t h 3 (by decide) a1 (by omega)
  rw [c3] at e5
  obtain ⟨sw, a2, y11, y12, y13, e6, b5, b6, b7, b8⟩ := pl_l1 (k := k) ns t h n hn ms (by omega) (by omega) (some (.val (.tup nsD))) (some (.val (.tup cs))) (some (.val (rD bt))) (some (.val (.tup (rs.map rowD)))) s (by omega) (a1 + 1) (by omega)
  have hr := rngS_0 (n := s) (by omega)
  have hrn := rngS_0 (n := n) (by omega)
  obtain ⟨er, a3, e7, b9, b10⟩ := pl_c5 (k := k) ns t h n (by omega) (some (.val (.tup nsD))) (some (.val (.tup ms))) (some (.val (.tup cs))) (some (.val (rD bt))) (some (.val (.tup (rs.map rowD)))) none none none (some (.own (sw.map swD))) y11 y12 y13 none none none a2 (by omega)
  obtain ⟨sd, y7, y16, e8⟩ := pl_l2 (k := k) ns t h n (by omega) (some (.val (.tup nsD))) (some (.val (.tup ms))) (some (.val (.tup cs))) (some (.val (rD bt))) (some (.val (.tup (rs.map rowD)))) none none (some (.own (sw.map swD))) y11 y12 y13 (some (.val (.tup (er.map rD)))) a3 (by omega)
  obtain ⟨l, q4, q5, e9⟩ := r_take (k := k + 2) (a := a3 + n) ns t 3 h (by decide) (by omega)
  refine ⟨⟨nsD, ms, cs, bt, rs, sw, .tup [.tup (er.map rD), .int l], .tup [.int 0, .tup sd]⟩, a3 + n + 1, ?_, by omega, by omega, ⟨hn, hnsl, by dsimp only; omega, by dsimp only; omega, by dsimp only; omega, by dsimp only; omega, hb0, hbz, b3, fun r hr => ⟨(b4 r hr).1, fun b hb => ((b4 r hr).2 b hb).ok⟩, by dsimp only; omega, fun s hs => ⟨(b8 s hs).1, (b8 s hs).2.1, (b8 s hs).2.2.1, (b8 s hs).2.2.2.ok⟩⟩, fun r hr b hb => (b4 r hr).2 b hb, fun s hs => (b8 s hs).2.2.2⟩
  rw [u__law_plant, b__law_plant]
  unfold plD
  simp -implicitDefEqProofs [ex_for, szle, hns, e1, hms, e2, hcs, e3, e4, e5, hr, e6, e7, hrn, e8, e9]
theorem r_edged {n : Nat} {P : Pl} (hP : PlOk n P) (hT : PlT n P) (a : Nat) (ha : a < 60000) : ∃ P' a', Py.run fs Γ (k + 3) f__law_edged [dealD ns t, plD P] (Sa a) = some (plD P', Sa a') ∧ a ≤ a' ∧ a' ≤ a + 20 ∧ PlOk n P' ∧ PlT n P' := by
  have hsl := hP.sl
  obtain ⟨f, a1, g1, g2, g3, g4, g5⟩ := ev_lc_drawM (Φ := Py.run fs Γ (k + 2)) (Γ := Γ) (x := E.tup (Es.cons (E.slot 3) (Es.cons (E.slot 4) (Es.cons (E.slot 5) (Es.cons (E.call 67 (E.slot 0) (Es.cons (E.slot 6) Es.nil)) (Es.cons (E.slot 7) (Es.cons (E.slot 8) Es.nil))))))) (t := T.tp [(T.nm 3), (T.nm 4), (T.nm 5), (T.nm 6), (T.nm 7), (T.nm 8)]) (it := I.seq (E.ix (E.slot 1) (E.int 6))) (vs := [3, 4, 5, 6, 7, 8]) (env := [some (.val (dealD ns t)), some (.val (plD P)), none, none, none, none, none, none, none]) (g := swD) (enc := swD) (P := fun s s' => s'.st = s.st ∧ s'.goal = s.goal ∧ s'.kicks = s.kicks ∧ GOk n s'.guard) (a0 := a) (a := a) P.sw 10 70000
    (by simp -implicitDefEqProofs [pl2, at9_6]) (by omega) (by omega) (fun s hs a ha => by
      obtain ⟨gs, a', e1, b1, b2, b3⟩ := r_strictly (k := k) ns t h n s.guard (hP.so s hs).2.2.1 a (by omega)
      refine ⟨[some (.val (dealD ns t)), some (.val (plD P)), none, some (.val (.int s.st)), some (.val s.nm), some (.val (.int s.goal)), some (.val (bsD s.guard)), some (.val (kindD s.must)), some (.val (boxD s.kicks))], ⟨s.st, s.nm, s.goal, gs, s.must, s.kicks⟩, a', by unfold swD; simp, ?_, ⟨rfl, rfl, rfl, b3⟩, by omega, by omega⟩
      unfold swD
      simp -implicitDefEqProofs [e1, szle])
  have g1' : ev (Py.run fs Γ (k + 2)) Γ c1__law_edged [some (.val (dealD ns t)), some (.val (plD P)), none, none, none, none, none, none, none] (Sa a) = _ := g1
  refine ⟨{ P with sw := f }, a1, ?_, by omega, by omega, ⟨hP.hn, hP.names, hP.m1, hP.m2, hP.c1, hP.c2, hP.b0, hP.bz, hP.rl, hP.rr, by dsimp only; omega, fun s' hs' => ?_⟩, hT.1, fun s' hs' => ?_⟩
  · have hz : ∀ d0 d1 d2 d3 d4 d5 d6 d7 d8 : D, Py.cutS [d0, d1, d2, d3, d4, d5, d6, d7, d8] none (some 6) = [d0, d1, d2, d3, d4, d5] := fun _ _ _ _ _ _ _ _ _ => by
      have := cutS_take [‹D›, ‹D›, ‹D›, ‹D›, ‹D›, ‹D›, ‹D›, ‹D›, ‹D›] 6
      exact cutS_take [_, _, _, _, _, _, _, _, _] 6
    have hz2 : ∀ d0 d1 d2 d3 d4 d5 d6 d7 d8 : D, Py.cutS [d0, d1, d2, d3, d4, d5, d6, d7, d8] (some 7) none = [d7, d8] := fun _ _ _ _ _ _ _ _ _ => cutS_drop [_, _, _, _, _, _, _, _, _] 7
    rw [u__law_edged, b__law_edged]
    unfold plD at g1' ⊢
    simp -implicitDefEqProofs [g1', hz, hz2, szle]
  · obtain ⟨s, hs, w1, w2, w3, w4⟩ := zip_ex (Q := fun s s' : Sw => s'.st = s.st ∧ s'.goal = s.goal ∧ s'.kicks = s.kicks ∧ GOk n s'.guard) g2 g3 s' hs'
    have hso := hP.so s hs
    exact ⟨by rw [w1]; exact hso.1, by rw [w2]; exact hso.2.1, w4, by rw [w3]; exact hso.2.2.2⟩
  · obtain ⟨s, hs, w1, w2, w3, w4⟩ := zip_ex (Q := fun s s' : Sw => s'.st = s.st ∧ s'.goal = s.goal ∧ s'.kicks = s.kicks ∧ GOk n s'.guard) g2 g3 s' hs'
    rw [w3]; exact hT.2 s hs
theorem r_stays {n : Nat} {P : Pl} (hP : PlOk n P) (a : Nat) (ha : a < 60000) : ∃ wi a', Py.run fs Γ (k + 3) f__law_stays [dealD ns t, plD P] (Sa a) = some (.tup (wi.map bsD), Sa a') ∧ a ≤ a' ∧ a' ≤ a + 28 ∧ StOk n P wi := by
  have hm2 := hP.m2
  have hn : n ≤ 2 := by rcases hP.hn with h | h <;> omega
  obtain ⟨f, a1, g1, g2, g3, g4, g5⟩ := ev_lc_draw (Φ := Py.run fs Γ (k + 2)) (Γ := Γ) (x := E.call 67 (E.slot 0) (Es.cons (E.call 64 (E.slot 0) (Es.cons (E.bi .len (E.ix (E.slot 1) (E.int 1)) Es.nil) Es.nil)) Es.nil)) (t := T.nm 2) (it := I.seq (E.ix (E.slot 1) (E.int 2))) (vs := [2]) (env := [some (.val (dealD ns t)), some (.val (plD P)), none]) (enc := bsD) (P := GOk n) (a0 := a) (a := a) (ds := P.modes) 14 70000
    (by simp -implicitDefEqProofs [pl2, at9_2]) (by omega) (by omega) (fun d hd a ha => by
      obtain ⟨bs, a', e1, b1, b2, b3⟩ := r_stay (k := k) ns t h n hn a (by omega)
      obtain ⟨bs', a'', e2, b4, b5, b6⟩ := r_strictly (k := k) ns t h n bs b3 a' (by omega)
      have hnl : (P.names.length : Int) = (n : Int) := by rw [hP.names]
      exact ⟨[some (.val (dealD ns t)), some (.val (plD P)), some (.val d)], bs', a'', by simp, by simp -implicitDefEqProofs [pl2, at9_1, hnl, e1, e2], b6, by omega, by omega⟩)
  have g1' : ev (Py.run fs Γ (k + 2)) Γ c1__law_stays [some (.val (dealD ns t)), some (.val (plD P)), none] (Sa a) = _ := g1
  refine ⟨f, a1, ?_, by omega, by omega, g2, g3⟩
  rw [u__law_stays, b__law_stays]
  simp -implicitDefEqProofs [g1']
theorem r_between {n : Nat} (hn : n ≤ 2) {b : Box} (hb : BT n b) (a : Nat) (ha : a < 80000) : ∃ r a', Py.run fs Γ (k + 4) f__law_between [dealD ns t, boxD b] (Sa a) = some (ptD r, Sa a') ∧ a ≤ a' ∧ a' ≤ a + 2 ∧ inBoxM b r = true ∧ r.length = n ∧ ∀ y ∈ r, Sz 9 y := by
  have hl := hb.1
  obtain ⟨f, a1, g1, g2, g3, g4, g5⟩ := ev_lc_drawM (Φ := Py.run fs Γ (k + 3)) (Γ := Γ) (x := E.call 54 (E.slot 2) (Es.cons (E.call 55 (E.call 56 (E.slot 3) (Es.cons (E.slot 2) Es.nil)) (Es.cons (E.call 53 (E.call 50 (E.slot 0) (Es.cons (E.int 5) Es.nil)) (Es.cons (E.int 4) Es.nil)) Es.nil)) Es.nil)) (t := T.tp [(T.nm 2), (T.nm 3)]) (it := I.seq (E.slot 1)) (vs := [2, 3]) (env := [some (.val (dealD ns t)), some (.val (boxD b)), none, none]) (g := pairD) (enc := rD) (P := fun p v => p.1 ≤ v ∧ v ≤ p.2 ∧ Sz 9 v) (a0 := a) (a := a) b 1 90000
    (by simp -implicitDefEqProofs [boxD]) (by omega) (by omega) (fun p hp a ha => by
      obtain ⟨s1, s2, s3, s4⟩ := hb.2 p hp
      obtain ⟨j, q1, q2, e1⟩ := r_take (k := k + 2) (a := a) ns t 5 h (by decide) (by omega)
      have f1 := r_lminus (k := k) (n := 20) (μ := Sa a) p.2 p.1 s2 s1 (by decide) (by decide)
      have f2 := r_lratio (k := k + 2) (n := 3) (μ := Sa (a + 1)) j 4 (by decide) (by omega) (by decide) (by decide)
      have sj : Sz 3 (Rat.divInt j 4) := Sz.divInt (by omega) (by decide) (by decide)
      have f3 := r_lmult (k := k + 1) (n := 5) (μ := Sa (a + 1)) (p.2 - p.1) (Rat.divInt j 4) s4 sj (by decide) (by decide)
      have f4 := r_lplus (k := k + 1) (n := 9) (μ := Sa (a + 1)) p.1 ((p.2 - p.1) * Rat.divInt j 4) s1 (s4.mul sj) (by decide) (by decide)
      have j0 : 0 ≤ Rat.divInt j 4 := Rat.divInt_nonneg q1 (by decide)
      have j1 : Rat.divInt j 4 ≤ 1 := by
        rw [Rat.divInt_eq_div, Rat.div_def]
        have hle : ((j : Int) : Rat) ≤ ((4 : Int) : Rat) := by exact_mod_cast (show j ≤ 4 by omega)
        have hp4 : (0 : Rat) < ((4 : Int) : Rat) := by exact_mod_cast (show (0 : Int) < 4 by decide)
        have := Rat.mul_le_mul_of_nonneg_right hle (Rat.le_of_lt (Rat.inv_pos.mpr hp4))
        rw [Rat.mul_inv_cancel _ (by grind)] at this
        exact this
      have d0 : 0 ≤ p.2 - p.1 := by grind
      have m0 := Rat.mul_nonneg d0 j0
      have m1 := Rat.mul_le_mul_of_nonneg_left j1 d0
      refine ⟨[some (.val (dealD ns t)), some (.val (boxD b)), some (.val (rD p.1)), some (.val (rD p.2))], p.1 + (p.2 - p.1) * Rat.divInt j 4, a + 1, by unfold pairD; simp, by simp -implicitDefEqProofs [f1, e1, f2, f3, f4], ⟨by grind, by grind, (s1.add (s4.mul sj)).mono (by decide)⟩, by omega, by omega⟩)
  have g1' : ev (Py.run fs Γ (k + 3)) Γ c1__law_between [some (.val (dealD ns t)), some (.val (boxD b)), none, none] (Sa a) = _ := g1
  refine ⟨f, a1, ?_, by omega, by omega, inBox_iff.mpr ⟨g2, fun j hj => ?_⟩, by omega, fun y hy => ?_⟩
  · rw [u__law_between, b__law_between]
    simp -implicitDefEqProofs [g1']
    rfl
  · have hf : j < f.length := by omega
    have := zip_mem (Q := fun (p : Rat × Rat) (v : Rat) => p.1 ≤ v ∧ v ≤ p.2 ∧ Sz 9 v) g2 g3 j hj hf
    simpa [List.getD_eq_getElem?_getD, List.getElem?_eq_getElem hj, List.getElem?_eq_getElem hf] using ⟨this.1, this.2.1⟩
  · obtain ⟨p, _, w⟩ := zip_ex (Q := fun (p : Rat × Rat) (v : Rat) => p.1 ≤ v ∧ v ≤ p.2 ∧ Sz 9 v) g2 g3 y hy
    exact w.2.2
end
end P19
end
section
set_option Elab.async false
set_option linter.all false
set_option maxRecDepth 100000
set_option maxHeartbeats 0
namespace P19
open PySem L2 Py Geo FM
/-! ### beats and courses drawn -/
theorem sum_spans (bt : Rat) (S : Int) : ∀ (ps : List Int) (ss : List Seg), ss.map (·.1) = ps.map (fun p => bt * Rat.divInt p S) → sumT ss = bt * ((ps.sum : Int) : Rat) / ((S : Int) : Rat)
  | [], [], _ => by simp [sumT, Rat.mul_zero, Rat.zero_mul, Rat.div_def]
  | [], _ :: _, h => by simp at h
  | _ :: _, [], h => by simp at h
  | p :: ps, s :: ss, h => by
    rw [List.map_cons, List.map_cons] at h
    injection h with h1 h2
    have ih := sum_spans bt S ps ss h2
    have e : sumT (s :: ss) = s.1 + sumT ss := by
      unfold sumT; rw [List.foldl_cons, sumT_from]; unfold sumT; grind
    rw [e, ih, h1, List.sum_cons, Rat.intCast_add, Rat.divInt_eq_div, Rat.div_def, Rat.div_def, Rat.div_def]
    grind
theorem sum_pos : ∀ ps : List Int, (∀ p ∈ ps, 1 ≤ p ∧ p ≤ 3) → (ps.length : Int) ≤ ps.sum ∧ ps.sum ≤ 3 * ps.length
  | [], _ => by simp
  | p :: ps, h => by
    have h1 := h p (by simp)
    have h2 := sum_pos ps (fun q hq => h q (by simp [hq]))
    rw [List.sum_cons, List.length_cons]
    omega
section
variable {k : Nat} (ns : List Int) (t : Int) (h : DealOk ns t)
include h
theorem r_lbeat {n b : Nat} {P : Pl} (hP : PlOk n P) (hT : PlT n P) {m c : Nat} (hm : m < P.modes.length) (hcm : c < P.cmds.length) (x : List Rat) (hx : x.length = n) (hb : ∀ z ∈ x, Sz b z) (hz : b ≤ 2000) (a : Nat) (ha : a < 60000) :
    ∃ B a', Py.run fs Γ (k + 8) f__law_beat [dealD ns t, plD P, .int m, .int c, ptD x] (Sa a) = some (beatD B, Sa a') ∧ a ≤ a' ∧ a' ≤ a + 20 ∧ BtOk n 9 6 P B ∧ BeatR P m c x B ∧ 1 ≤ B.segs.length := by
  have hn : n ≤ 2 := by rcases hP.hn with h | h <;> omega
  obtain ⟨q1, q2, q3, q4⟩ := boxOf_eq hP hm hcm
  have hbt : BT n (boxOf P m c) := by rw [q3]; exact hT.1 _ (List.getElem_mem q1) _ (List.getElem_mem q2)
  -- parts
  obtain ⟨r0, w0, e0⟩ := r_takeN (k := k + 6) ns t h 3 (by decide) a (by omega)
  have c3 : ((3 : Nat) : Int) = 3 := rfl
  rw [c3] at e0
  have hr0 := rngS_map (n := 1 + r0) (by omega)
  rw [show ((1 + r0 : Nat) : Int) = 1 + (r0 : Int) by omega] at hr0
  obtain ⟨ps, a1, g1, g2, g3, g4, g5⟩ := ev_lc_draw (Φ := Py.run fs Γ (k + 7)) (Γ := Γ) (x := E.bin .Add (E.int 1) (E.call 50 (E.slot 0) (Es.cons (E.int 3) Es.nil))) (t := T.nm 6) (it := I.rng1 (E.bin .Add (E.int 1) (E.call 50 (E.slot 0) (Es.cons (E.int 3) Es.nil)))) (vs := [6]) (env := [some (.val (dealD ns t)), some (.val (plD P)), some (.val (.int m)), some (.val (.int c)), some (.val (ptD x)), none, none, none, none, none, none, none]) (enc := D.int) (P := fun z => 1 ≤ z ∧ z ≤ 3) (a0 := a) (a := a + 1) (ds := (List.range (1 + r0)).map fun m : Nat => D.int (m : Int)) 1 70000
    (by simp -implicitDefEqProofs [e0, hr0]) (by simp; omega) (by simp; omega) (fun d hd a ha => by
      obtain ⟨r1, w1, e1⟩ := r_takeN (k := k + 6) ns t h 3 (by decide) a (by omega)
      rw [c3] at e1
      exact ⟨[some (.val (dealD ns t)), some (.val (plD P)), some (.val (.int m)), some (.val (.int c)), some (.val (ptD x)), none, some (.val d), none, none, none, none, none], 1 + (r1 : Int), a + 1, by simp, by simp -implicitDefEqProofs [e1], by omega, by omega, by omega⟩)
  have g1' : ev (Py.run fs Γ (k + 7)) Γ c1__law_beat [some (.val (dealD ns t)), some (.val (plD P)), some (.val (.int m)), some (.val (.int c)), some (.val (ptD x)), none, none, none, none, none, none, none] (Sa a) = _ := g1
  rw [List.length_map, List.length_range] at g2 g5
  -- spans
  obtain ⟨s1, s2⟩ := sum_pos ps g3
  have hS : 0 < ps.sum := by omega
  have hsp : ∀ p ∈ ps, Sz 6 (P.beat * Rat.divInt p ps.sum) ∧ 0 < P.beat * Rat.divInt p ps.sum := fun p hp => by
    have hp' := g3 p hp
    exact ⟨hP.bz.mul (Sz.divInt (n := 4) (by omega) (by omega) (by omega)), Rat.mul_pos hP.b0 (divInt_pos (by omega) hS)⟩
  have e2 : ∀ x6 x7 x8 x9 x10 x11 : Option SV, ev (Py.run fs Γ (k + 7)) Γ c2__law_beat [some (.val (dealD ns t)), some (.val (plD P)), some (.val (.int m)), some (.val (.int c)), some (.val (ptD x)), some (.val (.lst (ps.map D.int))), x6, x7, x8, x9, x10, x11] (Sa a1) = some (.lst ((ps.map fun p => P.beat * Rat.divInt p ps.sum).map rD), Sa a1) := by
    intro x6 x7 x8 x9 x10 x11
    have hmm : (ps.map fun p => P.beat * Rat.divInt p ps.sum).map rD = ps.map fun p => rD (P.beat * Rat.divInt p ps.sum) := by rw [List.map_map]; rfl
    rw [c2__law_beat, hmm]
    refine ev_lc_map (g := D.int) ps (by simp) (by omega) fun p hp => ?_
    have hp' := g3 p hp
    have f1 := r_lratio (k := k + 6) (n := 4) (μ := Sa a1) p ps.sum (by omega) (by omega) (by omega) (by decide)
    have f2 := r_lmult (k := k + 5) (n := 6) (μ := Sa a1) P.beat (Rat.divInt p ps.sum) hP.bz (Sz.divInt (n := 4) (by omega) (by omega) (by omega)) (by decide) (by decide)
    exact ⟨[some (.val (dealD ns t)), some (.val (plD P)), some (.val (.int m)), some (.val (.int c)), some (.val (ptD x)), some (.val (.lst (ps.map D.int))), x6, x7, some (.val (.int p)), x9, x10, x11], by simp, by simp, by simp -implicitDefEqProofs [pl2, at9_4, asInts_map, f1, f2]⟩
  generalize hsps : (ps.map fun p => P.beat * Rat.divInt p ps.sum) = sps at *
  have hspl : sps.length = ps.length := by rw [← hsps]; simp
  have hsp' : ∀ sp ∈ sps, Sz 6 sp ∧ 0 < sp := fun sp hs => by
    rw [← hsps] at hs
    obtain ⟨p, hp, rfl⟩ := List.mem_map.mp hs
    exact hsp p hp
  -- segments
  have a3 : atI (P.rates.map rowD) (m : Int) = some (rowD P.rates[m]) := atI_map q1
  have a4 : atI (P.rates[m].map boxD) (c : Int) = some (boxD (boxOf P m c)) := by rw [atI_map q2, q3]
  have t4 : ∀ μ : Store, itsS μ (rowD P.rates[m]) = some (P.rates[m].map boxD) := fun _ => rfl
  obtain ⟨ss, a2, f1, f2, f3, f4, f5⟩ := ev_lc_drawM (Φ := Py.run fs Γ (k + 7)) (Γ := Γ) (x := E.tup (Es.cons (E.slot 10) (Es.cons (E.call 75 (E.slot 0) (Es.cons (E.ix (E.ix (E.ix (E.slot 1) (E.int 5)) (E.slot 2)) (E.slot 3)) Es.nil)) Es.nil))) (t := T.nm 10) (it := I.seq (E.slot 7)) (vs := [10]) (env := [some (.val (dealD ns t)), some (.val (plD P)), some (.val (.int m)), some (.val (.int c)), some (.val (ptD x)), some (.val (.lst (ps.map D.int))), none, some (.val (.lst (sps.map rD))), none, none, none, none]) (g := rD) (enc := segD) (P := fun sp s => s.1 = sp ∧ inBoxM (boxOf P m c) s.2 = true ∧ s.2.length = n ∧ ∀ y ∈ s.2, Sz 9 y) (a0 := a1) (a := a1) sps 2 70000
    (by simp) (by omega) (by omega) (fun sp hsp a ha => by
      obtain ⟨r, a', e1, b1, b2, b3, b4, b5⟩ := r_between (k := k + 3) ns t h hn hbt a (by omega)
      exact ⟨[some (.val (dealD ns t)), some (.val (plD P)), some (.val (.int m)), some (.val (.int c)), some (.val (ptD x)), some (.val (.lst (ps.map D.int))), none, some (.val (.lst (sps.map rD))), none, none, some (.val (rD sp)), none], (sp, r), a', by simp, by simp -implicitDefEqProofs [pl2, at9_5, a3, t4, a4, e1, szle, segD], ⟨rfl, b3, b4, b5⟩, by omega, by omega⟩)
  have f1' : ev (Py.run fs Γ (k + 7)) Γ c3__law_beat [some (.val (dealD ns t)), some (.val (plD P)), some (.val (.int m)), some (.val (.int c)), some (.val (ptD x)), some (.val (.lst (ps.map D.int))), none, some (.val (.lst (sps.map rD))), none, none, none, none] (Sa a1) = _ := f1
  have hseg : ∀ s ∈ ss, 0 < s.1 ∧ Sz 6 s.1 ∧ inBoxM (boxOf P m c) s.2 = true ∧ s.2.length = n ∧ ∀ y ∈ s.2, Sz 9 y := fun s hs => by
    obtain ⟨sp, hsp, w1, w2, w3, w4⟩ := zip_ex (Q := fun (sp : Rat) (s : Seg) => s.1 = sp ∧ inBoxM (boxOf P m c) s.2 = true ∧ s.2.length = n ∧ ∀ y ∈ s.2, Sz 9 y) f2 f3 s hs
    have := hsp' sp hsp
    rw [w1]
    exact ⟨this.2, this.1, w2, w3, w4⟩
  have hfst : ss.map (·.1) = sps := List.ext_getElem (by simp [f2]) fun j h1 h2 => by
    rw [List.length_map] at h1
    have := zip_mem (Q := fun (sp : Rat) (s : Seg) => s.1 = sp ∧ inBoxM (boxOf P m c) s.2 = true ∧ s.2.length = n ∧ ∀ y ∈ s.2, Sz 9 y) f2 f3 j h2 h1
    simp [this.1]
  have hsum : sumT ss = P.beat := by
    have := sum_spans P.beat ps.sum ps ss (by rw [hfst, ← hsps])
    rw [this, Rat.div_def, Rat.mul_assoc, Rat.mul_inv_cancel _ (by intro z; have : ps.sum = 0 := by exact_mod_cast z
                                                                   omega), Rat.mul_one]
  have hso : SegsOk n 9 6 ss := fun s hs => ⟨(hseg s hs).2.2.2.1, (hseg s hs).2.1, (hseg s hs).2.2.2.2⟩
  have hsl : ss.length ≤ 3 := by omega
  -- the switch
  have hle : ss.length * (9 + 6 + 1) ≤ 3 * 16 := Nat.mul_le_mul_right _ hsl
  have p1 := r_lpassed (k := k + 3) (μ := Sa a2) (by omega) rfl x ss hso hx hb (by omega) (by omega)
  have hat : atI ((passedM x ss).map ptD) (-1) = some (ptD (endM x ss)) := atI_last (passedM_last _ _)
  obtain ⟨v1, v2⟩ := endM_ok hso hx hb
  have p2 := r_lchoices (k := k + 1) (μ := Sa a2) hP m (endM x ss) v1 v2 (by omega)
  have hcl := choicesM_len P.sw m (endM x ss)
  have hsw := hP.sl
  obtain ⟨j, hj, p3⟩ := r_pick (k := k + 5) ns t h ((choicesM P.sw m (endM x ss)).map oD) (by simpa using hcl.1) (by simp; omega) a2 (by omega)
  rw [List.getElem_map] at p3
  have hj' : j < (choicesM P.sw m (endM x ss)).length := by simpa using hj
  have hmem : (choicesM P.sw m (endM x ss))[j] ∈ choicesM P.sw m (endM x ss) := List.getElem_mem hj'
  have hse : segsD ss = .tup (ss.map segD) := rfl
  generalize (choicesM P.sw m (endM x ss))[j] = o at *
  rw [u__law_beat, b__law_beat]
  cases o with
  | none =>
    refine ⟨⟨ss, none, []⟩, a2 + 1, ?_, by omega, by omega, ⟨hso, by dsimp only; omega, fun i hi => by cases hi⟩, ⟨fun s hs => ⟨(hseg s hs).1, (hseg s hs).2.2.1⟩, hsum, hmem, fun i hi => by cases hi⟩, by dsimp only; omega⟩
    have hbd : beatD ⟨ss, none, []⟩ = .tup [.tup (ss.map segD), .non, .non] := rfl
    rw [hbd]
    rw [hse] at p1
    simp -implicitDefEqProofs [g1', e2, f1', p1, hat, p2, p3, oD, n2, szle]
  | some i =>
    obtain ⟨i1, _⟩ := choicesM_lt hmem
    obtain ⟨k1, k2⟩ := kicksOf_eq hP i1
    have hkt : BT n P.sw[i].kicks := hT.2 _ (List.getElem_mem i1)
    obtain ⟨y, a4', e4, b1, b2, b3, b4, b5⟩ := r_between (k := k + 3) ns t h hn hkt (a2 + 1) (by omega)
    have a5 : atI (P.sw.map swD) (i : Int) = some (swD P.sw[i]) := atI_map i1
    refine ⟨⟨ss, some i, y⟩, a4', ?_, by omega, by omega, ⟨hso, by dsimp only; omega, fun i' hi => ?_⟩, ⟨fun s hs => ⟨(hseg s hs).1, (hseg s hs).2.2.1⟩, hsum, hmem, fun i' hi => ?_⟩, by dsimp only; omega⟩
    · have hbd : beatD ⟨ss, some i, y⟩ = .tup [.tup (ss.map segD), .int (i : Int), ptD y] := rfl
      rw [hbd]
      rw [hse] at p1
      simp -implicitDefEqProofs [g1', e2, f1', p1, hat, p2, p3, oD, n1, szle, pl2, at9_6, a5, sw2, at6_5, e4]
    · cases hi; exact ⟨i1, b4, b5⟩
    · cases hi; rw [k1]; exact b3
theorem r_lcourse {n : Nat} {P : Pl} (hP : PlOk n P) (hT : PlT n P) {m : Nat} (hm : m < P.modes.length) (x : List Rat) (hx : x.length = n) (hb : ∀ z ∈ x, Sz 3 z) (many : Nat) (hmany : many ≤ 4) (a : Nat) (ha : a < 50000) :
    ∃ ss a', Py.run fs Γ (k + 9) f__law_course [dealD ns t, plD P, .int m, ptD x, .int many] (Sa a) = some (courseD x ss, Sa a') ∧ a ≤ a' ∧ a' ≤ a + 100 ∧ CrsOk n 400 9 6 P m x ss ∧ ss.length = many ∧ ∀ s ∈ ss, 1 ≤ s.2.segs.length := by
  have hr := rngS_0 (n := many) (by omega)
  obtain ⟨env', μ', e, ss, a', x7, x8, x9, rfl, rfl, c1, c2, c3, c4, c5, c6⟩ := forS_inv (t := T.nm 7) (b := fun env' μ' => exs (Py.run fs Γ (k + 8)) Γ l1__law_course env' μ') (ds := rangeD 0 many) (env := [some (.val (dealD ns t)), some (.val (plD P)), some (.val (.int m)), some (.val (ptD x)), some (.val (.int many)), some (.own []), some (.val (plcD (m, x))), none, none, none]) (μ := Sa a)
    (fun i env m' => ∃ (ss : List Step) (a' : Nat) (x7 x8 x9 : Option SV), env = [some (.val (dealD ns t)), some (.val (plD P)), some (.val (.int m)), some (.val (ptD x)), some (.val (.int many)), some (.own (ss.map stepD)), some (.val (plcD (lastM P m x ss))), x7, x8, x9] ∧ m' = Sa a' ∧ a ≤ a' ∧ a' ≤ a + 21 * i ∧ ss.length = i ∧ StepsOk n 9 6 P ss ∧ RightS P m x ss ∧ ∀ s ∈ ss, 1 ≤ s.2.segs.length)
    ⟨[], a, none, none, none, rfl, rfl, Nat.le_refl _, Nat.le_refl _, rfl, (fun _ h => by cases h), trivial, fun _ h => by cases h⟩ (by
      rintro i env m' d hd ⟨ss, a', x7, x8, x9, rfl, rfl, c1, c2, c3, c4, c5, c6⟩
      obtain ⟨rfl, hi⟩ := rangeD_get hd
      rw [Int.zero_add]
      have hps := plcSz_of hP ss m x 3 400 hm c4 hx hb (by rw [c3]; have : i * (5 * (9 + 6 + 1) + 9 + 1) ≤ 4 * (5 * (9 + 6 + 1) + 9 + 1) := Nat.mul_le_mul_right _ (by omega)
                                                           omega)
      obtain ⟨l1, l2, l3⟩ := lastM_ok hP hm c4 hx hps
      have hcc := hP.c1
      obtain ⟨cm, w1, e1⟩ := r_takeN (k := k + 7) ns t h P.cmds.length (by omega) a' (by omega)
      obtain ⟨B, a2, e2, b1, b2, b3, b4, b5⟩ := r_lbeat (k := k) ns t h hP hT l1 w1 (lastM P m x ss).2 l2 l3 (by decide) (a' + 1) (by omega)
      have e3 := r_lend (k := k + 3) (μ := Sa a2) hP b3 rfl (lastM P m x ss).1 (lastM P m x ss).2 l2 l3 (by decide)
      have hlt : ss.length < 16777216 := by omega
      have hla := lastM_app P ss m x (cm, B)
      refine ⟨[some (.val (dealD ns t)), some (.val (plD P)), some (.val (.int m)), some (.val (ptD x)), some (.val (.int many)), some (.own (ss.map stepD)), some (.val (plcD (lastM P m x ss))), some (.val (.int (i : Int))), x8, x9], [some (.val (dealD ns t)), some (.val (plD P)), some (.val (.int m)), some (.val (ptD x)), some (.val (.int many)), some (.own ((ss ++ [((cm, B) : Step)]).map stepD)), some (.val (plcD (lastM P m x (ss ++ [(cm, B)])))), some (.val (.int (i : Int))), some (.val (.int (cm : Int))), some (.val (beatD B))], Sa a2, by simp, .inl ?_, _, a2, _, _, _, rfl, rfl, by omega, by omega, by simp [c3], fun s hs => ?_, rightS_app P ss m x (cm, B) c5 w1 b4, fun s hs => ?_⟩
      · rw [hla]
        simp -implicitDefEqProofs [l1__law_course, pl2, at9_3, e1, tpD, at2_0, at2_1, e2, e3, szle, szlt, hlt, stepD]
      · rcases List.mem_append.mp hs with hs | hs
        · exact c4 s hs
        · rw [List.mem_singleton] at hs; rw [hs]; exact b3
      · rcases List.mem_append.mp hs with hs | hs
        · exact c6 s hs
        · rw [List.mem_singleton] at hs; rw [hs]; exact b5)
  rw [rangeD_len] at c2 c3
  have hps := plcSz_of hP ss m x 3 400 hm c4 hx hb (by rw [c3]; have : many * (5 * (9 + 6 + 1) + 9 + 1) ≤ 4 * (5 * (9 + 6 + 1) + 9 + 1) := Nat.mul_le_mul_right _ hmany
                                                       omega)
  refine ⟨ss, a', ?_, by omega, by omega, ⟨hP, hm, hx, c4, hps, c5, by decide, by omega⟩, c3, c6⟩
  have hpd : plcD (m, x) = .tup [.int (m : Int), ptD x] := rfl
  rw [hpd] at e
  rw [u__law_course, b__law_course]
  unfold courseD
  simp -implicitDefEqProofs [ex_for, hr, e, szle]
end
end P19
end
section
set_option Elab.async false
set_option linter.all false
set_option maxRecDepth 100000
set_option maxHeartbeats 0
namespace P19
open PySem L2 Py Geo FM
/-! ### plain -/
theorem pln_segD {N : Nat} {s : Seg} (h : s.2.length ≤ 1000) : pln (N + 3) (segD s) = true := by
  unfold segD
  rw [pln]
  have h1 : pln (N + 2) (rD s.1) = true := plain_rD
  have h2 : pln (N + 2) (ptD s.2) = true := plain_ptD (by omega)
  simp [h1, h2]
theorem pln_oD {N : Nat} {o : Option Nat} : pln N (oD o) = true := by cases o <;> (unfold oD; cases N <;> simp [pln])
theorem pln_beatD {N n c e : Nat} {P : Pl} {B : Beat} (hn : n ≤ 2) (hB : BtOk n c e P B) : pln (N + 5) (beatD B) = true := by
  have h1 : pln (N + 4) (segsD B.segs) = true := plain_tup (by have := hB.len; omega) fun s hs => pln_segD (by rw [(hB.segs s hs).1]; omega)
  have h2 : pln (N + 4) (kickD B) = true := by
    unfold kickD
    cases hi : B.ix with
    | none => simp [pln]
    | some i => exact plain_ptD (n := N + 2) (by rw [(hB.ix i hi).2.1]; omega)
  have h3 : pln (N + 4) (oD B.ix) = true := pln_oD
  unfold beatD
  rw [pln]
  simp [h1, h2, h3]
theorem pln_courseD {N n c e : Nat} {P : Pl} {x : List Rat} {ss : List Step} (hn : n ≤ 2) (hx : x.length = n) (hs : StepsOk n c e P ss) (hl : ss.length ≤ 1000) : pln (N + 8) (courseD x ss) = true := by
  have h1 : pln (N + 7) (ptD x) = true := plain_ptD (n := N + 5) (by omega)
  have h2 : pln (N + 7) (.tup (ss.map stepD)) = true := plain_tup (by omega) fun s hs' => by
    have hb : pln (N + 5) (beatD s.2) = true := pln_beatD hn (hs s hs')
    unfold stepD
    rw [pln]
    simp [hb, pln.eq_def (N + 5) (.int _)]
  unfold courseD
  rw [pln]
  simp only [List.length_cons, List.length_nil, List.all_cons, List.all_nil, h1, h2]
  rfl
theorem pln_plcD {N : Nat} {p : Plc} (h : p.2.length ≤ 1000) : pln (N + 3) (plcD p) = true := by
  have h2 : pln (N + 2) (ptD p.2) = true := plain_ptD (by omega)
  unfold plcD
  rw [pln]
  simp [h2, pln.eq_def (N + 2) (.int _)]
/-! ### cut courses -/
theorem CrsOk.take {n b c e : Nat} {P : Pl} {m : Nat} {x : List Rat} {ss : List Step} (h : CrsOk n b c e P m x ss) (j : Nat) : CrsOk n b c e P m x (ss.take j) :=
  ⟨h.pl, h.hm, h.hx, stepsOk_take h.ok j, plcSz_take P ss m x j h.sz, rightS_take P ss m x j h.rt, h.le, by have := h.len; simp; omega⟩
theorem CrsOk.drop {n b c e : Nat} {P : Pl} {m : Nat} {x : List Rat} {ss : List Step} (h : CrsOk n b c e P m x ss) (j : Nat) : CrsOk n b c e P (lastM P m x (ss.take j)).1 (lastM P m x (ss.take j)).2 (ss.drop j) := by
  obtain ⟨l1, l2, l3⟩ := lastM_ok h.pl h.hm (stepsOk_take h.ok j) h.hx (plcSz_take P ss m x j h.sz)
  exact ⟨h.pl, l1, l2, stepsOk_drop h.ok j, plcSz_drop P ss m x j h.sz, rightS_drop P ss m x j h.rt, h.le, by have := h.len; simp; omega⟩
theorem firstBad_none {P : Pl} {wi : List (List Bd)} {m : Nat} {x : List Rat} {ss : List Step} : (firstBad P wi m x ss).isNone = true ↔ ∀ j, j < ss.length → safeAt P wi m x ss j = true := by
  unfold firstBad
  rw [Option.isNone_iff_eq_none, List.find?_eq_none]
  constructor
  · intro h j hj
    have := h j (List.mem_range.mpr hj)
    simpa using this
  · intro h j hj
    have := h j (List.mem_range.mp hj)
    simp [this]
theorem safe_cut (P : Pl) (wi : List (List Bd)) (m : Nat) (x : List Rat) (ss : List Step) (j : Nat) (hj : j ≤ ss.length) :
    (firstBad P wi m x ss).isNone = ((firstBad P wi m x (ss.take j)).isNone && (firstBad P wi (lastM P m x (ss.take j)).1 (lastM P m x (ss.take j)).2 (ss.drop j)).isNone) := by
  have h1 : ∀ i, i < j → safeAt P wi m x (ss.take j) i = safeAt P wi m x ss i := fun i hi => by
    unfold safeAt
    rw [placesM_take, List.getElem?_take_of_lt (by omega), List.getElem?_take_of_lt hi]
  have h2 : ∀ i, safeAt P wi (lastM P m x (ss.take j)).1 (lastM P m x (ss.take j)).2 (ss.drop j) i = safeAt P wi m x ss (j + i) := fun i => by
    unfold safeAt
    rw [placesM_drop P ss m x j hj, List.getElem?_drop, List.getElem?_drop]
  rw [Bool.eq_iff_iff, Bool.and_eq_true, firstBad_none, firstBad_none, firstBad_none]
  constructor
  · intro h
    refine ⟨fun i hi => ?_, fun i hi => ?_⟩
    · rw [List.length_take] at hi
      rw [h1 i (by omega)]; exact h i (by omega)
    · rw [List.length_drop] at hi
      rw [h2 i]; exact h (j + i) (by omega)
  · rintro ⟨g1, g2⟩ i hi
    by_cases c : i < j
    · rw [← h1 i c]; exact g1 i (by rw [List.length_take]; omega)
    · have := g2 (i - j) (by rw [List.length_drop]; omega)
      rw [h2, show j + (i - j) = i by omega] at this
      exact this
def drawnS (P : Pl) (n : Nat) : Nat → List Rat → List (Nat × Nat) → List Step
  | _, _, [] => []
  | m, x, q :: r => (q.1, drawnM P n m q.1 x q.2) :: drawnS P n (placeM P m x (drawnM P n m q.1 x q.2)).1 (placeM P m x (drawnM P n m q.1 x q.2)).2 r
theorem drawnS_length (P : Pl) (n : Nat) : ∀ (qs : List (Nat × Nat)) (m : Nat) (x : List Rat), (drawnS P n m x qs).length = qs.length
  | [], _, _ => rfl
  | q :: r, m, x => by rw [drawnS, List.length_cons, List.length_cons, drawnS_length P n r]
theorem drawnS_ok {n : Nat} {P : Pl} (hP : PlOk n P) : ∀ (qs : List (Nat × Nat)) (m : Nat) (x : List Rat) (b : Nat), m < P.modes.length → x.length = n → (∀ y ∈ x, Sz b y) → (∀ q ∈ qs, q.1 < P.cmds.length ∧ q.2 < 1000) → StepsOk n 9 6 P (drawnS P n m x qs) ∧ RightS P m x (drawnS P n m x qs)
  | [], _, _, _, _, _, _, _ => ⟨fun _ h => (by cases h), trivial⟩
  | q :: r, m, x, b, hm, hx, hb, hq => by
    obtain ⟨h1, h2⟩ := hq q (by simp)
    obtain ⟨d1, d2⟩ := drawn_ok hP hm h1 x q.2
    obtain ⟨p1, p2, p3⟩ := placeM_ok hP hm d1 hx hb
    obtain ⟨i1, i2⟩ := drawnS_ok hP r _ _ _ p1 p2 p3 (fun q' hq' => hq q' (by simp [hq']))
    refine ⟨fun s hs => ?_, h1, d2, i2⟩
    rw [drawnS] at hs
    rcases List.mem_cons.mp hs with rfl | hs
    · exact d1
    · exact i1 s hs
def qD (q : Nat × Nat) : D := .tup [.int (q.1 : Int), .int (q.2 : Int)]
section
variable {k : Nat} {μ : Store}
theorem r_cut {n b c e : Nat} {P : Pl} {wi : List (List Bd)} {m : Nat} {x : List Rat} {ss : List Step} (h : CrsOk n b c e P m x ss) (hW : StOk n P wi) (hμ : scalS μ = true) (hc : b + 10 * (c + e + 1) + c + 10 ≤ 4000) (j : Nat) (hj : j ≤ ss.length) :
    Py.run fs Γ (k + 13) f__law_cut [plD P, wiD wi, .int m, courseD x ss, .lst ((placesM P m x ss).map plcD), .int j] μ = some (.bl true, μ) := by
  have hle := h.le
  have hlen := h.len
  have hn : n ≤ 2 := by rcases h.pl.hn with h | h <;> omega
  have ht := h.take j
  have hd := h.drop j
  have g1 := r_first_steps (k := k + 11) (μ := μ) x ss j
  have g2 := r_course_behind (k := k + 4) (μ := μ) h hμ j hj
  have g3 := r_same (μ := μ) 8 (k + 3) (courseD x (ss.take j)) (pln_courseD (N := 0) hn h.hx ht.ok (by simp; omega))
  have g4 := r_shows_course (k := k) (μ := μ) h.pl hμ hc m h.hm x h.hx (ss.take j) ht.ok ht.sz ht.rt
  have g5 := r_shows_course (k := k) (μ := μ) h.pl hμ hc _ hd.hm _ hd.hx (ss.drop j) hd.ok hd.sz hd.rt
  have g6 := r_is_safe_course (k := k) (μ := μ) h.pl hW hμ (by omega) m h.hm x h.hx (ss.take j) ht.ok ht.sz (by simp; omega)
  have g7 := r_is_safe_course (k := k) (μ := μ) h.pl hW hμ (by omega) _ hd.hm _ hd.hx (ss.drop j) hd.ok hd.sz (by simp; omega)
  have g8 := r_replayed (k := k + 5) (μ := μ) h.pl hμ (by omega) m h.hm x h.hx (ss.take j) ht.ok ht.sz (by simp; omega)
  have g9 := r_is_safe_course (k := k) (μ := μ) h.pl hW hμ (by omega) m h.hm x h.hx ss h.ok h.sz (by omega)
  have g10 : ∀ b : Bool, Py.run fs Γ (k + 12) f__law_bool [.bl b, .bl b] μ = some (.bl true, μ) := fun b => r_bool (k := k + 11) (μ := μ) b
  rw [safe_cut P wi m x ss j hj] at g9
  have hpl := placesM_length P ss m x
  have hj2 : j < (placesM P m x ss).length := by omega
  have hq := lastM_take P ss m x j hj
  have hpj : (placesM P m x ss)[j] = lastM P m x (ss.take j) := by rw [List.getElem?_eq_getElem hj2] at hq; exact Option.some.inj hq
  have a1 : atI ((placesM P m x ss).map plcD) (j : Int) = some (plcD (lastM P m x (ss.take j))) := by rw [atI_map hj2, hpj]
  have hcut1 : D.tup [ptD x, .tup (Py.cutS (ss.map stepD) none (some (j : Int)))] = courseD x (ss.take j) := by rw [cutS_take]; unfold courseD; rw [List.map_take]
  have hcut2 : D.tup [ptD (lastM P m x (ss.take j)).2, .tup (Py.cutS (ss.map stepD) (some (j : Int)) none)] = courseD (lastM P m x (ss.take j)).2 (ss.drop j) := by rw [cutS_drop]; unfold courseD; rw [List.map_drop]
  have hcut3 : Py.cutS ((placesM P m x ss).map plcD) none (some ((j : Int) + 1)) = (placesM P m x (ss.take j)).map plcD := by
    rw [show (j : Int) + 1 = ((j + 1 : Nat) : Int) by omega, cutS_take, placesM_take, List.map_take]
  have hpo := placesM_ok h.pl (ss.take j) m x h.hm ht.ok h.hx ht.sz
  have hlp := placesM_length P (ss.take j) m x
  have heq1 : eqS (.lst ((placesM P m x (ss.take j)).map plcD)) (.lst ((placesM P m x (ss.take j)).map plcD)) = some true := eqS_refl (n := 4) (plain_lst (by rw [hlp]; simp; omega) fun p hp => pln_plcD (N := 0) (by rw [(hpo p hp).2.1]; omega))
  have hdc := pln_courseD (N := 0) hn hd.hx hd.ok (by simp; omega)
  generalize hL : lastM P m x (ss.take j) = L at *
  have heq2 : eqS (.tup [.int (L.1 : Int), courseD L.2 (ss.drop j)]) (.tup [.int (L.1 : Int), courseD L.2 (ss.drop j)]) = some true := eqS_refl (n := 9) (by rw [pln]; simp [hdc, pln.eq_def 8 (.int _)])
  rw [u__law_cut, b__law_cut]
  generalize (firstBad P wi m x (ss.take j)).isNone = f1 at *
  generalize (firstBad P wi L.1 L.2 (ss.drop j)).isNone = f2 at *
  cases f1 <;> cases f2 <;> simp -implicitDefEqProofs [g1, g2, g3, g4, g5, g6, g7, g8, g9, g10, a1, tcD, tpD, at2_0, at2_1, hcut1, hcut2, hcut3, heq1, heq2, szle]
theorem dc_loop {n : Nat} {P : Pl} (hP : PlOk n P) (hμ : scalS μ = true) (x1 x2 x3 : Option SV) : ∀ (qs : List (Nat × Nat)) (acc : List Step) (m : Nat) (x : List Rat) (b : Nat) (x6 x7 x8 : Option SV), m < P.modes.length → x.length = n → (∀ y ∈ x, Sz b y) → b + qs.length * 90 ≤ 1500 → (∀ q ∈ qs, q.1 < P.cmds.length ∧ q.2 < 1000) → acc.length + qs.length ≤ 1000 →
    ∃ y5 y6 y7 y8, forS (T.tp [(T.nm 6), (T.nm 7)]) (fun env' μ' => exs (Py.run fs Γ (k + 12)) Γ l1_drawn_course env' μ') (qs.map qD) [some (.val (plD P)), x1, x2, x3, some (.own (acc.map stepD)), some (.val (plcD (m, x))), x6, x7, x8] μ =
      some (.nx [some (.val (plD P)), x1, x2, x3, some (.own ((acc ++ drawnS P n m x qs).map stepD)), y5, y6, y7, y8] μ)
  | [], acc, m, x, b, x6, x7, x8, _, _, _, _, _, _ => ⟨some (.val (plcD (m, x))), x6, x7, x8, by simp [forS_nil, drawnS]⟩
  | q :: r, acc, m, x, b, x6, x7, x8, hm, hx, hb, hz, hq, hl => by
    rw [List.length_cons, Nat.succ_mul] at hz
    rw [List.length_cons] at hl
    obtain ⟨h1, h2⟩ := hq q (by simp)
    obtain ⟨d1, d2⟩ := drawn_ok hP hm h1 x q.2
    obtain ⟨p1, p2, p3⟩ := placeM_ok hP hm d1 hx hb
    have g1 := r_drawn_beat (k := k) (μ := μ) hP hm h1 x hx hb (by omega) q.2 h2
    have g2 := r_end_of (k := k + 6) (μ := μ) hP d1 hμ m x hx hb (by omega)
    obtain ⟨y5, y6, y7, y8, ih⟩ := dc_loop hP hμ x1 x2 x3 r (acc ++ [((q.1, drawnM P n m q.1 x q.2) : Step)]) _ _ (b + 90) (some (.val (.int q.1))) (some (.val (.int q.2))) (some (.val (beatD (drawnM P n m q.1 x q.2)))) p1 p2 (fun y hy => (p3 y hy).mono (by omega)) (by omega) (fun q' hq' => hq q' (by simp [hq'])) (by simp; omega)
    refine ⟨y5, y6, y7, y8, ?_⟩
    have e1 : acc ++ drawnS P n m x (q :: r) = acc ++ [((q.1, drawnM P n m q.1 x q.2) : Step)] ++ drawnS P n (placeM P m x (drawnM P n m q.1 x q.2)).1 (placeM P m x (drawnM P n m q.1 x q.2)).2 r := by rw [drawnS, List.append_assoc]; rfl
    rw [e1, ← ih, List.map_cons]
    have hlt : acc.length < 16777216 := by omega
    refine forS_go (env1 := [some (.val (plD P)), x1, x2, x3, some (.own (acc.map stepD)), some (.val (plcD (m, x))), some (.val (.int q.1)), some (.val (.int q.2)), x8]) (by unfold qD; simp) ?_
    simp -implicitDefEqProofs [l1_drawn_course, tpD, at2_0, at2_1, g1, g2, szle, szlt, hlt, stepD]
theorem r_drawn_course {n b : Nat} {P : Pl} (hP : PlOk n P) (hμ : scalS μ = true) (qs : List (Nat × Nat)) (m : Nat) (hm : m < P.modes.length) (x : List Rat) (hx : x.length = n) (hb : ∀ y ∈ x, Sz b y) (hz : b + qs.length * 90 ≤ 1500) (hq : ∀ q ∈ qs, q.1 < P.cmds.length ∧ q.2 < 1000) :
    Py.run fs Γ (k + 13) f_drawn_course [plD P, .int m, ptD x, .tup (qs.map qD)] μ = some (courseD x (drawnS P n m x qs), μ) := by
  obtain ⟨y5, y6, y7, y8, e1⟩ := dc_loop (k := k) (μ := μ) hP hμ (some (.val (.int m))) (some (.val (ptD x))) (some (.val (.tup (qs.map qD)))) qs [] m x b none none none hm hx hb hz hq (by simp; omega)
  have hpd : plcD (m, x) = .tup [.int (m : Int), ptD x] := rfl
  rw [hpd, List.nil_append, List.map_nil] at e1
  rw [u_drawn_course, b_drawn_course]
  unfold courseD
  simp -implicitDefEqProofs [ex_for, e1, szle]
end
section
variable {k : Nat} (ns : List Int) (t : Int) (h : DealOk ns t)
include h
theorem r_ldrawn {n : Nat} {P : Pl} (hP : PlOk n P) (m : Nat) (hm : m < P.modes.length) (x : List Rat) (hx : x.length = n) (hb : ∀ y ∈ x, Sz 3 y) (a : Nat) (ha : a < 50000) :
    ∃ a', Py.run fs Γ (k + 14) f__law_drawn [dealD ns t, plD P, .int m, ptD x] (Sa a) = some (.bl true, Sa a') ∧ a ≤ a' ∧ a' ≤ a + 10 := by
  have hn : n ≤ 2 := by rcases hP.hn with h | h <;> omega
  have hcc := hP.c1
  obtain ⟨r0, w0, e0⟩ := r_takeN (k := k + 12) ns t h 4 (by decide) a (by omega)
  have c4 : ((4 : Nat) : Int) = 4 := rfl
  rw [c4] at e0
  have hr0 := rngS_map (n := r0) (by omega)
  obtain ⟨qs, a1, g1, g2, g3, g4, g5⟩ := ev_lc_draw (Φ := Py.run fs Γ (k + 13)) (Γ := Γ) (x := E.tup (Es.cons (E.call 50 (E.slot 0) (Es.cons (E.bi .len (E.ix (E.slot 1) (E.int 3)) Es.nil) Es.nil)) (Es.cons (E.call 50 (E.slot 0) (Es.cons (E.int 1000) Es.nil)) Es.nil))) (t := T.nm 5) (it := I.rng1 (E.call 50 (E.slot 0) (Es.cons (E.int 4) Es.nil))) (vs := [5]) (env := [some (.val (dealD ns t)), some (.val (plD P)), some (.val (.int m)), some (.val (ptD x)), none, none, none, none, none, none, none, none]) (enc := qD) (P := fun q : Nat × Nat => q.1 < P.cmds.length ∧ q.2 < 1000) (a0 := a) (a := a + 1) (ds := (List.range r0).map fun m : Nat => D.int (m : Int)) 2 70000
    (by simp -implicitDefEqProofs [e0, hr0]) (by simp; omega) (by simp; omega) (fun d hd a ha => by
      obtain ⟨r1, w1, e1⟩ := r_takeN (k := k + 12) ns t h P.cmds.length (by omega) a (by omega)
      obtain ⟨r2, w2, e2⟩ := r_takeN (k := k + 12) ns t h 1000 (by decide) (a + 1) (by omega)
      have c5 : ((1000 : Nat) : Int) = 1000 := rfl
      rw [c5] at e2
      exact ⟨[some (.val (dealD ns t)), some (.val (plD P)), some (.val (.int m)), some (.val (ptD x)), none, some (.val d), none, none, none, none, none, none], (r1, r2), a + 2, by simp, by simp -implicitDefEqProofs [pl2, at9_3, e1, e2, szle, qD], ⟨w1, w2⟩, by omega, by omega⟩)
  have g1' : ev (Py.run fs Γ (k + 13)) Γ c1__law_drawn [some (.val (dealD ns t)), some (.val (plD P)), some (.val (.int m)), some (.val (ptD x)), none, none, none, none, none, none, none, none] (Sa a) = _ := g1
  rw [List.length_map, List.length_range] at g2 g5
  have key : ∀ (rs : List (Nat × Nat)) (acc : List Step) (m' : Nat) (x' : List Rat) (b : Nat) (x8 x9 x10 : Option SV), m' < P.modes.length → x'.length = n → (∀ y ∈ x', Sz b y) → b + rs.length * 90 ≤ 1500 → (∀ q ∈ rs, q.1 < P.cmds.length ∧ q.2 < 1000) → acc.length + rs.length ≤ 1000 →
      ∃ y7 y8 y9 y10, forS (T.tp [(T.nm 8), (T.nm 9)]) (fun env' μ' => exs (Py.run fs Γ (k + 13)) Γ l1__law_drawn env' μ') (rs.map qD) [some (.val (dealD ns t)), some (.val (plD P)), some (.val (.int m)), some (.val (ptD x)), some (.val (.tup (qs.map qD))), none, some (.own (acc.map stepD)), some (.val (plcD (m', x'))), x8, x9, x10, none] (Sa a1) =
        some (.nx [some (.val (dealD ns t)), some (.val (plD P)), some (.val (.int m)), some (.val (ptD x)), some (.val (.tup (qs.map qD))), none, some (.own ((acc ++ drawnS P n m' x' rs).map stepD)), y7, y8, y9, y10, none] (Sa a1)) := by
    intro rs
    induction rs with
    | nil => intro acc m' x' b x8 x9 x10 _ _ _ _ _ _; exact ⟨some (.val (plcD (m', x'))), x8, x9, x10, by simp [forS_nil, drawnS]⟩
    | cons q r ih =>
      intro acc m' x' b x8 x9 x10 hm' hx' hb' hz hq hl
      rw [List.length_cons, Nat.succ_mul] at hz
      rw [List.length_cons] at hl
      obtain ⟨h1, h2⟩ := hq q (by simp)
      obtain ⟨d1, d2⟩ := drawn_ok hP hm' h1 x' q.2
      obtain ⟨p1, p2, p3⟩ := placeM_ok hP hm' d1 hx' hb'
      have f1 := r_drawn_beat (k := k + 1) (μ := Sa a1) hP hm' h1 x' hx' hb' (by omega) q.2 h2
      have f2 := r_ldrawn_beat (k := k + 5) (μ := Sa a1) hP hm' h1 x' hx' hb' (by omega) q.2 h2
      have f3 := r_lend (k := k + 8) (μ := Sa a1) hP d1 rfl m' x' hx' hb' (by omega)
      have f4 := r_same (μ := Sa a1) 5 (k + 7) (beatD (drawnM P n m' q.1 x' q.2)) (pln_beatD (N := 0) hn d1)
      obtain ⟨y7, y8, y9, y10, ih'⟩ := ih (acc ++ [((q.1, drawnM P n m' q.1 x' q.2) : Step)]) _ _ (b + 90) (some (.val (.int q.1))) (some (.val (.int q.2))) (some (.val (beatD (drawnM P n m' q.1 x' q.2)))) p1 p2 (fun y hy => (p3 y hy).mono (by omega)) (by omega) (fun q' hq' => hq q' (by simp [hq'])) (by simp; omega)
      refine ⟨y7, y8, y9, y10, ?_⟩
      have e1 : acc ++ drawnS P n m' x' (q :: r) = acc ++ [((q.1, drawnM P n m' q.1 x' q.2) : Step)] ++ drawnS P n (placeM P m' x' (drawnM P n m' q.1 x' q.2)).1 (placeM P m' x' (drawnM P n m' q.1 x' q.2)).2 r := by rw [drawnS, List.append_assoc]; rfl
      rw [e1, ← ih', List.map_cons]
      have hlt : acc.length < 16777216 := by omega
      refine forS_go (env1 := [some (.val (dealD ns t)), some (.val (plD P)), some (.val (.int m)), some (.val (ptD x)), some (.val (.tup (qs.map qD))), none, some (.own (acc.map stepD)), some (.val (plcD (m', x'))), some (.val (.int q.1)), some (.val (.int q.2)), x10, none]) (by unfold qD; simp) ?_
      simp -implicitDefEqProofs [l1__law_drawn, tpD, at2_0, at2_1, f1, f2, f3, f4, szle, szlt, hlt, stepD]
  obtain ⟨y7, y8, y9, y10, e1⟩ := key qs [] m x 3 none none none hm hx hb (by omega) g3 (by simp; omega)
  obtain ⟨o1, o2⟩ := drawnS_ok hP qs m x 3 hm hx hb g3
  have hdl := drawnS_length P n qs m x
  have hle : (drawnS P n m x qs).length * (5 * (9 + 6 + 1) + 9 + 1) ≤ 3 * 90 := Nat.mul_le_mul (by omega) (by decide)
  have hsz := plcSz_of hP (drawnS P n m x qs) m x 3 400 hm o1 hx hb (by omega)
  have e2 := r_drawn_course (k := k) (μ := Sa a1) hP rfl qs m hm x hx hb (by omega) g3
  have e3 := r_same (μ := Sa a1) 8 (k + 4) (courseD x (drawnS P n m x qs)) (pln_courseD (N := 0) hn hx o1 (by omega))
  have e4 := r_shows_course (k := k + 1) (μ := Sa a1) hP rfl (b := 400) (c := 9) (e := 6) (by decide) m hm x hx (drawnS P n m x qs) o1 hsz o2
  have hpd : plcD (m, x) = .tup [.int (m : Int), ptD x] := rfl
  have hcd : D.tup [ptD x, .tup ((drawnS P n m x qs).map stepD)] = courseD x (drawnS P n m x qs) := rfl
  rw [hpd, List.nil_append, List.map_nil] at e1
  refine ⟨a1, ?_, by omega, by omega⟩
  rw [u__law_drawn, b__law_drawn]
  simp -implicitDefEqProofs [ex_for, g1', e1, e2, e3, e4, szle, hcd]
end
end P19
end
section
set_option Elab.async false
set_option linter.all false
set_option maxRecDepth 100000
set_option maxHeartbeats 0
namespace P19
open PySem L2 Py Geo FM
/-! ### spoilt courses -/
def withD (x : List Rat) (ss : List Step) (j : Nat) (st : D) : D := .tup [ptD x, .tup ((ss.take j).map stepD ++ st :: (ss.drop (j + 1)).map stepD)]
theorem cutS_last (ds : List D) : Py.cutS ds none (some (-1)) = ds.dropLast := by
  unfold Py.cutS HT.sIx
  dsimp only
  rw [if_pos (by decide), List.drop_zero, Nat.sub_zero, List.dropLast_eq_take]
  congr 1
  omega
theorem sumT_app (ss : List Seg) (s : Seg) : sumT (ss ++ [s]) = sumT ss + s.1 := by unfold sumT; rw [List.foldl_append]; rfl
def BadQ (P : Pl) (p : Plc) (q : Int × D) : Prop := (q.1 < 0 ∨ (P.cmds.length : Int) ≤ q.1) ∨ (0 ≤ q.1 ∧ q.1 < (P.cmds.length : Int) ∧ ∀ (k : Nat) (μ : Store), scalS μ = true → Py.run fs Γ (k + 11) f_is_beat [plD P, .int (p.1 : Int), .int q.1, ptD p.2, q.2] μ = some (.bl false, μ))
theorem third : rD (Rat.divInt 1 3) = .tup [.int 1, .int 3] := by rw [rD_divInt (by decide)]; rfl
theorem box_over {b : Box} {v : Rat} {r : List Rat} (hb : 0 < b.length) (h : (b.getD 0 (0, 0)).2 < v) : inBoxM b (v :: r) = false := by
  cases hc : inBoxM b (v :: r) with
  | false => rfl
  | true =>
    have := ((inBox_iff.mp hc).2 0 hb).2
    simp only [List.getD_cons_zero] at this
    grind
def zz : D := .tup [.int 0, .int 1]
def spL (P : Pl) (cm : Nat) (B : Beat) (sl sl1 sl2 rl rl1 : List D) (sp hi : Rat) : List (Int × D) := [
  ((P.cmds.length : Int), beatD B), (-1, beatD B),
  ((cm : Int), .tup [.tup sl2, oD B.ix, kickD B]),
  ((cm : Int), .tup [.tup (sl ++ [.tup [rD P.beat, .tup rl]]), oD B.ix, kickD B]),
  ((cm : Int), .tup [.tup (.tup [rD sp, .tup (rD hi :: rl1)] :: sl1), oD B.ix, kickD B]),
  ((cm : Int), .tup [.tup (.tup [.tup [.int (2 * sp.num), .int (2 * sp.den)], .tup rl] :: sl1), oD B.ix, kickD B]),
  ((cm : Int), .tup [.tup (.tup [zz, .tup rl] :: sl), oD B.ix, kickD B]),
  ((cm : Int), .tup [.tup (.tup [rD sp, .tup (rl ++ [zz])] :: sl1), oD B.ix, kickD B])]
section
variable {k : Nat} {μ : Store}
theorem r_with (x : List Rat) (ss : List Step) (j : Nat) (st : D) (hl : ss.length ≤ 1000) : Py.run fs Γ (k + 1) f__law_with [courseD x ss, .int j, st] μ = some (withD x ss j st, μ) := by
  have h1 : Py.cutS (ss.map stepD) none (some (j : Int)) = (ss.take j).map stepD := by rw [cutS_take, List.map_take]
  have h2 : Py.cutS (ss.map stepD) (some ((j : Int) + 1)) none = (ss.drop (j + 1)).map stepD := by
    rw [show (j : Int) + 1 = ((j + 1 : Nat) : Int) by omega, cutS_drop, List.map_drop]
  have l1 : min j ss.length + 1 ≤ 16777216 := by omega
  have l2 : min j ss.length + (ss.length - (j + 1) + 1) ≤ 16777216 := by omega
  have l3 : min j ss.length + 1 + (ss.length - (j + 1)) ≤ 16777216 := by omega
  rw [u__law_with, b__law_with]
  unfold withD
  simp -implicitDefEqProofs [tcD, at2_0, at2_1, h1, h2, szle, l1, l2, l3]
/-- the beats that are wrong -/
theorem bad_segs {n b c e : Nat} {P : Pl} (hP : PlOk n P) {p : Plc} {cm : Nat} (hm : p.1 < P.modes.length) (hcm : cm < P.cmds.length) (hx : p.2.length = n) (hb : ∀ z ∈ p.2, Sz b z) (ss : List Seg) (hs : SegsOk n c e ss) (hl : ss.length ≤ 10) (h : ∀ s ∈ ss, 0 < s.1 ∧ inBoxM (boxOf P p.1 cm) s.2 = true) (ix : Option Nat) (kd : D) (hz : b + 10 * (c + e + 1) ≤ 4000)
    (hbad : sumT ss ≠ P.beat ∨ ix ∉ choicesM P.sw p.1 (endM p.2 ss) ∨ ∀ (k : Nat) (μ : Store), ix ∈ choicesM P.sw p.1 (endM p.2 ss) → Py.run fs Γ (k + 10) f_is_kick [plD P, oD ix, kd] μ = some (.bl false, μ)) :
    BadQ P p ((cm : Int), .tup [segsD ss, oD ix, kd]) := by
  refine .inr ⟨by dsimp only; omega, by dsimp only; omega, fun k μ hμ => ?_⟩
  rcases hbad with h1 | h1 | h1
  · have g := r_is_beat' (k := k) (μ := μ) hP hm hcm hμ p.2 hx hb ss hs hl h ix kd false (fun _ h2 => absurd h2 h1) hz
    rw [Bool.and_false, Bool.and_false] at g; exact g
  · have g := r_is_beat' (k := k) (μ := μ) hP hm hcm hμ p.2 hx hb ss hs hl h ix kd false (fun h2 _ => absurd h2 h1) hz
    rw [Bool.and_false, Bool.and_false] at g; exact g
  · have g := r_is_beat' (k := k) (μ := μ) hP hm hcm hμ p.2 hx hb ss hs hl h ix kd false (fun h2 _ => h1 k μ h2) hz
    rw [Bool.and_false, Bool.and_false] at g; exact g
theorem bad_first {n : Nat} {P : Pl} (hP : PlOk n P) {p : Plc} {cm : Nat} (hm : p.1 < P.modes.length) (hcm : cm < P.cmds.length) (t r : D) (ds : List D) (i kd : D)
    (h : ∀ (k : Nat) (μ : Store), Py.run fs Γ (k + 4) f_is_ratio [t] μ = some (.bl false, μ) ∨ (Py.run fs Γ (k + 4) f_is_ratio [t] μ = some (.bl true, μ) ∧ ∃ s : Int, Py.run fs Γ (k + 4) f_compare [t, .tup [.int 0, .int 1]] μ = some (.int s, μ) ∧ (s < 1 ∨ (¬ s < 1 ∧ Py.run fs Γ (k + 4) f_is_point_of [boxD (boxOf P p.1 cm), r] μ = some (.bl false, μ))))) :
    BadQ P p ((cm : Int), .tup [.tup (.tup [t, r] :: ds), i, kd]) := by
  refine .inr ⟨by dsimp only; omega, by dsimp only; omega, fun k μ hμ => ?_⟩
  exact is_beat_seg p.1 cm p.2 _ i kd (are_seg_bad (k := k + 5) (μ := μ) hP hm hcm (.tup [t, r]) t r ds rfl (h (k + 5) μ))
theorem r_spoilt {n b c e : Nat} {P : Pl} {m : Nat} {x : List Rat} {ss : List Step} (h : CrsOk n b c e P m x ss) (hμ : scalS μ = true) (hc : b + 10 * (c + e + 1) + c + 10 ≤ 4000) (he : 2 ≤ e ∧ e ≤ 10) (hc1 : 1 ≤ c ∧ c ≤ 100) (j : Nat) (hj : j < ss.length) (hg : 1 ≤ ss[j].2.segs.length) :
    ∃ L : List (Int × D), Py.run fs Γ (k + 8) f__law_spoilt [plD P, courseD x ss, .int j, .lst ((placesM P m x ss).map plcD)] μ = some (.lst (L.map fun q => withD x ss j (.tup [.int q.1, q.2])), μ) ∧ L.length ≤ 20 ∧ ∀ q ∈ L, BadQ P (lastM P m x (ss.take j)) q := by
  have hle := h.le
  have hlen := h.len
  have hn : n ≤ 2 := by rcases h.pl.hn with h | h <;> omega
  have hn1 : 1 ≤ n := by rcases h.pl.hn with h | h <;> omega
  obtain ⟨p, q1, q2, q3, q4, q5⟩ := h.at hj
  have hr := rightS_mem ss m x h.rt _ (List.getElem_mem hj)
  have hcmj : ss[j].1 < P.cmds.length := hr.2.2
  have hBR : BeatR P p.1 ss[j].1 p.2 ss[j].2 := by
    have hd := (h.drop j).rt
    rw [← q2, List.drop_eq_getElem_cons hj] at hd
    exact hd.2.1
  rw [← q2]
  have a2 : atI (ss.map stepD) (j : Int) = some (stepD ss[j]) := atI_map hj
  have hpl := placesM_length P ss m x
  have hj2 : j < (placesM P m x ss).length := by omega
  have hpj : (placesM P m x ss)[j] = p := by rw [List.getElem?_eq_getElem hj2] at q1; exact Option.some.inj q1
  have a1 : atI ((placesM P m x ss).map plcD) (j : Int) = some (plcD p) := by rw [atI_map hj2, hpj]
  have gw : ∀ (st : D) (k : Nat), Py.run fs Γ (k + 1) f__law_with [courseD x ss, .int j, st] μ = some (withD x ss j st, μ) := fun st k => r_with x ss j st (by omega)
  obtain ⟨w1, w2, w3, w4⟩ := boxOf_eq h.pl q3 hcmj
  have a3 : atI (P.rates.map rowD) (p.1 : Int) = some (rowD P.rates[p.1]) := atI_map w1
  have a4 : atI (P.rates[p.1].map boxD) (ss[j].1 : Int) = some (boxD (boxOf P p.1 ss[j].1)) := by rw [atI_map w2, w3]
  rw [← w3] at w4
  have hsd : stepD ss[j] = .tup [.int (ss[j].1 : Int), beatD ss[j].2] := rfl
  have hbd : beatD ss[j].2 = .tup [segsD ss[j].2.segs, oD ss[j].2.ix, kickD ss[j].2] := rfl
  generalize hB : ss[j].2 = B at *
  generalize ss[j].1 = cm at *
  have t4 : ∀ μ : Store, itsS μ (rowD P.rates[p.1]) = some (P.rates[p.1].map boxD) := fun _ => rfl
  obtain ⟨g0, gr, hgs⟩ : ∃ g0 gr, B.segs = g0 :: gr := by
    cases hh : B.segs with
    | nil => rw [hh] at hg; simp at hg
    | cons a l => exact ⟨a, l, rfl⟩
  obtain ⟨s0, s1, s2⟩ := q4.ok g0 (by rw [hgs]; simp)
  have hp0 := q4.pos g0 (by rw [hgs]; simp)
  have hbx0 := (hBR.segs g0 (by rw [hgs]; simp)).2
  -- the box's first quantity
  obtain ⟨p0, br, hbx⟩ : ∃ p0 br, boxOf P p.1 cm = p0 :: br := by
    have : 1 ≤ (boxOf P p.1 cm).length := by rw [w4.1]; exact hn1
    cases hh : boxOf P p.1 cm with
    | nil => rw [hh] at this; simp at this
    | cons a l => exact ⟨a, l, rfl⟩
  obtain ⟨z1, z2, z3⟩ := w4.2 p0 (by rw [hbx]; simp)
  have s3 : Sz 2 (Rat.divInt 1 3) := Sz.divInt (by decide) (by decide) (by decide)
  have d3 : 0 < Rat.divInt 1 3 := divInt_pos (by decide) (by decide)
  have f1 := r_lplus (k := k + 5) (n := 20) (μ := μ) p0.2 (Rat.divInt 1 3) z2 s3 (by decide) (by decide)
  rw [third] at f1
  obtain ⟨r0, rr, hrt⟩ : ∃ r0 rr, g0.2 = r0 :: rr := by
    cases hh : g0.2 with
    | nil => rw [hh] at s0; simp at s0; omega
    | cons a l => exact ⟨a, l, rfl⟩
  have hpt : ptD g0.2 = .tup (rD r0 :: rr.map rD) := by unfold ptD; rw [hrt]; rfl
  have hse : segsD B.segs = .tup (segD g0 :: gr.map segD) := by unfold segsD; rw [hgs]; rfl
  have hsg : segD g0 = .tup [rD g0.1, ptD g0.2] := rfl
  have hbxd : boxD (boxOf P p.1 cm) = .tup (pairD p0 :: br.map pairD) := by unfold boxD; rw [hbx]; rfl
  have hcl := choicesM_len P.sw p.1 (endM p.2 B.segs)
  have hsw := h.pl.sl
  obtain ⟨v1, v2⟩ := endM_ok q4.ok q4.hx q4.sx
  have hlB := q5.len
  have h5 : B.segs.length * (c + e + 1) ≤ 5 * (c + e + 1) := Nat.mul_le_mul_right _ hlB
  have f2 := r_lpassed (k := k + 3) (μ := μ) (by omega) hμ p.2 B.segs q4.ok q4.hx q4.sx (by omega) (by omega)
  have hat : atI ((passedM p.2 B.segs).map ptD) (-1) = some (ptD (endM p.2 B.segs)) := atI_last (passedM_last _ _)
  have f3 := r_lchoices (k := k + 1) (μ := μ) h.pl p.1 (endM p.2 B.segs) v1 v2 (by omega)
  have f4 := inS_oD none (choicesM P.sw p.1 (endM p.2 B.segs)) (by omega)
  have ht1 : ∀ (d : D) (l : List D), Py.cutS (d :: l) (some 1) none = l := fun d l => by have := cutS_drop (d :: l) 1; simpa using this
  have hm1 := mulOk_of (i := 2) (j := g0.1.num) (a := 2) (b := e) (by decide) s1.1 (by omega)
  have hm2 := mulOk_of (i := 2) (j := (g0.1.den : Int)) (a := 2) (b := e) (by decide) s1.den (by omega)
  have t1 : ∀ (v : Rat) (μ : Store), itsS μ (rD v) = some [.int v.num, .int v.den] := fun _ _ => rfl
  have c1 : ∀ y0 y1 y2 y3 y4 y5 y6 y7 y8 y9 y11 y12 y13 y14 : Option SV, ev (Py.run fs Γ (k + 7)) Γ c1__law_spoilt [y0, y1, y2, y3, y4, y5, y6, y7, y8, y9, some (.val (ptD g0.2)), y11, y12, y13, y14] μ = some (.lst (g0.2.map fun _ => .tup [.int 0, .int 1]), μ) := by
    intro y0 y1 y2 y3 y4 y5 y6 y7 y8 y9 y11 y12 y13 y14
    rw [c1__law_spoilt]
    refine ev_lc_map (g := rD) g0.2 (by simp [ptD]) (by omega) fun v _ => ?_
    exact ⟨[y0, y1, y2, y3, y4, y5, y6, y7, y8, y9, some (.val (ptD g0.2)), y11, y12, some (.val (rD v)), y14], by simp, by simp, by simp -implicitDefEqProofs [szle]⟩
  have c2 : ∀ (L : List (Int × D)), L.length ≤ 20 → ∀ y0 y3 y4 y5 y6 y7 y8 y9 y10 y11 y13 y14 : Option SV, ev (Py.run fs Γ (k + 7)) Γ c2__law_spoilt [y0, some (.val (courseD x ss)), some (.val (.int j)), y3, y4, y5, y6, y7, y8, y9, y10, y11, some (.val (.lst (L.map fun q => .tup [.int q.1, q.2]))), y13, y14] μ = some (.lst (L.map fun q => withD x ss j (.tup [.int q.1, q.2])), μ) := by
    intro L hL y0 y3 y4 y5 y6 y7 y8 y9 y10 y11 y13 y14
    rw [c2__law_spoilt]
    refine ev_lc_map (g := fun q : Int × D => .tup [.int q.1, q.2]) L (by simp) (by omega) fun q _ => ?_
    exact ⟨[y0, some (.val (courseD x ss)), some (.val (.int j)), y3, y4, y5, y6, y7, y8, y9, y10, y11, some (.val (.lst (L.map fun q => .tup [.int q.1, q.2]))), y13, some (.val (.tup [.int q.1, q.2]))], by simp, by simp, by simp -implicitDefEqProofs [gw]⟩
  have hat0 : atI (B.segs.map segD) 0 = some (segD g0) := by rw [hgs]; exact atI_0
  have hcu1 : Py.cutS (B.segs.map segD) (some 1) none = gr.map segD := by rw [hgs]; exact ht1 _ _
  have hcu2 : Py.cutS (B.segs.map segD) none (some (-1)) = (B.segs.map segD).dropLast := cutS_last _
  have hcr : Py.cutS (g0.2.map rD) (some 1) none = rr.map rD := by rw [hrt]; exact ht1 _ _
  have hatb : atI (pairD p0 :: br.map pairD) 0 = some (pairD p0) := atI_0
  have hsl : segsD B.segs = .tup (B.segs.map segD) := rfl
  have hrl : ptD g0.2 = .tup (g0.2.map rD) := rfl
  have hgl : B.segs.length = gr.length + 1 := by rw [hgs]; rfl
  have hrl2 : g0.2.length = rr.length + 1 := by rw [hrt]; rfl
  have hlen1 : (gr.map segD).length ≤ 10 := by rw [List.length_map]; omega
  have hlen2 : (B.segs.map segD).length ≤ 10 := by rw [List.length_map]; omega
  have hlen3 : (g0.2.map rD).length ≤ 10 := by rw [List.length_map]; omega
  have hlen4 : (rr.map rD).length ≤ 10 := by rw [List.length_map]; omega
  have hzs : (g0.2.map fun _ => D.tup [.int 0, .int 1]) = g0.2.map fun _ => zz := rfl
  -- the wrong ones are refused
  have bad8 : ∀ q ∈ spL P cm B (B.segs.map segD) (gr.map segD) ((B.segs.map segD).dropLast) (g0.2.map rD) (rr.map rD) g0.1 (p0.2 + Rat.divInt 1 3), BadQ P p q := by
    have cmp0 : ∀ (k : Nat) (μ : Store), Py.run fs Γ (k + 4) f_compare [rD g0.1, .tup [.int 0, .int 1]] μ = some (.int 1, μ) := fun k μ => by
      have g := r_compare (k := k + 3) (μ := μ) g0.1 0 s1 (sz_zero (b := 1) (by decide)) (by omega)
      have cn : ¬ g0.1 < 0 := by grind
      unfold sgn at g
      rw [if_neg cn, if_pos hp0, rD_zero] at g
      exact g
    have bxs : ∀ q ∈ boxOf P p.1 cm, Sz 7 q.1 ∧ Sz 7 q.2 := fun q hq => ⟨(w4.2 q hq).1, (w4.2 q hq).2.1⟩
    have bxl : (boxOf P p.1 cm).length ≤ 1000 := by rw [w4.1]; omega
    intro q hq
    unfold spL at hq
    simp only [List.mem_cons, List.not_mem_nil, or_false] at hq
    rcases hq with rfl | rfl | rfl | rfl | rfl | rfl | rfl | rfl
    · exact .inl (.inr (Int.le_refl _))
    · exact .inl (.inl (show (-1 : Int) < 0 by decide))
    · rw [← List.map_dropLast]
      refine bad_segs h.pl q3 hcmj q4.hx q4.sx B.segs.dropLast (fun s hs => q4.ok s (List.dropLast_subset _ hs)) (by simp; omega) (fun s hs => hBR.segs s (List.dropLast_subset _ hs)) B.ix (kickD B) (by omega) (.inl fun hsum => ?_)
      have hne : B.segs ≠ [] := by rw [hgs]; simp
      have hd := List.dropLast_concat_getLast hne
      have h1 := sumT_app B.segs.dropLast (B.segs.getLast hne)
      rw [hd, hBR.sum, hsum] at h1
      have := q4.pos _ (List.getLast_mem hne)
      grind
    · have := bad_segs h.pl q3 hcmj q4.hx q4.sx (B.segs ++ [(P.beat, g0.2)]) (fun s hs => by
        rcases List.mem_append.mp hs with hs | hs
        · exact q4.ok s hs
        · rw [List.mem_singleton] at hs; rw [hs]; exact ⟨s0, h.pl.bz.mono he.1, s2⟩) (by simp; omega) (fun s hs => by
        rcases List.mem_append.mp hs with hs | hs
        · exact hBR.segs s hs
        · rw [List.mem_singleton] at hs; rw [hs]; exact ⟨h.pl.b0, hbx0⟩) B.ix (kickD B) (by omega) (.inl fun hsum => by
        rw [sumT_app, hBR.sum] at hsum
        have := h.pl.b0
        dsimp only at hsum
        grind)
      unfold segsD at this
      rw [List.map_append] at this
      exact this
    · refine bad_first h.pl q3 hcmj (rD g0.1) _ _ _ _ fun k μ => .inr ⟨r_is_ratio (k := k + 2) g0.1, 1, cmp0 k μ, .inr ⟨by decide, ?_⟩⟩
      have g := r_is_point_of (a := 100) (k := k + 1) (μ := μ) (boxOf P p.1 cm) ((p0.2 + Rat.divInt 1 3) :: rr) bxs (fun y hy => by
        rcases List.mem_cons.mp hy with rfl | hy
        · exact (z2.add s3).mono (by decide)
        · exact (s2 y (by rw [hrt]; simp [hy])).mono hc1.2) (by decide) bxl
      rw [box_over (by rw [hbx]; simp) (by rw [hbx, List.getD_cons_zero]; grind)] at g
      exact g
    · exact bad_first h.pl q3 hcmj _ _ _ _ _ fun k μ => .inl (r_is_ratio_dbl (k := k + 2) g0.1)
    · refine bad_first h.pl q3 hcmj zz _ _ _ _ fun k μ => .inr ⟨?_, 0, ?_, .inl (by decide)⟩
      · have := r_is_ratio (k := k + 2) (μ := μ) 0
        rw [rD_zero] at this; exact this
      · have := r_compare (k := k + 3) (μ := μ) 0 0 (sz_zero (b := 1) (by decide)) (sz_zero (b := 1) (by decide)) (by decide)
        rw [rD_zero] at this; exact this
    · refine bad_first h.pl q3 hcmj (rD g0.1) _ _ _ _ fun k μ => .inr ⟨r_is_ratio (k := k + 2) g0.1, 1, cmp0 k μ, .inr ⟨by decide, ?_⟩⟩
      have g := r_is_point_of (a := c) (k := k + 1) (μ := μ) (boxOf P p.1 cm) (g0.2 ++ [0]) bxs (fun y hy => by
        rcases List.mem_append.mp hy with hy | hy
        · exact s2 y hy
        · rw [List.mem_singleton] at hy; rw [hy]; exact sz_zero (by omega)) (by omega) bxl
      have hf : inBoxM (boxOf P p.1 cm) (g0.2 ++ [0]) = false := by
        unfold inBoxM
        have : ¬ (g0.2 ++ [(0 : Rat)]).length = (boxOf P p.1 cm).length := by rw [w4.1, List.length_append, s0]; simp
        rw [decide_eq_false this, Bool.false_and]
      rw [hf] at g
      unfold ptD at g
      rw [List.map_append] at g
      exact g
  have bad9 : BadQ P p ((cm : Int), .tup [.tup (B.segs.map segD), .int (P.sw.length : Int), .tup (g0.2.map fun _ => zz)]) := by
    have := bad_segs h.pl q3 hcmj q4.hx q4.sx B.segs q4.ok (by omega) hBR.segs (some P.sw.length) (.tup (g0.2.map fun _ => zz)) (by omega) (.inr (.inl fun hm => by
      obtain ⟨hi, _⟩ := choicesM_lt hm; omega))
    exact this
  have badn : none ∉ choicesM P.sw p.1 (endM p.2 B.segs) → BadQ P p ((cm : Int), .tup [.tup (B.segs.map segD), .non, .non]) := fun hno => by
    have := bad_segs h.pl q3 hcmj q4.hx q4.sx B.segs q4.ok (by omega) hBR.segs none .non (by omega) (.inr (.inl hno))
    exact this
  have badkn : BadQ P p ((cm : Int), .tup [.tup (B.segs.map segD), .non, .tup (g0.2.map rD)]) := by
    have := bad_segs h.pl q3 hcmj q4.hx q4.sx B.segs q4.ok (by omega) hBR.segs none (ptD g0.2) (by omega) (.inr (.inr fun k μ _ => r_is_kick_n (k := k + 9) P g0.2))
    exact this
  have badki : ∀ i, B.ix = some i → BadQ P p ((cm : Int), .tup [.tup (B.segs.map segD), .int (i : Int), .non]) := fun i hi => by
    have := bad_segs h.pl q3 hcmj q4.hx q4.sx B.segs q4.ok (by omega) hBR.segs (some i) .non (by omega) (.inr (.inr fun k μ _ => r_is_kick_i (k := k + 9) P i))
    exact this
  have hkk : ∀ i, B.ix = some i → ∃ (hi : i < P.sw.length) (kp : Rat × Rat) (kb kr : List D) (kh : Rat), boxD P.sw[i].kicks = .tup (pairD kp :: kb) ∧ kickD B = .tup kr ∧ Py.run fs Γ (k + 7) f__law_plus [rD kp.2, .tup [.int 1, .int 1]] μ = some (rD kh, μ) ∧ (Py.cutS kr (some 1) none).length ≤ 10 ∧ BadQ P p ((cm : Int), .tup [.tup (B.segs.map segD), .int (i : Int), .tup (rD kh :: Py.cutS kr (some 1) none)]) := fun i hi => by
    obtain ⟨x1, x2, x3⟩ := q5.ix i hi
    obtain ⟨k1, k2⟩ := kicksOf_eq h.pl x1
    obtain ⟨kp, kb, hkb⟩ : ∃ kp kb, P.sw[i].kicks = kp :: kb := by
      have : 1 ≤ P.sw[i].kicks.length := by rw [k2.1]; exact hn1
      cases hh : P.sw[i].kicks with
      | nil => rw [hh] at this; simp at this
      | cons a l => exact ⟨a, l, rfl⟩
    obtain ⟨y0, yr, hy⟩ : ∃ y0 yr, B.kick = y0 :: yr := by
      cases hh : B.kick with
      | nil => rw [hh] at x2; simp at x2; omega
      | cons a l => exact ⟨a, l, rfl⟩
    obtain ⟨u1, u2, u3⟩ := k2.2 kp (by rw [hkb]; simp)
    have f5 := r_lplus (k := k + 5) (n := 20) (μ := μ) kp.2 1 u2 (sz_one (b := 1) (by decide)) (by decide) (by decide)
    rw [rD_one] at f5
    have hyl : B.kick.length = yr.length + 1 := by rw [hy]; rfl
    have hkd : kickD B = .tup (rD y0 :: yr.map rD) := by unfold kickD; rw [hi]; unfold ptD; rw [hy]; rfl
    refine ⟨x1, kp, kb.map pairD, rD y0 :: yr.map rD, kp.2 + 1, by unfold boxD; rw [hkb]; rfl, hkd, f5, by rw [ht1, List.length_map]; omega, ?_⟩
    rw [ht1]
    have := bad_segs h.pl q3 hcmj q4.hx q4.sx B.segs q4.ok (by omega) hBR.segs (some i) (ptD ((kp.2 + 1) :: yr)) (by omega) (.inr (.inr fun k μ _ => by
      have g := r_is_kick (k := k + 6) (μ := μ) (c := 100) h.pl i x1 ((kp.2 + 1) :: yr) (fun z hz => by
        rcases List.mem_cons.mp hz with rfl | hz
        · exact (u2.add (sz_one (b := 1) (by decide))).mono (by decide)
        · exact (x3 z (by rw [hy]; simp [hz])).mono hc1.2) (by decide)
      rw [k1, box_over (by rw [hkb]; simp) (by rw [hkb, List.getD_cons_zero]; grind)] at g
      exact g))
    exact this
  have hhi : ∀ μ : Store, itsS μ (pairD p0) = some [rD p0.1, rD p0.2] := fun _ => rfl
  have hc1' : ∀ y0 y1 y2 y3 y4 y5 y6 y7 y8 y9 y11 y12 y13 y14 : Option SV, ev (Py.run fs Γ (k + 7)) Γ c1__law_spoilt [y0, y1, y2, y3, y4, y5, y6, y7, y8, y9, some (.val (.tup (g0.2.map rD))), y11, y12, y13, y14] μ = some (.lst (g0.2.map fun _ => zz), μ) := c1
  have hspd : ∀ μ : Store, itsS μ (rD g0.1) = some [.int g0.1.num, .int g0.1.den] := fun _ => rfl
  have hzl : (g0.2.map fun _ => zz).length ≤ 10 := by rw [List.length_map]; omega
  rw [hsl] at hbd f2
  rw [hrl] at hsg
  rw [hbxd] at a4
  clear hse hpt hbxd hsl hrl c1
  generalize p0.2 + Rat.divInt 1 3 = hi at *
  generalize hzsl : (g0.2.map fun _ => zz) = zsl at *
  generalize hsll : B.segs.map segD = sl at *
  generalize gr.map segD = sl1 at *
  generalize sl.dropLast = sl2 at *
  generalize g0.2.map rD = rl at *
  generalize rr.map rD = rl1 at *
  have e1 : sl.length + 1 ≤ 16777216 := by omega
  have e2 : 1 + sl1.length ≤ 16777216 := by omega
  have e3 : 1 + rl1.length ≤ 16777216 := by omega
  have e4 : rl.length + 1 ≤ 16777216 := by omega
  have e5 : 1 + sl.length ≤ 16777216 := by omega
  have hzz : D.tup [.int 0, .int 1] = zz := rfl
  have f4' : inS .non (.lst ((choicesM P.sw p.1 (endM p.2 B.segs)).map oD)) = some (decide (none ∈ choicesM P.sw p.1 (endM p.2 B.segs))) := f4
  rw [u__law_spoilt, b__law_spoilt]
  cases hix : B.ix with
  | none =>
    have hk : kickD B = .non := by unfold kickD; rw [hix]
    rw [hix, hk] at hbd
    by_cases hno : none ∈ choicesM P.sw p.1 (endM p.2 B.segs)
    · refine ⟨spL P cm B sl sl1 sl2 rl rl1 g0.1 hi ++ [((cm : Int), .tup [.tup sl, .int (P.sw.length : Int), .tup zsl]), ((cm : Int), .tup [.tup sl, .non, .tup rl])], ?_, by simp [spL], fun q hq => ?_⟩
      · have c2' := c2 (spL P cm B sl sl1 sl2 rl rl1 g0.1 hi ++ [((cm : Int), .tup [.tup sl, .int (P.sw.length : Int), .tup zsl]), ((cm : Int), .tup [.tup sl, .non, .tup rl])]) (by simp [spL])
        unfold spL at c2' ⊢
        rw [hix, hk, hbd] at c2' ⊢
        simp only [List.map_cons, List.map_nil, List.cons_append, List.nil_append, oD] at c2' ⊢
        simp -implicitDefEqProofs [tcD, at2_1, a2, hsd, hbd, hat0, hsg, pl2, at9_5, at9_3, at9_4, at9_6, a1, tpD, at2_0, a3, t4, a4, hatb, hhi, f1, hcr, hcu1, hcu2, hspd, hm1, hm2, hc1', f2, hat, f3, f4', hno, szle, szlt, e1, e2, e3, e4, e5, hzz, oD, c2', n2]
      · rcases List.mem_append.mp hq with hq | hq
        · exact bad8 q hq
        · simp only [List.mem_cons, List.not_mem_nil, or_false] at hq
          rcases hq with rfl | rfl
          · exact bad9
          · exact badkn
    · refine ⟨spL P cm B sl sl1 sl2 rl rl1 g0.1 hi ++ [((cm : Int), .tup [.tup sl, .int (P.sw.length : Int), .tup zsl]), ((cm : Int), .tup [.tup sl, .non, .tup rl]), ((cm : Int), .tup [.tup sl, .non, .non])], ?_, by simp [spL], fun q hq => ?_⟩
      · have c2' := c2 (spL P cm B sl sl1 sl2 rl rl1 g0.1 hi ++ [((cm : Int), .tup [.tup sl, .int (P.sw.length : Int), .tup zsl]), ((cm : Int), .tup [.tup sl, .non, .tup rl]), ((cm : Int), .tup [.tup sl, .non, .non])]) (by simp [spL])
        unfold spL at c2' ⊢
        rw [hix, hk, hbd] at c2' ⊢
        simp only [List.map_cons, List.map_nil, List.cons_append, List.nil_append, oD] at c2' ⊢
        simp -implicitDefEqProofs [tcD, at2_1, a2, hsd, hbd, hat0, hsg, pl2, at9_5, at9_3, at9_4, at9_6, a1, tpD, at2_0, a3, t4, a4, hatb, hhi, f1, hcr, hcu1, hcu2, hspd, hm1, hm2, hc1', f2, hat, f3, f4', hno, szle, szlt, e1, e2, e3, e4, e5, hzz, oD, c2', n2]
      · rcases List.mem_append.mp hq with hq | hq
        · exact bad8 q hq
        · simp only [List.mem_cons, List.not_mem_nil, or_false] at hq
          rcases hq with rfl | rfl | rfl
          · exact bad9
          · exact badkn
          · exact badn hno
  | some i =>
    obtain ⟨hi1, kp, kb, kr, kh, hkb, hk, f5, hkl, badk⟩ := hkk i hix
    have badi := badki i hix
    rw [hix, hk] at hbd
    have a5 : atI (P.sw.map swD) (i : Int) = some (swD P.sw[i]) := atI_map hi1
    have hsi : ∀ μ : Store, itsS μ (swD P.sw[i]) = some [.int P.sw[i].st, P.sw[i].nm, .int P.sw[i].goal, bsD P.sw[i].guard, kindD P.sw[i].must, .tup (pairD kp :: kb)] := fun _ => by rw [← hkb]; rfl
    have hatk : atI (pairD kp :: kb) 0 = some (pairD kp) := atI_0
    have hki : ∀ μ : Store, itsS μ (pairD kp) = some [rD kp.1, rD kp.2] := fun _ => rfl
    generalize hkr1 : Py.cutS kr (some 1) none = kr1 at *
    have e6 : 1 + kr1.length ≤ 16777216 := by omega
    by_cases hno : none ∈ choicesM P.sw p.1 (endM p.2 B.segs)
    · refine ⟨spL P cm B sl sl1 sl2 rl rl1 g0.1 hi ++ [((cm : Int), .tup [.tup sl, .int (P.sw.length : Int), .tup zsl]), ((cm : Int), .tup [.tup sl, .int (i : Int), .non]), ((cm : Int), .tup [.tup sl, .int (i : Int), .tup (rD kh :: kr1)])], ?_, by simp [spL], fun q hq => ?_⟩
      · have c2' := c2 (spL P cm B sl sl1 sl2 rl rl1 g0.1 hi ++ [((cm : Int), .tup [.tup sl, .int (P.sw.length : Int), .tup zsl]), ((cm : Int), .tup [.tup sl, .int (i : Int), .non]), ((cm : Int), .tup [.tup sl, .int (i : Int), .tup (rD kh :: kr1)])]) (by simp [spL])
        unfold spL at c2' ⊢
        rw [hix, hk, hbd] at c2' ⊢
        simp only [List.map_cons, List.map_nil, List.cons_append, List.nil_append, oD] at c2' ⊢
        simp -implicitDefEqProofs [tcD, at2_1, a2, hsd, hbd, hat0, hsg, pl2, at9_5, at9_3, at9_4, at9_6, a1, tpD, at2_0, a3, t4, a4, hatb, hhi, f1, hcr, hcu1, hcu2, hspd, hm1, hm2, hc1', f2, hat, f3, f4', hno, szle, szlt, e1, e2, e3, e4, e5, hzz, oD, c2', n1, a5, hsi, at6_5, hatk, hki, f5, hkr1, e6]
      · rcases List.mem_append.mp hq with hq | hq
        · exact bad8 q hq
        · simp only [List.mem_cons, List.not_mem_nil, or_false] at hq
          rcases hq with rfl | rfl | rfl
          · exact bad9
          · exact badi
          · exact badk
    · refine ⟨spL P cm B sl sl1 sl2 rl rl1 g0.1 hi ++ [((cm : Int), .tup [.tup sl, .int (P.sw.length : Int), .tup zsl]), ((cm : Int), .tup [.tup sl, .int (i : Int), .non]), ((cm : Int), .tup [.tup sl, .int (i : Int), .tup (rD kh :: kr1)]), ((cm : Int), .tup [.tup sl, .non, .non])], ?_, by simp [spL], fun q hq => ?_⟩
      · have c2' := c2 (spL P cm B sl sl1 sl2 rl rl1 g0.1 hi ++ [((cm : Int), .tup [.tup sl, .int (P.sw.length : Int), .tup zsl]), ((cm : Int), .tup [.tup sl, .int (i : Int), .non]), ((cm : Int), .tup [.tup sl, .int (i : Int), .tup (rD kh :: kr1)]), ((cm : Int), .tup [.tup sl, .non, .non])]) (by simp [spL])
        unfold spL at c2' ⊢
        rw [hix, hk, hbd] at c2' ⊢
        simp only [List.map_cons, List.map_nil, List.cons_append, List.nil_append, oD] at c2' ⊢
        simp -implicitDefEqProofs [tcD, at2_1, a2, hsd, hbd, hat0, hsg, pl2, at9_5, at9_3, at9_4, at9_6, a1, tpD, at2_0, a3, t4, a4, hatb, hhi, f1, hcr, hcu1, hcu2, hspd, hm1, hm2, hc1', f2, hat, f3, f4', hno, szle, szlt, e1, e2, e3, e4, e5, hzz, oD, c2', n1, a5, hsi, at6_5, hatk, hki, f5, hkr1, e6]
      · rcases List.mem_append.mp hq with hq | hq
        · exact bad8 q hq
        · simp only [List.mem_cons, List.not_mem_nil, or_false] at hq
          rcases hq with rfl | rfl | rfl | rfl
          · exact bad9
          · exact badi
          · exact badk
          · exact badn hno
end
end P19
end
section
set_option Elab.async false
set_option linter.all false
set_option maxRecDepth 100000
set_option maxHeartbeats 0
namespace P19
open PySem L2 Py Geo FM
def dueD (P : Pl) (wi : List (List Bd)) (m : Nat) (x : List Rat) (ss : List Step) : D := match firstBad P wi m x ss with
  | none => .non
  | some j => .tup [.int (j : Int), rD (timeAt P wi m x ss j)]
section
variable {k : Nat} (ns : List Int) (t : Int) (h : DealOk ns t)
include h
theorem l1_loop {n : Nat} {P : Pl} {m : Nat} {x : List Rat} {ss : List Step} (hC : CrsOk n 400 9 6 P m x ss) (x0 x2 x4 x8 x9 x10 x11 x12 x15 : Option SV) (a : Nat) (ha : a < 60000) :
    ∃ a' y13 y14, forS (T.nm 13) (fun env' μ' => exs (Py.run fs Γ (k + 14)) Γ l1_law env' μ') (rangeD 0 ss.length) [x0, some (.val (dealD ns t)), x2, some (.val (plD P)), x4, some (.val (.int m)), some (.val (courseD x ss)), some (.val (.lst ((placesM P m x ss).map plcD))), x8, x9, x10, x11, x12, none, none, x15] (Sa a) =
      some (.nx [x0, some (.val (dealD ns t)), x2, some (.val (plD P)), x4, some (.val (.int m)), some (.val (courseD x ss)), some (.val (.lst ((placesM P m x ss).map plcD))), x8, x9, x10, x11, x12, y13, y14, x15] (Sa a')) ∧ a' ≤ a + ss.length := by
  have hlen := hC.len
  have hn : n ≤ 2 := by rcases hC.pl.hn with h | h <;> omega
  obtain ⟨env', μ', e, a', y13, y14, rfl, rfl, c1⟩ := forS_inv (t := T.nm 13) (b := fun env' μ' => exs (Py.run fs Γ (k + 14)) Γ l1_law env' μ') (ds := rangeD 0 ss.length) (env := [x0, some (.val (dealD ns t)), x2, some (.val (plD P)), x4, some (.val (.int m)), some (.val (courseD x ss)), some (.val (.lst ((placesM P m x ss).map plcD))), x8, x9, x10, x11, x12, none, none, x15]) (μ := Sa a)
    (fun i env m' => ∃ a' y13 y14, env = [x0, some (.val (dealD ns t)), x2, some (.val (plD P)), x4, some (.val (.int m)), some (.val (courseD x ss)), some (.val (.lst ((placesM P m x ss).map plcD))), x8, x9, x10, x11, x12, y13, y14, x15] ∧ m' = Sa a' ∧ a' ≤ a + i)
    ⟨a, none, none, rfl, rfl, Nat.le_refl _⟩ (by
      rintro i env m' d hd ⟨a', y13, y14, rfl, rfl, c1⟩
      obtain ⟨rfl, hi⟩ := rangeD_get hd
      rw [Int.zero_add]
      obtain ⟨p, q1, q2, q3, q4, q5⟩ := hC.at hi
      have hpl := placesM_length P ss m x
      have hj2 : i < (placesM P m x ss).length := by omega
      have hpj : (placesM P m x ss)[i] = p := by rw [List.getElem?_eq_getElem hj2] at q1; exact Option.some.inj q1
      have a1 : atI ((placesM P m x ss).map plcD) (i : Int) = some (plcD p) := by rw [atI_map hj2, hpj]
      have a2 : atI (ss.map stepD) (i : Int) = some (stepD ss[i]) := atI_map hi
      have h5 : ss[i].2.segs.length * (9 + 6 + 1) ≤ 5 * 16 := Nat.mul_le_mul_right _ q5.len
      have hl5 := q5.len
      have g1 := r_lpassed (k := k + 10) (μ := Sa a') (by omega) rfl p.2 ss[i].2.segs q4.ok q4.hx q4.sx (by omega) (by omega)
      have g2 := r_passed (k := k + 9) (μ := Sa a') (by omega) rfl p.2 ss[i].2.segs q4.ok q4.hx q4.sx (by omega) (by omega)
      have hpo := passedM_ok ss[i].2.segs p.2 400 q4.ok q4.hx q4.sx
      have hpl2 := passedM_length ss[i].2.segs p.2
      have g3 := r_same (μ := Sa a') 3 (k + 10) (.lst ((passedM p.2 ss[i].2.segs).map ptD)) (plain_lst (by omega) fun y hy => plain_ptD (n := 0) (by rw [(hpo y hy).1]; omega))
      obtain ⟨r, b1, b2, e1⟩ := r_take (k := k + 13) (a := a') ns t 9 h (by decide) (by omega)
      have f1 := r_lratio (k := k + 13) (n := 4) (μ := Sa (a' + 1)) r 8 (by decide) (by omega) (by decide) (by decide)
      have s1 : Sz 4 (Rat.divInt r 8) := Sz.divInt (by omega) (by decide) (by decide)
      have f2 := r_lmult (k := k + 12) (n := 6) (μ := Sa (a' + 1)) P.beat (Rat.divInt r 8) hC.pl.bz s1 (by decide) (by decide)
      have g4 := r_lat (k := k + 5) (μ := Sa (a' + 1)) hC rfl i hi (P.beat * Rat.divInt r 8) ((hC.pl.bz.mul s1).mono (by decide)) (by decide)
      refine ⟨[x0, some (.val (dealD ns t)), x2, some (.val (plD P)), x4, some (.val (.int m)), some (.val (courseD x ss)), some (.val (.lst ((placesM P m x ss).map plcD))), x8, x9, x10, x11, x12, some (.val (.int (i : Int))), y14, x15], [x0, some (.val (dealD ns t)), x2, some (.val (plD P)), x4, some (.val (.int m)), some (.val (courseD x ss)), some (.val (.lst ((placesM P m x ss).map plcD))), x8, x9, x10, x11, x12, some (.val (.int (i : Int))), some (.val (.lst ((passedM p.2 ss[i].2.segs).map ptD))), x15], Sa (a' + 1), by simp, .inl ?_, a' + 1, _, _, rfl, rfl, by omega⟩
      simp -implicitDefEqProofs [l1_law, a1, tpD, at2_1, tcD, a2, tsD, tbD, at3_0, g1, g2, g3, pl2, at9_4, e1, f1, f2, g4])
  rw [rangeD_len] at c1
  exact ⟨a', y13, y14, e, c1⟩
omit h in
theorem l2_loop {n : Nat} {P : Pl} {m : Nat} {x : List Rat} {ss : List Step} (hC : CrsOk n 400 9 6 P m x ss) {μ : Store} (hμ : scalS μ = true) (j : Nat) (L : List (Int × D)) (hL : ∀ q ∈ L, BadQ P (lastM P m x (ss.take j)) q) (x0 x1 x2 x4 x6 x7 x8 x9 x10 x11 x12 x13 x14 : Option SV) :
    ∃ y15, forS (T.nm 15) (fun env' μ' => exs (Py.run fs Γ (k + 12)) Γ l2_law env' μ') (L.map fun q => withD x ss j (.tup [.int q.1, q.2])) [x0, x1, x2, some (.val (plD P)), x4, some (.val (.int m)), x6, x7, x8, x9, x10, x11, x12, x13, x14, none] μ =
      some (.nx [x0, x1, x2, some (.val (plD P)), x4, some (.val (.int m)), x6, x7, x8, x9, x10, x11, x12, x13, x14, y15] μ) := by
  have ht := hC.take j
  rcases forS_find (t := T.nm 15) (b := fun env' μ' => exs (Py.run fs Γ (k + 12)) Γ l2_law env' μ') (μ := μ) (fun q : Int × D => withD x ss j (.tup [.int q.1, q.2])) (fun _ => D.non) (fun _ => false)
    (fun env => ∃ y15, env = [x0, x1, x2, some (.val (plD P)), x4, some (.val (.int m)), x6, x7, x8, x9, x10, x11, x12, x13, x14, y15]) L [x0, x1, x2, some (.val (plD P)), x4, some (.val (.int m)), x6, x7, x8, x9, x10, x11, x12, x13, x14, none] ⟨none, rfl⟩ (by
      rintro q hq env ⟨y15, rfl⟩
      have hb := hL q hq
      have g : Py.run fs Γ (k + 12) f_shows_course [plD P, .int m, withD x ss j (.tup [.int q.1, q.2])] μ = some (.bl false, μ) := r_shows_bad (k := k) (μ := μ) (b := 400) (c := 9) (e := 6) hC.pl hμ (by decide) m hC.hm x hC.hx (ss.take j) ht.ok ht.sz ht.rt q.1 q.2 ((ss.drop (j + 1)).map stepD) (hb.imp (fun h => h) fun h => ⟨h.1, h.2.1, h.2.2 k μ hμ⟩)
      refine ⟨[x0, x1, x2, some (.val (plD P)), x4, some (.val (.int m)), x6, x7, x8, x9, x10, x11, x12, x13, x14, some (.val (withD x ss j (.tup [.int q.1, q.2])))], by simp, fun h => (by cases h), fun _ => ⟨[x0, x1, x2, some (.val (plD P)), x4, some (.val (.int m)), x6, x7, x8, x9, x10, x11, x12, x13, x14, some (.val (withD x ss j (.tup [.int q.1, q.2])))], .inl ?_, _, rfl⟩⟩
      simp -implicitDefEqProofs [l2_law, g]) with ⟨q, hq, hf, e⟩ | ⟨hf, env', e, y15, rfl⟩
  · have := List.find?_some hf
    cases this
  · exact ⟨y15, e⟩
end
theorem law_core (k : Nat) (ms0 : List Int) (hm0 : ms0.length ≤ 63) : ∃ μ', Py.run fs Γ (k + 15) f_law [.scr (ms0.map D.int)] [] = some (.bl true, μ') := by
  obtain ⟨ns, t, h, eD⟩ := r_deal (k := k + 13) ms0 hm0
  rw [show [[D.int 0]] = Sa 0 from rfl] at eD
  obtain ⟨r1, b1, b2, e1⟩ := r_take (k := k + 13) (a := 0) ns t 2 h (by decide) (by decide)
  obtain ⟨n, hnn, hn⟩ : ∃ n : Nat, 1 + r1 = (n : Int) ∧ (n = 1 ∨ n = 2) := ⟨(1 + r1).toNat, by omega, by omega⟩
  have hn2 : n ≤ 2 := by omega
  obtain ⟨P0, a1, e2, b3, b4, hP0, hT0⟩ := r_lplant (k := k + 10) ns t h n hn (0 + 1) (by decide)
  obtain ⟨P, a2, e3, b5, b6, hP, hT⟩ := r_edged (k := k + 11) ns t h hP0 hT0 a1 (by omega)
  obtain ⟨wi, a3, e4, b7, b8, hW⟩ := r_stays (k := k + 11) ns t h hP a2 (by omega)
  have hM1 := hP.m1
  obtain ⟨m, hm, e5⟩ := r_takeN (k := k + 13) ns t h P.modes.length (by omega) a3 (by omega)
  obtain ⟨x, a4, e6, b9, b10, hx, hxs⟩ := r_point (k := k + 11) ns t h n hn2 (a3 + 1) (by omega)
  obtain ⟨many, hmany, e7⟩ := r_takeN (k := k + 13) ns t h 5 (by decide) a4 (by omega)
  rw [show ((5 : Nat) : Int) = 5 from rfl] at e7
  obtain ⟨ss, a5, e8, b11, b12, hC, hsl, hsg⟩ := r_lcourse (k := k + 5) ns t h hP hT hm x hx hxs many (by omega) (a4 + 1) (by omega)
  have hlen := hC.len
  have hwd : D.tup [.tup (wi.map bsD), .non] = wiD wi := rfl
  -- courses
  have f1 := r_lplaces (k := k + 8) (μ := Sa a5) hP rfl (b := 400) (c := 9) (e := 6) (by decide) m hm x hx ss hC.ok hC.sz (by omega)
  have f2 := r_shows_course (k := k + 2) (μ := Sa a5) hP rfl (b := 400) (c := 9) (e := 6) (by decide) m hm x hx ss hC.ok hC.sz hC.rt
  have f3 := r_replayed (k := k + 7) (μ := Sa a5) hP rfl (b := 400) (c := 9) (e := 6) (by decide) m hm x hx ss hC.ok hC.sz (by omega)
  have hpo := placesM_ok hP ss m x hm hC.ok hx hC.sz
  have hpl := placesM_length P ss m x
  have hplp : pln 4 (.lst ((placesM P m x ss).map plcD)) = true := plain_lst (by omega) fun p hp => pln_plcD (N := 0) (by rw [(hpo p hp).2.1]; omega)
  have f4 := r_same (μ := Sa a5) 4 (k + 9) (.lst ((placesM P m x ss).map plcD)) hplp
  have f5 : Py.run fs Γ (k + 14) f__law_left [plD P, wiD wi, .int m, courseD x ss] (Sa a5) = some (dueD P wi m x ss, Sa a5) := r_lleft (k := k + 6) (μ := Sa a5) hC hW rfl
  have f6 : Py.run fs Γ (k + 14) f_left_at [plD P, wiD wi, .int m, courseD x ss] (Sa a5) = some (dueD P wi m x ss, Sa a5) := r_left_at (k := k + 2) (μ := Sa a5) hC hW rfl
  have f7 := r_same (μ := Sa a5) 2 (k + 11) (dueD P wi m x ss) (by unfold dueD; cases firstBad P wi m x ss <;> simp [pln, rD])
  have f8 := r_is_safe_course (k := k + 2) (μ := Sa a5) hP hW rfl (b := 400) (c := 9) (e := 6) (by decide) m hm x hx ss hC.ok hC.sz (by omega)
  have hnon : Py.isNon (dueD P wi m x ss) = (firstBad P wi m x ss).isNone := by unfold dueD; cases firstBad P wi m x ss <;> rfl
  have f9 : ∀ b : Bool, Py.run fs Γ (k + 14) f__law_bool [.bl b, .bl b] (Sa a5) = some (.bl true, Sa a5) := fun b => r_bool (k := k + 13) (μ := Sa a5) b
  -- the mean
  have f10 := r_mean_course (k := k + 6) (μ := Sa a5) hP x ss hC.ok hlen (by decide)
  obtain ⟨i1, i2, i3⟩ := mean_right hP ss m x hm hC.ok hx hC.sz hC.rt
  have mok : StepsOk n 83 2 P (meanS P n ss) := fun s hs => by
    obtain ⟨s', hs', rfl⟩ := List.mem_map.mp hs
    exact meanB_ok hP (hC.ok s' hs') (by decide)
  have hml : (meanS P n ss).length = ss.length := by unfold meanS; simp
  have f11 := r_shows_course (k := k + 2) (μ := Sa a5) hP rfl (b := 400) (c := 83) (e := 2) (by decide) m hm x hx (meanS P n ss) mok i2 i1
  have f12 := r_lplaces (k := k + 8) (μ := Sa a5) hP rfl (b := 400) (c := 83) (e := 2) (by decide) m hm x hx (meanS P n ss) mok i2 (by omega)
  rw [i3] at f12
  have f13 : eqS (.lst ((placesM P m x ss).map plcD)) (.lst ((placesM P m x ss).map plcD)) = some true := eqS_refl hplp
  have f14 := r_is_safe_course (k := k + 2) (μ := Sa a5) hP hW rfl (b := 400) (c := 83) (e := 2) (by decide) m hm x hx (meanS P n ss) mok i2 (by omega)
  have f15 : ∀ y0 y1 y2 y3 y4 y5 y6 y7 y8 y9 y11 y12 y13 y14 y15 : Option SV, ev (Py.run fs Γ (k + 14)) Γ c1_law [y0, y1, y2, y3, y4, y5, y6, y7, y8, y9, some (.val (courseD x (meanS P n ss))), y11, y12, y13, y14, y15] (Sa a5) = some (.lst [], Sa a5) := by
    intro y0 y1 y2 y3 y4 y5 y6 y7 y8 y9 y11 y12 y13 y14 y15
    have := ev_lc_filter (Φ := Py.run fs Γ (k + 14)) (Γ := Γ) (x := E.slot 12) (t := T.tp [(T.nm 11), (T.nm 12)]) (it := I.seq (E.ix (E.slot 10) (E.int 1))) (c := Eo.some (E.cmp .NotEq (E.bi .len (E.ix (E.slot 12) (E.int 0)) Es.nil) (E.int 1))) (vs := [11, 12]) (env := [y0, y1, y2, y3, y4, y5, y6, y7, y8, y9, some (.val (courseD x (meanS P n ss))), y11, y12, y13, y14, y15]) (μ := Sa a5) (g := stepD) (h := fun _ => D.non) (p := fun _ => false) (meanS P n ss) (by simp -implicitDefEqProofs [tcD, at2_1]) (by omega) (fun s hs => by
      obtain ⟨s', hs', rfl⟩ := List.mem_map.mp hs
      refine ⟨[y0, y1, y2, y3, y4, y5, y6, y7, y8, y9, some (.val (courseD x (meanS P n ss))), some (.val (.int (s'.1 : Int))), some (.val (beatD (meanB P n s'.2))), y13, y14, y15], by unfold stepD; simp, ?_, fun h => by cases h⟩
      have htb : ∀ μ : Store, itsS μ (beatD (meanB P n s'.2)) = some [.tup [segD (P.beat, meanM n s'.2.segs P.beat)], oD s'.2.ix, kickD (meanB P n s'.2)] := fun _ => rfl
      simp -implicitDefEqProofs [htb, at3_0, eqS_int])
    rw [c1_law, this]
    simp
  -- the cut
  obtain ⟨j, hj, e9⟩ := r_takeN (k := k + 13) ns t h (placesM P m x ss).length (by omega) a5 (by omega)
  have f16 := r_cut (k := k + 1) (μ := Sa (a5 + 1)) hC hW rfl (by decide) j (by omega)
  have f17 := r_shows_mode (k := k + 10) (μ := Sa (a5 + 1)) hP x (.tup (ss.map stepD))
  have f18 := r_shows_dim (k := k + 10) (μ := Sa (a5 + 1)) hP m hm (x.map rD ++ [.tup [.int 0, .int 1]]) (by simp [hx]) (.tup (ss.map stepD))
  have hcd : D.tup [ptD x, .tup (ss.map stepD)] = courseD x ss := rfl
  rw [hcd] at f17
  have hr := rngS_0 (n := ss.length) (by omega)
  have hxl : x.length + 1 ≤ 16777216 := by omega
  have hptx : binS .Add (ptD x) (.tup [.tup [.int 0, .int 1]]) = some (.tup (x.map rD ++ [.tup [.int 0, .int 1]])) := by
    rw [show ptD x = .tup (x.map rD) from rfl, binS_tup, if_pos (by simp; unfold SZ; omega)]
  obtain ⟨a6, y13, y14, f19, b13⟩ := l1_loop (k := k) ns t h hC (some (.val (.scr (ms0.map D.int)))) (some (.val (.int (n : Int)))) (some (.val (wiD wi))) (some (.val (dueD P wi m x ss))) (some (.val (dueD P wi m x ss))) (some (.val (courseD x (meanS P n ss)))) none none none (a5 + 1) (by omega)
  obtain ⟨a7, f20, b14, b15⟩ := r_ldrawn (k := k) ns t h hP m hm x hx hxs a6 (by omega)
  have hat : ∀ j', firstBad P wi m x ss = some j' → Py.run fs Γ (k + 14) f__law_at [plD P, .int m, courseD x ss, .lst ((placesM P m x ss).map plcD), .int j', rD (timeAt P wi m x ss j')] (Sa a5) = some (.bl true, Sa a5) := fun j' hj' => by
    have hjl : j' < ss.length := List.mem_range.mp (List.mem_of_find?_eq_some hj')
    exact r_lat (k := k + 5) (μ := Sa a5) hC rfl j' hjl _ (timeAt_sz hC hW hjl (by decide)) (by decide)
  have hms : firstBad P wi m x ss = none → firstBad P wi m x (meanS P n ss) = none := mean_safe hP hm hC.ok hx hC.sz hC.rt
  have hx18 : ∀ sd : D, D.tup [.tup (x.map rD ++ [.tup [.int 0, .int 1]]), sd] = .tup [.tup (x.map rD ++ [.tup [.int 0, .int 1]]), sd] := fun _ => rfl
  by_cases hs0 : ss.length = 0
  · have hr0 : rngS 0 (0 : Int) = some (rangeD 0 ss.length) := by
      have := hr
      rw [show ((ss.length : Nat) : Int) = 0 by omega] at this; exact this
    refine ⟨Sa a7, ?_⟩
    rw [u_law, b_law]
    cases hfb : firstBad P wi m x ss with
    | none =>
      have hms' := hms hfb
      have hdue : dueD P wi m x ss = .non := by unfold dueD; rw [hfb]
      rw [hdue] at f5 f6 f7 f19
      rw [hs0] at f19 hr0
      rw [hfb] at f8
      rw [hms'] at f14
      simp -implicitDefEqProofs [eD, e1, hnn, e2, e3, e4, hwd, pl2, at9_2, e5, e6, e7, e8, f1, f2, f3, f4, f5, f6, f7, f8, hnon, f9, f10, f11, f12, f13, f14, f15, e9, f16, f17, f18, hr0, hxl, hptx, tcD, at2_0, at2_1, szle, ex_for, n2, f19, f20, hs0, eqS_int]
    | some j' =>
      have hjl : j' < ss.length := List.mem_range.mp (List.mem_of_find?_eq_some hfb)
      omega
  · have hs1 : ¬ (ss.length : Int) = 0 := by omega
    have hss : ¬ ss = [] := fun z => hs0 (by rw [z]; rfl)
    obtain ⟨j2, hj2, e10⟩ := r_takeN (k := k + 13) ns t h ss.length (by omega) a7 (by omega)
    obtain ⟨L, f21, hL1, hL2⟩ := r_spoilt (k := k + 6) (μ := Sa (a7 + 1)) hC rfl (by decide) (by decide) (by decide) j2 hj2 (hsg _ (List.getElem_mem hj2))
    obtain ⟨y15, f22⟩ := l2_loop (k := k + 2) hC (μ := Sa (a7 + 1)) rfl j2 L hL2 (some (.val (.scr (ms0.map D.int)))) (some (.val (dealD ns t))) (some (.val (.int (n : Int)))) (some (.val (wiD wi))) (some (.val (courseD x ss))) (some (.val (.lst ((placesM P m x ss).map plcD)))) (some (.val (dueD P wi m x ss))) (some (.val (dueD P wi m x ss))) (some (.val (courseD x (meanS P n ss)))) none none y13 y14
    refine ⟨Sa (a7 + 1), ?_⟩
    rw [u_law, b_law]
    cases hfb : firstBad P wi m x ss with
    | none =>
      have hms' := hms hfb
      have hdue : dueD P wi m x ss = .non := by unfold dueD; rw [hfb]
      rw [hdue] at f5 f6 f7 f19 f22
      rw [hfb] at f8
      rw [hms'] at f14
      simp -implicitDefEqProofs [eD, e1, hnn, e2, e3, e4, hwd, pl2, at9_2, e5, e6, e7, e8, f1, f2, f3, f4, f5, f6, f7, f8, hnon, f9, f10, f11, f12, f13, f14, f15, e9, f16, f17, f18, hr, hxl, hptx, tcD, at2_0, at2_1, szle, ex_for, n2, f19, f20, hs0, hs1, hss, eqS_int, e10, f21, f22]
    | some j' =>
      have hdue : dueD P wi m x ss = .tup [.int (j' : Int), rD (timeAt P wi m x ss j')] := by unfold dueD; rw [hfb]
      have hat' := hat j' hfb
      have n3 : ∀ l : List D, Py.isNon (.tup l) = false := fun _ => rfl
      rw [hdue] at f5 f6 f7 f19 f22
      rw [hfb] at f8
      simp -implicitDefEqProofs [eD, e1, hnn, e2, e3, e4, hwd, pl2, at9_2, e5, e6, e7, e8, f1, f2, f3, f4, f5, f6, f7, f8, f9, f10, f11, f12, f13, f14, f15, e9, f16, f17, f18, hr, hxl, hptx, tcD, at2_0, at2_1, szle, ex_for, n3, hat', f19, f20, hs0, hs1, hss, eqS_int, e10, f21, f22]
abbrev kk : Nat := 20
theorem law_true (ns : List Int) (h : ns.length ≤ 63) : ∃ μ', Py.run (pfs.map (·.fn)) Γ kk f_law [.scr (ns.map D.int)] [] = some (.bl true, μ') := law_core 5 ns h
end P19
end
section
set_option Elab.async false
set_option linter.all false
set_option maxRecDepth 100000
set_option maxHeartbeats 0
namespace P19
open PySem L2 Py
theorem chk : pfs.all (fun p => p.ok (pfs.map (·.name)) gls) = true := by decide +kernel
theorem bnd_greatest_divisor : BindOk p_greatest_divisor := fun _ _ _ _ _ _ us hl => match us, hl with | [_, _], _ => rfl
theorem bnd_ratio : BindOk p_ratio := fun _ _ _ _ _ _ us hl => match us, hl with | [_, _], _ => rfl
theorem bnd_added : BindOk p_added := fun _ _ _ _ _ _ us hl => match us, hl with | [_, _], _ => rfl
theorem bnd_opposite : BindOk p_opposite := fun _ _ _ _ _ _ us hl => match us, hl with | [_], _ => rfl
theorem bnd_less : BindOk p_less := fun _ _ _ _ _ _ us hl => match us, hl with | [_, _], _ => rfl
theorem bnd_times : BindOk p_times := fun _ _ _ _ _ _ us hl => match us, hl with | [_, _], _ => rfl
theorem bnd_over : BindOk p_over := fun _ _ _ _ _ _ us hl => match us, hl with | [_, _], _ => rfl
theorem bnd_compare : BindOk p_compare := fun _ _ _ _ _ _ us hl => match us, hl with | [_, _], _ => rfl
theorem bnd_blended : BindOk p_blended := fun _ _ _ _ _ _ us hl => match us, hl with | [_, _], _ => rfl
theorem bnd_is_ratio : BindOk p_is_ratio := fun _ _ _ _ _ _ us hl => match us, hl with | [_], _ => rfl
theorem bnd_height : BindOk p_height := fun _ _ _ _ _ _ us hl => match us, hl with | [_, _], _ => rfl
theorem bnd_keeps : BindOk p_keeps := fun _ _ _ _ _ _ us hl => match us, hl with | [_, _], _ => rfl
theorem bnd_has_point : BindOk p_has_point := fun _ _ _ _ _ _ us hl => match us, hl with | [_, _], _ => rfl
theorem bnd_rates_of : BindOk p_rates_of := fun _ _ _ _ _ _ us hl => match us, hl with | [_, _, _], _ => rfl
theorem bnd_switches_from : BindOk p_switches_from := fun _ _ _ _ _ _ us hl => match us, hl with | [_, _, _], _ => rfl
theorem bnd_guard_holds : BindOk p_guard_holds := fun _ _ _ _ _ _ us hl => match us, hl with | [_, _, _], _ => rfl
theorem bnd_choices : BindOk p_choices := fun _ _ _ _ _ _ us hl => match us, hl with | [_, _, _], _ => rfl
theorem bnd_sum_of_points : BindOk p_sum_of_points := fun _ _ _ _ _ _ us hl => match us, hl with | [_, _], _ => rfl
theorem bnd_moved : BindOk p_moved := fun _ _ _ _ _ _ us hl => match us, hl with | [_, _, _], _ => rfl
theorem bnd_passed : BindOk p_passed := fun _ _ _ _ _ _ us hl => match us, hl with | [_, _], _ => rfl
theorem bnd_is_point_of : BindOk p_is_point_of := fun _ _ _ _ _ _ us hl => match us, hl with | [_, _], _ => rfl
theorem bnd_are_segments : BindOk p_are_segments := fun _ _ _ _ _ _ us hl => match us, hl with | [_, _, _, _], _ => rfl
theorem bnd_is_kick : BindOk p_is_kick := fun _ _ _ _ _ _ us hl => match us, hl with | [_, _, _], _ => rfl
theorem bnd_is_beat : BindOk p_is_beat := fun _ _ _ _ _ _ us hl => match us, hl with | [_, _, _, _, _], _ => rfl
theorem bnd_place_behind : BindOk p_place_behind := fun _ _ _ _ _ _ us hl => match us, hl with | [_, _, _, _, _], _ => rfl
theorem bnd_end_of : BindOk p_end_of := fun _ _ _ _ _ _ us hl => match us, hl with | [_, _, _, _], _ => rfl
theorem bnd_in_stay : BindOk p_in_stay := fun _ _ _ _ _ _ us hl => match us, hl with | [_, _, _], _ => rfl
theorem bnd_is_safe_beat : BindOk p_is_safe_beat := fun _ _ _ _ _ _ us hl => match us, hl with | [_, _, _, _, _], _ => rfl
theorem bnd_mean_rates : BindOk p_mean_rates := fun _ _ _ _ _ _ us hl => match us, hl with | [_, _], _ => rfl
theorem bnd_mean_beat : BindOk p_mean_beat := fun _ _ _ _ _ _ us hl => match us, hl with | [_, _], _ => rfl
theorem bnd_corner : BindOk p_corner := fun _ _ _ _ _ _ us hl => match us, hl with | [_, _], _ => rfl
theorem bnd_drawn_end : BindOk p_drawn_end := fun _ _ _ _ _ _ us hl => match us, hl with | [_, _, _, _], _ => rfl
theorem bnd_drawn_beat : BindOk p_drawn_beat := fun _ _ _ _ _ _ us hl => match us, hl with | [_, _, _, _, _], _ => rfl
theorem bnd_crossing : BindOk p_crossing := fun _ _ _ _ _ _ us hl => match us, hl with | [_, _, _], _ => rfl
theorem bnd_least_time : BindOk p_least_time := fun _ _ _ _ _ _ us hl => match us, hl with | [_, _], _ => rfl
theorem bnd_is_place : BindOk p_is_place := fun _ _ _ _ _ _ us hl => match us, hl with | [_, _, _], _ => rfl
theorem bnd_shows_course : BindOk p_shows_course := fun _ _ _ _ _ _ us hl => match us, hl with | [_, _, _], _ => rfl
theorem bnd_replayed : BindOk p_replayed := fun _ _ _ _ _ _ us hl => match us, hl with | [_, _, _], _ => rfl
theorem bnd_first_bad_step : BindOk p_first_bad_step := fun _ _ _ _ _ _ us hl => match us, hl with | [_, _, _, _], _ => rfl
theorem bnd_is_safe_course : BindOk p_is_safe_course := fun _ _ _ _ _ _ us hl => match us, hl with | [_, _, _, _], _ => rfl
theorem bnd_time_in_segment : BindOk p_time_in_segment := fun _ _ _ _ _ _ us hl => match us, hl with | [_, _, _, _], _ => rfl
theorem bnd_time_left : BindOk p_time_left := fun _ _ _ _ _ _ us hl => match us, hl with | [_, _, _, _, _], _ => rfl
theorem bnd_left_at : BindOk p_left_at := fun _ _ _ _ _ _ us hl => match us, hl with | [_, _, _, _], _ => rfl
theorem bnd_point_within : BindOk p_point_within := fun _ _ _ _ _ _ us hl => match us, hl with | [_, _, _], _ => rfl
theorem bnd_point_at : BindOk p_point_at := fun _ _ _ _ _ _ us hl => match us, hl with | [_, _, _, _], _ => rfl
theorem bnd_first_steps : BindOk p_first_steps := fun _ _ _ _ _ _ us hl => match us, hl with | [_, _], _ => rfl
theorem bnd_course_behind : BindOk p_course_behind := fun _ _ _ _ _ _ us hl => match us, hl with | [_, _, _, _], _ => rfl
theorem bnd_mean_course : BindOk p_mean_course := fun _ _ _ _ _ _ us hl => match us, hl with | [_, _], _ => rfl
theorem bnd_drawn_course : BindOk p_drawn_course := fun _ _ _ _ _ _ us hl => match us, hl with | [_, _, _, _], _ => rfl
theorem bnd__law_deal : BindOk p__law_deal := fun _ _ _ _ _ _ us hl => match us, hl with | [_], _ => rfl
theorem bnd__law_take : BindOk p__law_take := fun _ _ _ _ _ _ us hl => match us, hl with | [_, _], _ => rfl
theorem bnd__law_same : BindOk p__law_same := fun _ _ _ _ _ _ us hl => match us, hl with | [_, _], _ => rfl
theorem bnd__law_bool : BindOk p__law_bool := fun _ _ _ _ _ _ us hl => match us, hl with | [_, _], _ => rfl
theorem bnd__law_ratio : BindOk p__law_ratio := fun _ _ _ _ _ _ us hl => match us, hl with | [_, _], _ => rfl
theorem bnd__law_plus : BindOk p__law_plus := fun _ _ _ _ _ _ us hl => match us, hl with | [_, _], _ => rfl
theorem bnd__law_mult : BindOk p__law_mult := fun _ _ _ _ _ _ us hl => match us, hl with | [_, _], _ => rfl
theorem bnd__law_minus : BindOk p__law_minus := fun _ _ _ _ _ _ us hl => match us, hl with | [_, _], _ => rfl
theorem bnd__law_height : BindOk p__law_height := fun _ _ _ _ _ _ us hl => match us, hl with | [_, _], _ => rfl
theorem bnd__law_keeps : BindOk p__law_keeps := fun _ _ _ _ _ _ us hl => match us, hl with | [_, _], _ => rfl
theorem bnd__law_has : BindOk p__law_has := fun _ _ _ _ _ _ us hl => match us, hl with | [_, _], _ => rfl
theorem bnd__law_pick : BindOk p__law_pick := fun _ _ _ _ _ _ us hl => match us, hl with | [_, _], _ => rfl
theorem bnd__law_small : BindOk p__law_small := fun _ _ _ _ _ _ us hl => match us, hl with | [_], _ => rfl
theorem bnd__law_pair : BindOk p__law_pair := fun _ _ _ _ _ _ us hl => match us, hl with | [_, _], _ => rfl
theorem bnd__law_line : BindOk p__law_line := fun _ _ _ _ _ _ us hl => match us, hl with | [_, _, _, _], _ => rfl
theorem bnd__law_stay : BindOk p__law_stay := fun _ _ _ _ _ _ us hl => match us, hl with | [_, _], _ => rfl
theorem bnd__law_guard : BindOk p__law_guard := fun _ _ _ _ _ _ us hl => match us, hl with | [_, _], _ => rfl
theorem bnd__law_plant : BindOk p__law_plant := fun _ _ _ _ _ _ us hl => match us, hl with | [_, _], _ => rfl
theorem bnd__law_strictly : BindOk p__law_strictly := fun _ _ _ _ _ _ us hl => match us, hl with | [_, _], _ => rfl
theorem bnd__law_edged : BindOk p__law_edged := fun _ _ _ _ _ _ us hl => match us, hl with | [_, _], _ => rfl
theorem bnd__law_stays : BindOk p__law_stays := fun _ _ _ _ _ _ us hl => match us, hl with | [_, _], _ => rfl
theorem bnd__law_choices : BindOk p__law_choices := fun _ _ _ _ _ _ us hl => match us, hl with | [_, _, _], _ => rfl
theorem bnd__law_moved : BindOk p__law_moved := fun _ _ _ _ _ _ us hl => match us, hl with | [_, _, _], _ => rfl
theorem bnd__law_passed : BindOk p__law_passed := fun _ _ _ _ _ _ us hl => match us, hl with | [_, _], _ => rfl
theorem bnd__law_end : BindOk p__law_end := fun _ _ _ _ _ _ us hl => match us, hl with | [_, _, _, _], _ => rfl
theorem bnd__law_safe : BindOk p__law_safe := fun _ _ _ _ _ _ us hl => match us, hl with | [_, _, _, _, _], _ => rfl
theorem bnd__law_between : BindOk p__law_between := fun _ _ _ _ _ _ us hl => match us, hl with | [_, _], _ => rfl
theorem bnd__law_beat : BindOk p__law_beat := fun _ _ _ _ _ _ us hl => match us, hl with | [_, _, _, _, _], _ => rfl
theorem bnd__law_course : BindOk p__law_course := fun _ _ _ _ _ _ us hl => match us, hl with | [_, _, _, _, _], _ => rfl
theorem bnd__law_places : BindOk p__law_places := fun _ _ _ _ _ _ us hl => match us, hl with | [_, _, _], _ => rfl
theorem bnd__law_point : BindOk p__law_point := fun _ _ _ _ _ _ us hl => match us, hl with | [_, _], _ => rfl
theorem bnd__law_left : BindOk p__law_left := fun _ _ _ _ _ _ us hl => match us, hl with | [_, _, _, _], _ => rfl
theorem bnd__law_time : BindOk p__law_time := fun _ _ _ _ _ _ us hl => match us, hl with | [_, _, _], _ => rfl
theorem bnd__law_with : BindOk p__law_with := fun _ _ _ _ _ _ us hl => match us, hl with | [_, _, _], _ => rfl
theorem bnd__law_spoilt : BindOk p__law_spoilt := fun _ _ _ _ _ _ us hl => match us, hl with | [_, _, _, _], _ => rfl
theorem bnd__law_cut : BindOk p__law_cut := fun _ _ _ _ _ _ us hl => match us, hl with | [_, _, _, _, _, _], _ => rfl
theorem bnd__law_at : BindOk p__law_at := fun _ _ _ _ _ _ us hl => match us, hl with | [_, _, _, _, _, _], _ => rfl
theorem bnd__law_drawn : BindOk p__law_drawn := fun _ _ _ _ _ _ us hl => match us, hl with | [_, _, _, _], _ => rfl
theorem bnd__law_corner : BindOk p__law_corner := fun _ _ _ _ _ _ us hl => match us, hl with | [_, _], _ => rfl
theorem bnd__law_drawn_beat : BindOk p__law_drawn_beat := fun _ _ _ _ _ _ us hl => match us, hl with | [_, _, _, _, _], _ => rfl
theorem bnd_law : BindOk p_law := fun _ _ _ _ _ _ us hl => match us, hl with | [_], _ => rfl
theorem bnd : ∀ p ∈ pfs, BindOk p := by
  intro p hp
  simp only [pfs, List.mem_cons, List.not_mem_nil, or_false] at hp
  rcases hp with rfl | rfl | rfl | rfl | rfl | rfl | rfl | rfl | rfl | rfl | rfl | rfl | rfl | rfl | rfl | rfl | rfl | rfl | rfl | rfl | rfl | rfl | rfl | rfl | rfl | rfl | rfl | rfl | rfl | rfl | rfl | rfl | rfl | rfl | rfl | rfl | rfl | rfl | rfl | rfl | rfl | rfl | rfl | rfl | rfl | rfl | rfl | rfl | rfl | rfl | rfl | rfl | rfl | rfl | rfl | rfl | rfl | rfl | rfl | rfl | rfl | rfl | rfl | rfl | rfl | rfl | rfl | rfl | rfl | rfl | rfl | rfl | rfl | rfl | rfl | rfl | rfl | rfl | rfl | rfl | rfl | rfl | rfl | rfl | rfl | rfl | rfl | rfl | rfl | rfl
  · exact bnd_greatest_divisor
  · exact bnd_ratio
  · exact bnd_added
  · exact bnd_opposite
  · exact bnd_less
  · exact bnd_times
  · exact bnd_over
  · exact bnd_compare
  · exact bnd_blended
  · exact bnd_is_ratio
  · exact bnd_height
  · exact bnd_keeps
  · exact bnd_has_point
  · exact bnd_rates_of
  · exact bnd_switches_from
  · exact bnd_guard_holds
  · exact bnd_choices
  · exact bnd_sum_of_points
  · exact bnd_moved
  · exact bnd_passed
  · exact bnd_is_point_of
  · exact bnd_are_segments
  · exact bnd_is_kick
  · exact bnd_is_beat
  · exact bnd_place_behind
  · exact bnd_end_of
  · exact bnd_in_stay
  · exact bnd_is_safe_beat
  · exact bnd_mean_rates
  · exact bnd_mean_beat
  · exact bnd_corner
  · exact bnd_drawn_end
  · exact bnd_drawn_beat
  · exact bnd_crossing
  · exact bnd_least_time
  · exact bnd_is_place
  · exact bnd_shows_course
  · exact bnd_replayed
  · exact bnd_first_bad_step
  · exact bnd_is_safe_course
  · exact bnd_time_in_segment
  · exact bnd_time_left
  · exact bnd_left_at
  · exact bnd_point_within
  · exact bnd_point_at
  · exact bnd_first_steps
  · exact bnd_course_behind
  · exact bnd_mean_course
  · exact bnd_drawn_course
  · exact bnd__law_deal
  · exact bnd__law_take
  · exact bnd__law_same
  · exact bnd__law_bool
  · exact bnd__law_ratio
  · exact bnd__law_plus
  · exact bnd__law_mult
  · exact bnd__law_minus
  · exact bnd__law_height
  · exact bnd__law_keeps
  · exact bnd__law_has
  · exact bnd__law_pick
  · exact bnd__law_small
  · exact bnd__law_pair
  · exact bnd__law_line
  · exact bnd__law_stay
  · exact bnd__law_guard
  · exact bnd__law_plant
  · exact bnd__law_strictly
  · exact bnd__law_edged
  · exact bnd__law_stays
  · exact bnd__law_choices
  · exact bnd__law_moved
  · exact bnd__law_passed
  · exact bnd__law_end
  · exact bnd__law_safe
  · exact bnd__law_between
  · exact bnd__law_beat
  · exact bnd__law_course
  · exact bnd__law_places
  · exact bnd__law_point
  · exact bnd__law_left
  · exact bnd__law_time
  · exact bnd__law_with
  · exact bnd__law_spoilt
  · exact bnd__law_cut
  · exact bnd__law_at
  · exact bnd__law_drawn
  · exact bnd__law_corner
  · exact bnd__law_drawn_beat
  · exact bnd_law
abbrev R : PySem.W.OpenRow := PySem.W.OpenLaw.row PySem.Challenge.rw_surepilot_k19_whole_courses_and_where_le
abbrev hk : PySem.W.Hook := hookC 2 (faOf pfs) (pfs.map dOf) (conB cons)
def ob (s : PySem.W.SharedT) : AlC := obsC 2 (faOf pfs) (pfs.map dOf) (conB cons) (HandSHeadRun.getT s)
theorem ob_eq (s : PySem.W.SharedT) : ob s = hk.obs s.abs := obsC_eq (HandSHeadRun.getT_eq s)
def loose0 : List Str := ["greatest_divisor", "ratio", "added", "opposite", "less", "times", "over", "compare", "blended", "is_ratio", "height", "keeps", "has_point", "rates_of", "switches_from", "guard_holds", "choices", "sum_of_points", "moved", "passed", "is_point_of", "are_segments", "is_kick", "is_beat", "place_behind", "end_of", "in_stay", "is_safe_beat", "mean_rates", "mean_beat"]
def loose1 : List Str := ["corner", "drawn_end", "drawn_beat", "crossing", "least_time", "is_place", "shows_course", "replayed", "first_bad_step", "is_safe_course", "time_in_segment", "time_left", "left_at", "point_within", "point_at", "first_steps", "course_behind", "mean_course", "drawn_course", "_law_deal", "_law_take", "_law_same", "_law_bool", "_law_ratio", "_law_plus", "_law_mult", "_law_minus", "_law_height", "_law_keeps", "_law_has"]
def loose2 : List Str := ["_law_pick", "_law_small", "_law_pair", "_law_line", "_law_stay", "_law_guard", "_law_plant", "_law_strictly", "_law_edged", "_law_stays", "_law_choices", "_law_moved", "_law_passed", "_law_end", "_law_safe", "_law_between", "_law_beat", "_law_course", "_law_places", "_law_point", "_law_left", "_law_time", "_law_with", "_law_spoilt", "_law_cut", "_law_at", "_law_drawn", "_law_corner", "_law_drawn_beat", "NOTHING"]
def loose3 : List Str := ["MUST", "MAY"]
def loose : List Str := loose0 ++ loose1 ++ loose2 ++ loose3
theorem run0 (w : World) : HandSHeadRun.RunEq R (PySem.W.view R.prog [98]) hk ob 6000 loose w := by
  intro os
  kernel_rfl
end P19
end
section
set_option Elab.async false
set_option linter.all false
set_option maxRecDepth 100000
set_option maxHeartbeats 0
open PySem PySem.W PySem.Calls PyProof.Rows
theorem PySem.Challenge.cw_surepilot_k19_whole_courses_and_where_le_holds : PySem.Challenge.rw_surepilot_k19_whole_courses_and_where_le.Holds := by
  w_on; o_law
  refine HandSHeadRun.head_any (r := OpenLaw.row PySem.Challenge.rw_surepilot_k19_whole_courses_and_where_le) (q := view (OpenLaw.row PySem.Challenge.rw_surepilot_k19_whole_courses_and_where_le).prog [98]) (H := P19.hk) (ob := P19.ob) (M := 6000) (loose := P19.loose) (d := HandSHeadRun.topDef (OpenLaw.row PySem.Challenge.rw_surepilot_k19_whole_courses_and_where_le).prog 98) (kwd := []) P19.ob_eq
    (by kernel_rfl) (fun s => by kernel_rfl) P19.run0 (by kernel_rfl) (by kernel_rfl) (by kernel_rfl) (by rfl) (by first | assumption | decide +kernel) (by decide +kernel) ⟨rfl, rfl, rfl, rfl, rfl, by decide +kernel⟩ ?hw ?hc
  case hw => w_witness2
  case hc =>
    refine L2.walk_ofE (l := PySem.Challenge.rw_surepilot_k19_whole_courses_and_where_le) (n := 63) (k := P19.kk) (x := "script") (CX := L2.CX0) rfl (by decide) (by kernel_rfl) ⟨rfl, by decide, by decide⟩ ?F (fun _ _ _ _ z => z)
    intro w mg fa h Y G hmg0
    obtain ⟨K, KX, c, cx⟩ := Y
    have hmg : mg (P19.p_law.name) = some (.ref fa) := by
      have e : (HandSHeadRun.topDef (OpenLaw.row PySem.Challenge.rw_surepilot_k19_whole_courses_and_where_le).prog 98).name = P19.p_law.name := by kernel_rfl
      rw [← e]
      exact hmg0
    obtain ⟨fd, hb, hF⟩ := Py.law_ok (P := (PySem.Challenge.rw_surepilot_k19_whole_courses_and_where_le).prog) (w := w) P19.pfs P19.gls P19.Γ P19.kk P19.f_law P19.p_law rfl rfl P19.chk P19.bnd (Py.hg_of KX G cx) KX G hmg c
    exact ⟨K, fd, _, KX, hb, fun H a ns hl _ hS => Py.law_sp P19.law_true H a ns hl hS, hF⟩
end
