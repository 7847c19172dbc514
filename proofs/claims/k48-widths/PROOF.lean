import PyProof.Rows.All
import HandS.Dict
import HandS.Iter
import HandS.Conv
import KE.KDictKeyed
import KE.KDictCopyH
import KE.KDictWalk
import KE.KDictList
import HandS.Walk
import HandS.Zip
import KE.GoesEnum
import KE.GoesMore
import KE.DataMinMax
import HandS.Deep
import HandS.ForMost
import HandS.Defaults
import HandS.IsInst
import HandS.Flow
import HandS.Style
import HandS.Wide
import HandS.TupAny
import HandS.WideBits
import HandS.Sort
import HandS.NoneIn
import Wide.All
import OpenK.AllK
import Wide.FinOn
import KE.KStateDown
import HandS.Ends
import HandS.More
import HandS.Words
import HandS.WordsExc
import HandS.Head0
import HandS.Head1
import HandS.Head2
import HandS.HeadEnd
import HandS.HeadHook1
import HandS.HeadHook2
import PySem.Challenge.RW_surepilot_k48_whole_late_widths_bound_es
section
set_option Elab.async false
set_option linter.all false
namespace Py
open PySem L2
/-! ### dicts whose keys are tuples of tuples -/
mutual
inductive NKey (K : PySem.W.Frag) (H : Hp) : NestedKey → V → Prop
  | none : NKey K H .none .non
  | num (i : Int) : NKey K H (.num i) (.int i)
  | text (x : Str) : NKey K H (.text x) (.str x)
  | tup {a : Addr} {vs : List V} {ks : List NestedKey} : SqT K H a vs → NKeys K H ks vs → NKey K H (.tup ks) (.ref a)
inductive NKeys (K : PySem.W.Frag) (H : Hp) : List NestedKey → List V → Prop
  | nil : NKeys K H [] []
  | cons {k : NestedKey} {v : V} {ks : List NestedKey} {vs : List V} : NKey K H k v → NKeys K H ks vs → NKeys K H (k :: ks) (v :: vs)
end
mutual
theorem NKey.is {X : Cx} {pins : List (Addr × Obj)} {σ : L2.St} {H : Hp} {s : Shared} (I : Inv X pins σ H s) : ∀ (k : NestedKey) (v : V) (u : Value), NKey X.K H k v → RelV v u → NestedIs s.heap k u
  | .none, _, u, h, r => by cases h; cases (show u = Value.none from r); exact .none
  | .num i, _, u, h, r => by
    cases h
    obtain ⟨t, rfl⟩ := r
    exact .int i t
  | .text x, _, u, h, r => by
    cases h
    obtain ⟨t, rfl⟩ := r
    exact .text x t
  | .tup ks, _, u, h, r => by
    cases h with
    | tup h1 h2 =>
      rename_i a vs
      cases (show u = Value.ref a from r)
      obtain ⟨its, q1, ⟨o, q2, q3, n, q4⟩, _⟩ := I.tuple h1
      exact .tup q2 q3 q4 (NKeys.are I ks vs its h2 q1)
theorem NKeys.are {X : Cx} {pins : List (Addr × Obj)} {σ : L2.St} {H : Hp} {s : Shared} (I : Inv X pins σ H s) : ∀ (ks : List NestedKey) (vs : List V) (us : List Value), NKeys X.K H ks vs → Vals vs us → NestedAll s.heap ks us
  | [], _, _, h, r => by cases h; cases r; exact .nil
  | k :: ks, _, _, h, r => by
    cases h with
    | cons h1 h2 =>
      cases r with
      | cons r1 r2 => exact .cons (NKey.is I k _ _ h1 r1) (NKeys.are I ks _ _ h2 r2)
end

abbrev NE := NestedKey × Addr × V
abbrev KH : List NE → List (NestedKey × Addr × Value) → Prop := Paired fun p q => p.1 = q.1 ∧ p.2.1 = q.2.1 ∧ RelV p.2.2 q.2.2
def dnP (P : Program) (w : World) (a : Addr) (kvs : List NE) (h : Heap) : Prop := (a == sysModules) = false ∧ kvs.length ≤ sizeLine ∧ ∃ xs, KH kvs xs ∧
  ∃ o es ep, h.get? a = some o ∧ o.ExactDict ∧ o.data = .dict es ep ∧ es.toList = xs.map (entryOfKey (nestedKind P w)) ∧ (xs.map (·.1)).Nodup
def dnO (P : Program) (w : World) (a : Addr) (kvs : List NE) : HO := .ext (dnP P w a kvs)
/-- the value at a key -/
def nAt (kvs : List NE) (k : NestedKey) : Option V := (kvs.find? fun x => decide (x.1 = k)).map (·.2.2)
def nPut (kvs : List NE) (k : NestedKey) (b : Addr) (v : V) : List NE := if (nAt kvs k).isSome then kvs.map fun x => if x.1 = k then (x.1, x.2.1, v) else x else kvs ++ [(k, b, v)]
theorem KH.at_ : ∀ {kvs : List NE} {xs : List (NestedKey × Addr × Value)}, KH kvs xs → ∀ k, RelO (nAt kvs k) ((atKey xs k).map (·.2))
  | _, _, .nil, k => True.intro
  | _, _, .cons (a := p) (b := q) (l₁ := ps) (l₂ := qs) h t, k => by
    by_cases e : p.1 = k
    · have e2 : q.1 = k := h.1 ▸ e
      simp [nAt, atKey, e, e2]
      exact h.2.2
    · have e2 : ¬ q.1 = k := fun z => e (h.1.trans z)
      have := KH.at_ t k
      simpa [nAt, atKey, e, e2] using this
theorem KH.map_ {k : NestedKey} {v : V} {u : Value} (r : RelV v u) : ∀ {kvs : List NE} {xs : List (NestedKey × Addr × Value)}, KH kvs xs → KH (kvs.map fun x => if x.1 = k then (x.1, x.2.1, v) else x) (xs.map (putAt k u))
  | _, _, .nil => .nil
  | _, _, .cons (a := p) (b := q) h t => by
    refine .cons ?_ (KH.map_ r t)
    by_cases e : p.1 = k
    · have e2 : q.1 = k := h.1 ▸ e
      simp only [if_pos e, putAt, if_pos e2]
      exact ⟨h.1, h.2.1, r⟩
    · have e2 : ¬ q.1 = k := fun z => e (h.1.trans z)
      simp only [if_neg e, putAt, if_neg e2]
      exact h
theorem KH.snoc : ∀ {kvs : List NE} {xs : List (NestedKey × Addr × Value)} {p : NE} {q : NestedKey × Addr × Value}, KH kvs xs → (p.1 = q.1 ∧ p.2.1 = q.2.1 ∧ RelV p.2.2 q.2.2) → KH (kvs ++ [p]) (xs ++ [q])
  | _, _, _, _, .nil, h => .cons h .nil
  | _, _, _, _, .cons h t, r => .cons h (KH.snoc t r)
theorem KH.put {k : NestedKey} {b : Addr} {v : V} {u : Value} (r : RelV v u) {kvs : List NE} {xs : List (NestedKey × Addr × Value)} (h : KH kvs xs) : KH (nPut kvs k b v) (storedH xs k b u) := by
  unfold nPut storedH
  have e : (nAt kvs k).isSome = (atKey xs k).isSome := by
    rw [RelO.isSome_eq (h.at_ k), Option.isSome_map]
  rw [e]
  split
  · exact KH.map_ r h
  · exact KH.snoc h ⟨rfl, rfl, r⟩
theorem kh_get : ∀ {kvs : List NE} {xs : List (NestedKey × Addr × Value)} {j : Nat} {p : NE} {q : NestedKey × Addr × Value}, KH kvs xs → kvs[j]? = some p → xs[j]? = some q → RelV p.2.2 q.2.2
  | _, _, 0, _, _, .cons h _, e1, e2 => by cases e1; cases e2; exact h.2.2
  | _, _, j + 1, _, _, .cons _ t, e1, e2 => kh_get t (by simpa using e1) (by simpa using e2)
  | _, _, _, _, _, .nil, e1, _ => by simp at e1
theorem nPut_len (kvs : List NE) (k : NestedKey) (b : Addr) (v : V) : (nPut kvs k b v).length ≤ kvs.length + 1 := by
  unfold nPut
  split <;> simp
section
variable {X : Cx} {pins : List (Addr × Obj)} {σ : L2.St} {H : Hp} {s : Shared} {a b : Addr} {kvs : List NE} {k : NestedKey} {A : Around} {E : Value → Shared → Prop}
theorem dn_of (I : Inv X pins σ H s) (e : H a = some (dnO X.prog X.w a kvs)) (hk : ∀ x ∈ kvs, NKey X.K H x.1 (.ref x.2.1)) (h8 : ∀ x ∈ kvs, x.1.depth ≤ 8) :
    (a == sysModules) = false ∧ kvs.length ≤ sizeLine ∧ ∃ xs, KH kvs xs ∧ s.heap.DictOfH (nestedKind X.prog X.w) a xs := by
  obtain ⟨⟨h1, h2, xs, h3, o, es, ep, h4, h5, h6, h7, h9⟩, _, _⟩ := (show ObjOk X.prog X.w H s.heap a (dnO X.prog X.w a kvs) from I.hok a _ e)
  refine ⟨h1, h2, xs, h3, o, es, ep, h4, h5, h6, h7, ?_, h9⟩
  have all : ∀ {l : List NE} {m : List (NestedKey × Addr × Value)}, KH l m → (∀ x ∈ l, NKey X.K H x.1 (.ref x.2.1)) → (∀ x ∈ l, x.1.depth ≤ 8) → ∀ x ∈ m, (nestedKind X.prog X.w).is s.heap x.1 x.2.1 := by
    intro l m q
    induction q with
    | nil => intro _ _ x hx; exact nomatch hx
    | @cons p q ps qs hq t ih =>
      intro g1 g2 x hx
      rcases List.mem_cons.mp hx with e | hx
      · subst e
        have z := NKey.is I _ _ _ (g1 p (by simp)) (rfl : RelV (.ref p.2.1) (.ref p.2.1))
        rw [hq.1, hq.2.1] at z
        exact ⟨z, by rw [← hq.1]; exact g2 p (by simp)⟩
      · exact ih (fun y hy => g1 y (by simp [hy])) (fun y hy => g2 y (by simp [hy])) x hx
  exact all h3 hk h8
theorem dn_ok {P : Program} {w : World} {H' : Hp} {h' : Heap} {xs : List (NestedKey × Addr × Value)} (h1 : (a == sysModules) = false) (h2 : kvs.length ≤ sizeLine) (h3 : KH kvs xs) (d : h'.DictOfH (nestedKind P w) a xs) : ObjOk P w H' h' a (dnO P w a kvs) := by
  obtain ⟨o, es, ep, h4, h5, h6, h7, _, h9⟩ := d
  exact ⟨⟨h1, h2, xs, h3, o, es, ep, h4, h5, h6, h7, h9⟩, ⟨o, h4⟩, fun g1 g2 ⟨y1, y2, ys, y3, o', es', ep', y4, y5, y6, y7, y9⟩ hg => ⟨y1, y2, ys, y3, o', es', ep', hg _ y4, y5, y6, y7, y9⟩⟩
theorem n_getItem {v : V} {Q : Value → Shared → Prop} (hu : A.in1.units + 8 < cLine) (I : Inv X pins σ H s) (e : H a = some (dnO X.prog X.w a kvs)) (hk : ∀ x ∈ kvs, NKey X.K H x.1 (.ref x.2.1)) (h8 : ∀ x ∈ kvs, x.1.depth ≤ 8)
    (kk : NKey X.K H k (.ref b)) (k8 : k.depth ≤ 8) (g : nAt kvs k = some v) (h : ∀ w' s', Inv X pins σ H s' → RelV v w' → Q w' s') : wpAny (model X.prog X.w) A (getItem (.ref a) (.ref b)) Q E s := by
  obtain ⟨hd, z, xs, rel, dd⟩ := dn_of I e hk h8
  obtain ⟨w', hw, rw'⟩ := RelO.some_of (v := v) (o := (atKey xs k).map (·.2)) (by rw [← g]; exact rel.at_ k)
  obtain ⟨p, hp, hp2⟩ := Option.map_eq_some_iff.mp hw
  refine wpAny_getItem_heap (knd := nestedKind X.prog X.w) hu ⟨NKey.is I _ _ _ kk rfl, k8⟩ dd hp ?_
  rw [hp2]
  exact h w' _ (I.tok _) rw'
theorem n_in {Q : Value → Shared → Prop} (hu : A.in1.units + 8 < cLine) (I : Inv X pins σ H s) (e : H a = some (dnO X.prog X.w a kvs)) (hk : ∀ x ∈ kvs, NKey X.K H x.1 (.ref x.2.1)) (h8 : ∀ x ∈ kvs, x.1.depth ≤ 8)
    (kk : NKey X.K H k (.ref b)) (k8 : k.depth ≤ 8) (h : ∀ s', Inv X pins σ H s' → Q (.bool (nAt kvs k).isSome) s') : wpAny (model X.prog X.w) A (compareOp .In (.ref b) (.ref a)) Q E s := by
  obtain ⟨hd, z, xs, rel, dd⟩ := dn_of I e hk h8
  refine wpAny_in_heap (knd := nestedKind X.prog X.w) hu ⟨NKey.is I _ _ _ kk rfl, k8⟩ hd dd ?_
  have q := RelO.isSome_eq (rel.at_ k)
  rw [Option.isSome_map] at q
  rw [← q]
  exact h _ (I.tok _)
theorem n_notIn {Q : Value → Shared → Prop} (hu : A.in1.units + 8 < cLine) (I : Inv X pins σ H s) (e : H a = some (dnO X.prog X.w a kvs)) (hk : ∀ x ∈ kvs, NKey X.K H x.1 (.ref x.2.1)) (h8 : ∀ x ∈ kvs, x.1.depth ≤ 8)
    (kk : NKey X.K H k (.ref b)) (k8 : k.depth ≤ 8) (h : ∀ s', Inv X pins σ H s' → Q (.bool (!(nAt kvs k).isSome)) s') : wpAny (model X.prog X.w) A (compareOp .NotIn (.ref b) (.ref a)) Q E s := by
  obtain ⟨hd, z, xs, rel, dd⟩ := dn_of I e hk h8
  refine notIn_keyed (knd := nestedKind X.prog X.w) hu ⟨NKey.is I _ _ _ kk rfl, k8⟩ hd ⟨xs, dd, rfl⟩ ?_
  have q := RelO.isSome_eq (rel.at_ k)
  rw [Option.isSome_map] at q
  rw [valueAt_pairsH, Option.isSome_map, ← q]
  exact h _ (I.tok _)
theorem n_setItem {v : V} {r : Value} {Q : Unit → Shared → Prop} (hu : A.in1.units + 8 < cLine) (I : Inv X pins σ H s) (e : H a = some (dnO X.prog X.w a kvs)) (hk : ∀ x ∈ kvs, NKey X.K H x.1 (.ref x.2.1)) (h8 : ∀ x ∈ kvs, x.1.depth ≤ 8)
    (kk : NKey X.K H k (.ref b)) (k8 : k.depth ≤ 8) (hl : kvs.length < sizeLine) (rv : RelV v r) (h : ∀ s', Inv X pins σ (upd H a (dnO X.prog X.w a (nPut kvs k b v))) s' → Q () s') : wpAny (model X.prog X.w) A (setItem (.ref a) (.ref b) r) Q E s := by
  obtain ⟨hd, z, xs, rel, dd⟩ := dn_of I e hk h8
  have hz : xs.length ≤ sizeLine := by rw [← Paired.length rel]; exact z
  have hl' : (nPut kvs k b v).length ≤ sizeLine := by have := nPut_len kvs k b v; omega
  refine wpAny_setItem_heap (knd := nestedKind X.prog X.w) (hsz := hz) hu ⟨NKey.is I _ _ _ kk rfl, k8⟩ dd fun h' dd' hs => h _ ?_
  have he : ∃ q, h'.get? a = some q := let ⟨q, _, _, hq, _⟩ := dd'; ⟨q, hq⟩
  exact d_write I (by rw [e]; exact True.intro) hs he (dn_ok hd hl' (rel.put rv) dd')
end

/-! readings of expressions -/
section
variable {X : Cx} {o i e value : Expr} {pos pos' apos cpos : Pos} {td ty tv : TE}
def NOk (K : PySem.W.Frag) (H : Hp) (kvs : List NE) : Prop := (∀ x ∈ kvs, NKey K H x.1 (.ref x.2.1)) ∧ ∀ x ∈ kvs, x.1.depth ≤ 8
theorem dn_typeIs {pins : List (Addr × Obj)} {σ : L2.St} {H : Hp} {s : Shared} {a : Addr} {kvs : List NE} (I : Inv X pins σ H s) (e : H a = some (dnO X.prog X.w a kvs)) (ok : NOk X.K H kvs) : s.TypeIs (.ref a) "dict" := by
  obtain ⟨_, _, xs, _, dd⟩ := dn_of I e ok.1 ok.2
  exact dd.typeIs
def tNGet (td ty : TE) : TE := fun σ H Q => td σ H fun x H1 => ty σ H1 fun y H2 => ∃ a b kvs k v P w, x = .ref a ∧ y = .ref b ∧ P = X.prog ∧ w = X.w ∧ H2 a = some (dnO P w a kvs) ∧ NOk X.K H2 kvs ∧ NKey X.K H2 k (.ref b) ∧ k.depth ≤ 8 ∧ nAt kvs k = some v ∧ Q v H2
def tNIn (f : Bool → Bool) (ty td : TE) : TE := fun σ H Q => ty σ H fun y H1 => td σ H1 fun x H2 => ∃ a b kvs k P w, x = .ref a ∧ y = .ref b ∧ P = X.prog ∧ w = X.w ∧ H2 a = some (dnO P w a kvs) ∧ NOk X.K H2 kvs ∧ NKey X.K H2 k (.ref b) ∧ k.depth ≤ 8 ∧ Q (.bl (f (nAt kvs k).isSome)) H2
def sNPut (td ty tv : TE) : TS := fun D σ H => tv σ H fun v H1 => td σ H1 fun x H2 => ty σ H2 fun y H3 => ∃ a b kvs k P w, x = .ref a ∧ y = .ref b ∧ P = X.prog ∧ w = X.w ∧ H3 a = some (dnO P w a kvs) ∧ NOk X.K H3 kvs ∧ NKey X.K H3 k (.ref b) ∧ k.depth ≤ 8 ∧ kvs.length < sizeLine ∧ D.nx σ (upd H3 a (dnO P w a (nPut kvs k b v)))
theorem pe_nget (hu : X.A.units + 16 < cLine) (ho : PE X o td) (hi : PE X i ty) (hs : NoSl i) : PE X (.Subscript o i pos) (tNGet (X := X) td ty) := by
  refine ⟨fun pins s σ H Q I h => ?_⟩
  refine subD_of PySem.F.slot_dict_getitem.lookup hs (thn (ho.run pins s σ H _ I h) fun u s1 ⟨x, H1, I1, rx, q1⟩ => thn (hi.run pins s1 σ H1 _ I1 q1) fun iv s2 ⟨y, H2, I2, ry, a, b, kvs, k, v, P, w, ex, ey, eP, ew, e, ok, kk, k8, g, q2⟩ => ?_)
  subst ex ey eP ew
  obtain rfl : u = Value.ref a := rx
  obtain rfl : iv = Value.ref b := ry
  exact ⟨dn_typeIs I2 e ok, n_getItem (by show X.A.units + 1 + 8 < cLine; omega) I2 e ok.1 ok.2 kk k8 g fun w' s3 I3 rw' => ⟨v, H2, I3, rw', q2⟩⟩
theorem pc_nin (hu : X.A.units + 16 < cLine) (hi : PE X i ty) (ho : PE X o td) : PC X .In i o (tNIn (X := X) (fun b => b) ty td) := by
  refine ⟨fun pins s σ H Q I h => ?_⟩
  refine thn (hi.run pins s σ H _ I h) fun iv s1 ⟨y, H1, I1, ry, q1⟩ => thn (ho.run pins s1 σ H1 _ I1 q1) fun u s2 ⟨x, H2, I2, rx, a, b, kvs, k, P, w, ex, ey, eP, ew, e, ok, kk, k8, q2⟩ => ?_
  subst ex ey eP ew
  obtain rfl : u = Value.ref a := rx
  obtain rfl : iv = Value.ref b := ry
  exact n_in (by show X.A.units + 1 + 8 < cLine; omega) I2 e ok.1 ok.2 kk k8 fun s3 I3 => ⟨.bl (nAt kvs k).isSome, H2, I3, rfl, q2⟩
theorem pc_nnotin (hu : X.A.units + 16 < cLine) (hi : PE X i ty) (ho : PE X o td) : PC X .NotIn i o (tNIn (X := X) (fun b => !b) ty td) := by
  refine ⟨fun pins s σ H Q I h => ?_⟩
  refine thn (hi.run pins s σ H _ I h) fun iv s1 ⟨y, H1, I1, ry, q1⟩ => thn (ho.run pins s1 σ H1 _ I1 q1) fun u s2 ⟨x, H2, I2, rx, a, b, kvs, k, P, w, ex, ey, eP, ew, e, ok, kk, k8, q2⟩ => ?_
  subst ex ey eP ew
  obtain rfl : u = Value.ref a := rx
  obtain rfl : iv = Value.ref b := ry
  exact n_notIn (by show X.A.units + 1 + 8 < cLine; omega) I2 e ok.1 ok.2 kk k8 fun s3 I3 => ⟨.bl (!(nAt kvs k).isSome), H2, I3, rfl, q2⟩
theorem ps_nput (hu : X.A.units + 16 < cLine) (ho : PE X o td) (hi : PE X i ty) (hv : PE X value tv) (hs : swapsWith value (some (.Subscript o i pos')) pos.line X.env = pure false) :
    PS X (.Assign [.Subscript o i pos'] value pos) (sNPut (X := X) td ty tv) := by
  refine ⟨fun pins s σ H D I h => ?_⟩
  refine wpAny_Assign_Subscript (thn (hv.run pins s σ H _ I h) fun r s1 ⟨v, H1, I1, rv, q1⟩ => thn (ho.run pins s1 σ H1 _ I1 q1) fun u s2 ⟨x, H2, I2, rx, q2⟩ => thn (hi.run pins s2 σ H2 _ I2 q2) fun iv s3 ⟨y, H3, I3, ry, a, b, kvs, k, P, w, ex, ey, eP, ew, e, ok, kk, k8, hl, q3⟩ => ?_) hs
  subst ex ey eP ew
  obtain rfl : u = Value.ref a := rx
  obtain rfl : iv = Value.ref b := ry
  exact n_setItem (by show X.A.units + 1 + 8 < cLine; omega) I3 e ok.1 ok.2 kk k8 hl rv fun s4 I4 => ⟨σ, _, I4, q3⟩
theorem dn_empty {P : Program} {w : World} {H : Hp} (h : Heap) (hb : sysModules < h.objs.size) : ObjOk P w H (h.push { cls := .type "dict", data := .dict #[] }) h.objs.size (dnO P w h.objs.size []) :=
  dn_ok (xs := []) (beq_eq_false_iff_ne.mpr (Ne.symm (Nat.ne_of_lt hb))) (Nat.zero_le _) .nil (Heap.DictOfH.new h)
def tNNew : TE := fun _ H Q => ∀ p, H p = none → Q (.ref p) (upd H p (dnO X.prog X.w p []))
theorem pe_nnew : PE X (.Dict [] [] pos) (tNNew (X := X)) := ⟨fun pins s σ H Q I h =>
  wpAny_Dict_empty ⟨.ref s.heap.objs.size, _, I.laid (a := s.heap.objs.size) (o := dnO X.prog X.w s.heap.objs.size []) (t' := s.toks) (fun _ _ q => Heap.get?_push_of_some _ q) (Nat.le_refl _) (dn_empty s.heap I.big), rfl, h _ (I.hok.fresh (Nat.le_refl _))⟩⟩
/-! list(d.values()) -/
def nvO (p a : Addr) : HO := .ext (fun h => h.get? p = some { cls := .type "dict_values", data := .fields #[.ref a] })
theorem nvO_ok {P : Program} {w : World} {H : Hp} {h : Heap} {p a : Addr} (e : h.get? p = some { cls := .type "dict_values", data := .fields #[.ref a] }) : ObjOk P w H h p (nvO p a) := ⟨e, ⟨_, e⟩, fun h1 h2 q k => k _ q⟩
def tNVals (td : TE) : TE := fun σ H Q => td σ H fun x H1 => ∃ a kvs P w, x = .ref a ∧ P = X.prog ∧ w = X.w ∧ H1 a = some (dnO P w a kvs) ∧ NOk X.K H1 kvs ∧ ∀ p, H1 p = none → Q (.ref p) (upd H1 p (nvO p a))
theorem pe_nvals (he : PE X e td) (hbase : attributeBase e "values" X.env (eval e X.env) = eval e X.env := by rfl) (hline : (apos.endLine == cpos.line) = true := by rfl) : PE X (.Call (.Attribute e "values" apos) [] [] cpos) (tNVals (X := X) td) := by
  refine ⟨fun pins s σ H R I h => ?_⟩
  refine wpAny_Call_method (T := "dict") (id := "dict.values") hbase rfl hline F.plainAttrs_dict F.slot_dict_values F.type_dict_values (thn (he.run pins s σ H _ I h) fun u s1 ⟨x, H1, I1, rx, a, kvs, P, w, ex, eP, ew, e0, ok, q⟩ => ?_)
  subst ex eP ew
  obtain rfl : u = Value.ref a := rx
  obtain ⟨hd, z, xs, rel, dd⟩ := dn_of I1 e0 ok.1 ok.2
  obtain ⟨es, ep, hraw, hsz, _⟩ := dd.raw
  refine ⟨dd.typeIs, fun b q => ?_, ?_⟩
  · cases q
    obtain ⟨ob, _, _, h1, h2, _⟩ := dd
    exact ⟨ob, h1, h2.2.1⟩
  show wpAny _ _ (callWith cpos (.builtin "dict.values") [.ref a] [] []) _ X.xe s1
  exact method_meetsIn F.slot_dict_values F.entry_dict_values rfl (PySem.evalArgs_none ⟨rfl, dd.typeIs, F.args_dict_values_1 _, _, meets_dict_values_raw a hd, ⟨es, ep, hraw⟩,
    ⟨.ref s1.heap.objs.size, _, I1.laid (t' := s1.toks) (fun b o q => Heap.get?_push_of_some _ q) (Nat.le_refl _) (nvO_ok (Heap.get?_push_size _ rfl)), rfl, q _ (I1.hok.fresh (Nat.le_refl _))⟩⟩)
theorem call_listN (hc : X.calm = true) : CallR X (.type "list") (fun xs H Q => ∃ r a kvs P w, xs = [V.ref r] ∧ P = X.prog ∧ w = X.w ∧ H r = some (nvO r a) ∧ H a = some (dnO P w a kvs) ∧ NOk X.K H kvs ∧ ∀ p, H p = none → Q (.ref p) (upd H p (.lst (kvs.map (·.2.2))))) := by
  intro pins s σ H xs us Q I r h
  obtain ⟨rr, a, kvs, P, w, rfl, eP, ew, hv, e0, ok, q⟩ := h
  subst eP ew
  obtain ⟨u, rfl, rx⟩ := r.one
  cases rx
  obtain ⟨hd, z, xs, rel, dd⟩ := dn_of I e0 ok.1 ok.2
  obtain ⟨es, ep, hraw, hsz, hent⟩ := dd.raw
  have hv' : s.heap.get? rr = some { cls := .type "dict_values", data := .fields #[.ref a] } := (show ObjOk X.prog X.w H s.heap rr (nvO rr a) from I.hok rr _ hv).1
  have hlen : kvs.length = xs.length := Paired.length rel
  refine PySem.W.kdl_call (KdlSrc.rawValues (r := rr) (d := a) (es := es) (ep := ep)) (I.ok.hd hc) ⟨⟨_, hv', rfl, rfl⟩, hraw⟩ (by omega) fun h' tk acc' c' kp e it => ?_
  have hl : acc'.toList.length = es.size := by rw [Array.length_toList, it.1]
  have rv : Vals (kvs.map (·.2.2)) acc'.toList := by
    refine vals_of_at (by rw [List.length_map, hl, hsz, hlen]) fun j x u hx hu => ?_
    rw [List.getElem?_map] at hx
    obtain ⟨ne, hne, rfl⟩ := Option.map_eq_some_iff.mp hx
    obtain ⟨hi, rfl⟩ := it.2 j u (by rw [← Array.getElem?_toList]; exact hu)
    obtain ⟨y, hy, _, hv2, _⟩ := hent j hi
    rw [hv2]
    exact kh_get rel hne hy
  exact ⟨.ref s.heap.objs.size, _, I.laid (t' := tk) (o := .lst (kvs.map (·.2.2))) kp (Nat.le_refl _) ⟨by rw [List.length_map]; omega, acc'.toList, c', rv, by rw [Array.toArray_toList]; exact e⟩, rfl, q _ (I.hok.fresh (Nat.le_refl _))⟩
end

/-! keys without texts: the same in each world -/
mutual
def nNum : NestedKey → Bool
  | .none => true
  | .num _ => true
  | .text _ => false
  | .tup ks => nNums ks
def nNums : List NestedKey → Bool
  | [] => true
  | k :: ks => nNum k && nNums ks
end
mutual
theorem hash_num (w w' : World) : ∀ k : NestedKey, nNum k = true → k.hash w = k.hash w'
  | .none, _ => rfl
  | .num _, _ => rfl
  | .text _, h => by cases h
  | .tup ks, h => by
    rw [nNum] at h
    rw [NestedKey.hash, NestedKey.hash, hashes_num w w' ks h]
theorem hashes_num (w w' : World) : ∀ ks : List NestedKey, nNums ks = true → NestedKey.hashes w ks = NestedKey.hashes w' ks
  | [], _ => rfl
  | k :: ks, h => by
    rw [nNums, Bool.and_eq_true] at h
    rw [NestedKey.hashes, NestedKey.hashes, hash_num w w' k h.1, hashes_num w w' ks h.2]
end
theorem kh_num : ∀ {kvs : List NE} {xs : List (NestedKey × Addr × Value)}, KH kvs xs → (∀ x ∈ kvs, nNum x.1 = true) → ∀ x ∈ xs, nNum x.1 = true
  | _, _, .nil, _ => fun _ h => by cases h
  | _, _, .cons h t, a => fun x hx => by
    rcases List.mem_cons.mp hx with e | hx
    · subst e; rw [← h.1]; exact a _ (by simp)
    · exact kh_num t (fun y hy => a y (by simp [hy])) x hx
theorem dnO_eq {P P' : Program} {w w' : World} {a : Addr} {kvs : List NE} (h : ∀ x ∈ kvs, nNum x.1 = true) : dnO P w a kvs = dnO P' w' a kvs := by
  have key : ∀ (P P' : Program) (w w' : World) h0, dnP P w a kvs h0 → dnP P' w' a kvs h0 := by
    rintro P P' w w' h0 ⟨h1, h2, xs, h3, o, es, ep, h4, h5, h6, h7, h9⟩
    refine ⟨h1, h2, xs, h3, o, es, ep, h4, h5, h6, ?_, h9⟩
    rw [h7]
    refine List.map_congr_left fun x hx => ?_
    show (⟨x.1.hash w, .ref x.2.1, x.2.2⟩ : DictEntry) = ⟨x.1.hash w', .ref x.2.1, x.2.2⟩
    rw [hash_num w w' _ (kh_num h3 h x hx)]
  unfold dnO
  congr 1
  funext h0
  exact propext ⟨key _ _ _ _ h0, key _ _ _ _ h0⟩
end Py
end
section
set_option Elab.async false
set_option linter.all false
set_option maxRecDepth 100000
/-! enumerate over a tuple -/
namespace Py
open PySem L2 PyProof.Rows
set_option maxHeartbeats 1000000 in
theorem meets_enumerate_newT (l : Addr) (items : Array Value) :
    Meets (Builtin.«enumerate.__new__» ⟨[.type "enumerate", .ref l], []⟩) (fun _ R s => s.heap.IsTuple l items ∧
      R (.ok (.ret (.ref (s.heap.push { cls := .type "tuple_iterator", data := .fields #[.ref l, .int 0 0] }).objs.size)))
        { s with heap := (s.heap.push { cls := .type "tuple_iterator", data := .fields #[.ref l, .int 0 0] }).push { cls := .type "enumerate", data := .fields #[.none, .bool false, .ref s.heap.objs.size, rawInt 0, .none, .none] } }) :=
  .of_wp fun prog w A R s h => by
    obtain ⟨hp, g, d, tk, os⟩ := s; obtain ⟨h1, h⟩ := h
    have hsub := sub_enumerate
    have q1 : ∀ {A' : Around} {E : Value → Shared → Prop} {Q : Value → Shared → Prop}, Q (.ref hp.objs.size) ⟨hp.push { cls := .type "tuple_iterator", data := .fields #[.ref l, .int 0 0] }, g, d, tk, os⟩ → wpAny (model prog w) A' (pyIter (.ref l)) Q E ⟨hp, g, d, tk, os⟩ :=
      fun q => wpAny_pyIter_tuple h1 q
    wp_walk using q1
    refine wpAny_stack_any fun st => wpAny_pure ?_
    split
    · rename_i c _ _ _ _ _
      cases (c == Value.type "enumerate")
      · wp_walk using q1
        exact ⟨_, rfl, h⟩
      · wp_walk using q1
        exact ⟨_, rfl, h⟩
    · wp_walk using q1
      exact ⟨_, rfl, h⟩
theorem call_enumerate_tuple {prog : Program} {w : World} {A : Around} {E : Value → Shared → Prop} {s : Shared} {l : Addr} {items : Array Value} {Q : Value → Shared → Prop} (hL : s.heap.IsTuple l items)
    (h : ∀ h', IsEnum h' (s.heap.objs.size + 1) s.heap.objs.size 0 .none → h'.IsTupleIter s.heap.objs.size l 0 → h'.objs.size = s.heap.objs.size + 2 →
      (∀ b o, s.heap.get? b = some o → h'.get? b = some o) → Q (.ref (s.heap.objs.size + 1)) { s with heap := h' }) :
    wpAny (model prog w) A (call (.type "enumerate") [.ref l]) Q E s := by
  refine callType_new F.called_enumerate (by decide) (F.typeCall_enumerate_1 _) (F.newCall_enumerate_1 _) (fun obj => F.args_object_init_2 obj _) F.entry_enumerate_new
    (meets_enumerate_newT l items) ⟨hL, ?_⟩
  have hz : (s.heap.push { cls := .type "tuple_iterator", data := .fields #[.ref l, .int 0 0] }).objs.size = s.heap.objs.size + 1 := Heap.size_push ..
  show _ ∧ _
  rw [hz]
  have he : IsEnum ((s.heap.push { cls := .type "tuple_iterator", data := .fields #[.ref l, .int 0 0] }).push
      { cls := .type "enumerate", data := .fields #[.none, .bool false, .ref s.heap.objs.size, rawInt 0, .none, .none] }) (s.heap.objs.size + 1) s.heap.objs.size 0 .none := by
    have := Heap.get?_push_size (s.heap.push { cls := .type "tuple_iterator", data := .fields #[.ref l, .int 0 0] })
      (o := { cls := .type "enumerate", data := .fields #[.none, .bool false, .ref s.heap.objs.size, rawInt 0, .none, .none] }) rfl
    rw [hz] at this; exact this
  refine ⟨⟨_, he, rfl⟩, h _ he ⟨_, Heap.get?_push_of_some _ (Heap.get?_push_size _ rfl), rfl, rfl⟩ (by rw [Heap.size_push, hz]) fun b o x => Heap.get?_push_of_some _ (Heap.get?_push_of_some _ x)⟩
theorem enum_endT {prog : Program} {w : World} {A : Around} {E : Value → Shared → Prop} {s : Shared} {e it l : Addr} {i : Nat} {items : Array Value} {old : Value} {Q : Option Value → Shared → Prop} (hh : A.handled = none)
    (he : IsEnum s.heap e it i old) (hit : s.heap.IsTupleIter it l i) (hl : s.heap.IsTuple l items) (hx : items[i]? = none)
    (hQ : ∀ h', Heap.ExtBut it s.heap h' → Q none { s with heap := h' }) : wpAny (model prog w) A (pyNext (.ref e)) Q E s := by
  have hT : s.TypeIs (.ref e) "enumerate" := ⟨_, he, rfl⟩
  unfold pyNext
  refine wpAny_bind (wpAny_attempt (wpAny_callSpecial?_slot (name := Str.ofString "__next__") hT F.slot_enumerate_next
    (wpAny_call_entry F.slot_enumerate_next hT F.entry_enumerate_next ?_ (F.args_enumerate_next_1 _))))
  show wpAny _ _ (field (.ref e) 2 >>= _) _ _ _
  refine wpAny_bind (wpAny_field he rfl (x := .ref it) rfl ?_)
  refine wpAny_bind (wpAny_nextOf_tuple_end (A := A.in1) hh hit hl hx fun h' x he' hx' => ?_)
  obtain ⟨o, ho, hc⟩ := hx'
  refine wpAny_bind (wpAny_isInstance (T := "StopIteration") (b := true) ⟨o, ho, hc⟩ isSubtype_stop ?_)
  exact wpAny_pure (hQ _ he')
def IteT (K : PySem.W.Frag) (a : Addr) : It :=
  ⟨fun i H => ∃ (xs : List V) (x : V), SqT K H a xs ∧ xs[i]? = some x, fun i H v H' => ∃ T x, v = .ref T ∧ H T = none ∧ H' = upd H T (.tup [.int (i : Nat), x]) ∧ ∀ xs, SqT K H a xs → xs[i]? = some x, fun i H => ∃ xs : List V, SqT K H a xs ∧ xs.length ≤ i⟩
theorem turn_enumT {P : Program} {w : World} {K : PySem.W.Frag} {elts : List Expr} {kk : Nat} {tpos : Pos} (a e it : Addr) (hat : a ≠ it) (hae : a ≠ e) :
    Turn P w K (.Tuple elts kk tpos) (IteT K a) [e, it] e (fun i h => (∃ old, IsEnum h e it ((i : Nat) : Int) old) ∧ h.IsTupleIter it a i ∧ e ≠ it) where
  mem := by simp
  obj := fun i h st b hb => by
    obtain ⟨⟨old, he⟩, ⟨o, ho, hc, hd⟩, _⟩ := st
    have e' : b = e ∨ b = it := by simpa using hb
    rcases e' with z | z
    · rw [z]; exact ⟨_, he, fun v q => nomatch q⟩
    · rw [z]; exact ⟨o, ho, fun v q => by rw [hd] at q; cases q⟩
  keep := fun i h h' st k => let ⟨⟨old, he⟩, hi, hne⟩ := st; ⟨⟨old, k e (by simp) _ he⟩, hi.at fun o q => k it (by simp) o q, hne⟩
  item := by
    intro X hP hw hK hc i pins s σ H E I hf st hg
    subst hP hw hK
    obtain ⟨⟨old, he⟩, hit, hne⟩ := st
    obtain ⟨xs, x, hq, hx⟩ := hg
    obtain ⟨its, rv, p, hz⟩ := I.tuple hq
    obtain ⟨u, hu, ru⟩ := rv.get hx
    have hel : e < s.heap.objs.size := Heap.lt_size he
    have hil : it < s.heap.objs.size := by obtain ⟨_, q, _⟩ := hit; exact Heap.lt_size q
    have hlt : i < its.toArray.size := by
      have := (List.getElem?_eq_some_iff.mp hu).1
      simpa using this
    refine wpAny_pyNext_enum_itemD (A := X.A) (Draws.tuple (A := X.A.in1) (I.ok.hd hc) it a hat its.toArray) he ⟨hit, p⟩ hlt hne (by simp; exact ⟨hne, fun z => hae z.symm⟩) fun x' h' tk hPx ho hst hT hsz hk => ?_
    obtain rfl : x' = u := by
      have : some x' = some u := by rw [← hPx, ← hu]; simp
      exact Option.some.inj this
    obtain ⟨hit', _⟩ := hst
    refine ⟨_, rfl, wpAny_letOwnedTupleGo_enum (s := { s with heap := h', toks := tk + 1 }) ho fun h'' he' sb => ?_⟩
    have hT2 : h''.get? s.heap.objs.size = some { cls := .type "tuple", data := .seq #[.int i tk, x'] } := (sb.2 _ (Nat.ne_of_gt hel)).trans hT
    have new : ObjOk X.prog X.w (upd H s.heap.objs.size (.tup [.int (i : Nat), x])) h'' s.heap.objs.size (.tup [.int (i : Nat), x]) :=
      ⟨by show 2 ≤ sizeLine; decide, [.int i tk, x'], .cons ⟨_, rfl⟩ (.cons ru .nil), ⟨_, hT2, rfl, _, rfl⟩⟩
    have I1 : Inv X pins σ (upd H s.heap.objs.size (.tup [.int (i : Nat), x])) { s with heap := h'', toks := tk + 1 } :=
      I.turnedNew (ch := [e, it]) (fun b ob hb q => (sb.2 b (fun z => hb (by simp [z]))).trans (hk b ob (fun z => hb (by simp [z])) (fun z => hb (by simp [z])) q)) hf (Nat.le_refl _) new
    refine ⟨.ref s.heap.objs.size, _, I1, rfl, ⟨_, x, rfl, I.hok.fresh (Nat.le_refl _), rfl, fun ys hy => by rw [I.tuple_inj hy hq]; exact hx⟩, ⟨⟨x', ?_⟩, hit'.at fun o q => (sb.2 it (Ne.symm hne)).trans q, hne⟩, fun b hb => ?_⟩
    · have e1 : ((i + 1 : Nat) : Int) = (i : Int) + 1 := by omega
      rw [e1]; exact he'
    · have hb' : b < s.heap.objs.size := by
        have e' : b = e ∨ b = it := by simpa using hb
        rcases e' with z | z
        · rw [z]; exact hel
        · rw [z]; exact hil
      rw [upd_ne (Nat.ne_of_lt hb')]
      exact (hf b hb).1
  done := by
    intro X hP hw hK hc i pins s σ H E I hf st hg
    subst hP hw hK
    obtain ⟨⟨old, he⟩, hit, hne⟩ := st
    obtain ⟨xs, hq, hx⟩ := hg
    obtain ⟨its, rv, p, hz⟩ := I.tuple hq
    obtain ⟨f0, f1, f2, f3, f4, f5⟩ := hf it (by simp)
    have hl := rv.length
    exact enum_endT (I.ok.hd hc) he hit p (by simp; omega) fun h' eb => ⟨rfl, I.turned (t' := s.toks) (fun b o hb q => eb b o hb q) f0 f1 f3 f4 f5⟩
  self := fun A i s Q E st h => let ⟨⟨_, he⟩, _⟩ := st; wpAny_pyIter_enum he h
def iEnumT (K : PySem.W.Frag) (ta : TA) : TI := fun σ H R => ta σ H fun vs H1 => ∃ a xs, vs = [.ref a] ∧ ((SqL K H1 a xs ∧ R (Ite K a) H1) ∨ (SqT K H1 a xs ∧ R (IteT K a) H1))

theorem pi_enumT {X : Cx} {e : Expr} {ta : TA} {p pos tpos : Pos} {elts : List Expr} {kk : Nat} (hg : Gl X "enumerate") (hm : X.mg "enumerate" = none) (ha : PA X [e] ta) (hs : starEach [e] X.env = [(false, eval e X.env)] := by rfl) :
    PI X (.Tuple elts kk tpos) (.Call (.Name "enumerate" p) [e] [] pos) (iEnumT X.K ta) := by
  refine ⟨fun pins s σ H R I h => ?_⟩
  refine Call_ (ld_blt I hg hm boot_enumerate (PyProof.Rows.callWith_type1 (thn (ha.run pos pins s σ H _ I h) fun us s1 ⟨vs, H1, I1, r1, q1⟩ => ?_) hs rfl))
  obtain ⟨a, xs, ex, q1⟩ := q1
  subst ex
  cases r1 with
  | cons r rr =>
    cases rr
    cases r
    have own : ∀ (b : Addr), (b = s1.heap.objs.size + 1 ∨ b = s1.heap.objs.size) → s1.heap.objs.size ≤ b := fun b e' => by
      rcases e' with z | z
      · rw [z]; exact Nat.le_add_right _ _
      · rw [z]; exact Nat.le_refl _
    rcases q1 with ⟨hq, q⟩ | ⟨hq, q⟩
    · obtain ⟨its, rv, p', hz⟩ := I1.list hq
      refine call_enumerate_list p'.isList fun h' he hit hsz hk => wpAny_pyIter_enum he ?_
      have I2 : Inv X pins σ H1 { s1 with heap := h' } := I1.kept (t' := s1.toks) hk
      refine ⟨s1.heap.objs.size + 1, [s1.heap.objs.size + 1, s1.heap.objs.size], _, _, H1, rfl, I2, turn_enum a (s1.heap.objs.size + 1) s1.heap.objs.size, ⟨⟨.none, he⟩, hit, Nat.succ_ne_self _⟩, fun b hb => ?_, q⟩
      have hle := own b (by simpa using hb)
      exact I1.fpOk hle (I1.hok.fresh hle)
    · obtain ⟨its, rv, p', hz⟩ := I1.tuple hq
      have hlt : a < s1.heap.objs.size := p'.lt
      refine call_enumerate_tuple p' fun h' he hit hsz hk => wpAny_pyIter_enum he ?_
      have I2 : Inv X pins σ H1 { s1 with heap := h' } := I1.kept (t' := s1.toks) hk
      refine ⟨s1.heap.objs.size + 1, [s1.heap.objs.size + 1, s1.heap.objs.size], _, _, H1, rfl, I2, turn_enumT a (s1.heap.objs.size + 1) s1.heap.objs.size (Nat.ne_of_lt hlt) (Nat.ne_of_lt (Nat.lt_succ_of_lt hlt)), ⟨⟨.none, he⟩, hit, Nat.succ_ne_self _⟩, fun b hb => ?_, q⟩
      have hle := own b (by simpa using hb)
      exact I1.fpOk hle (I1.hok.fresh hle)
theorem walk_enumT {K : PySem.W.Frag} {a : Addr} {xs : List V} : Walk (IteT K a) xs.length (fun H => SqT K H a xs) (YPair (fun i => some (.int (i : Nat))) (fun i => xs[i]?)) := by
  refine ⟨fun i _ hi q => ⟨xs, xs[i], q, by simp [hi]⟩, fun _ q => ⟨xs, q, Nat.le_refl _⟩, fun i H v H' _ q y => ?_⟩
  obtain ⟨T, x, h1, h2, h3, h4⟩ := y
  exact ⟨T, .int (i : Nat), x, h1, h2, h3, rfl, h4 xs q⟩
end Py
end
section
set_option linter.all false
namespace Py
open PySem L2 PySem.W PyProof.Rows
def ltP (p q : Int × Int) : Bool := decide (p.1 < q.1) || (decide (p.1 = q.1) && decide (p.2 < q.2))
def pD (p : Int × Int) : PyData := .tuple [.int p.1, .int p.2]
theorem dataLt_pair (p q : Int × Int) : dataLt (pD p) (pD q) = ltP p q := by
  have b : ∀ i j : Int, itemOrd.blt (.inl i) (.inl j) = decide (i < j) := fun _ _ => rfl
  show lexLt itemOrd [.inl 1, .inl p.1, .inl 1, .inl p.2, .inl 0] [.inl 1, .inl q.1, .inl 1, .inl q.2, .inl 0] = ltP p q
  unfold ltP
  have c : ∀ i j : Int, itemLt (.inl i) (.inl j) = decide (i < j) := fun _ _ => rfl
  simp only [PyProof.Rows.lexLt, c]
  by_cases h1 : p.1 < q.1
  · simp [h1, c]
  · by_cases h2 : q.1 < p.1
    · have : ¬ p.1 = q.1 := by omega
      simp [h1, h2, this, c]
    · have e : p.1 = q.1 := by omega
      by_cases h3 : p.2 < q.2 <;> simp [e, h3, c]
theorem alike_pair (p q : Int × Int) : alike (pD p) (pD q) = true := by
  simp [pD, alike, alikeAll]

def minP : Int × Int → List (Int × Int) → Int × Int
  | p, ps => ps.foldl (fun a y => if ltP y a then y else a) p
theorem minD_pairs (p : Int × Int) : ∀ ps : List (Int × Int), minD (pD p) (ps.map pD) = pD (minP p ps) := by
  intro ps
  unfold minD minP
  induction ps generalizing p with
  | nil => rfl
  | cons q qs ih =>
    simp only [List.map_cons, List.foldl_cons, dataLt_pair]
    by_cases h : ltP q p
    · simp only [if_pos h]; exact ih q
    · simp only [if_neg h]; exact ih p
theorem pD_inj {p q : Int × Int} (h : pD p = pD q) : p = q := by
  unfold pD at h
  injection h with h
  injection h with h1 h2
  injection h2 with h2 _
  injection h1 with h1
  injection h2 with h2
  exact Prod.ext h1 h2
theorem alikeAll_pairs (ps : List (Int × Int)) : AlikeAll (ps.map pD) := by
  refine ⟨fun x hx y hy => ?_, fun x hx => ?_⟩
  · obtain ⟨p, _, rfl⟩ := List.mem_map.mp hx
    obtain ⟨q, _, rfl⟩ := List.mem_map.mp hy
    exact alike_pair p q
  · obtain ⟨p, _, rfl⟩ := List.mem_map.mp hx
    unfold pD; exact fun h => nomatch h
theorem depth_pairs : ∀ ps : List (Int × Int), PyData.depthAll (ps.map pD) ≤ 3
  | [] => by simp [PyData.depthAll]
  | p :: ps => by
    have := depth_pairs ps
    simp only [List.map_cons, PyData.depthAll, pD, PyData.depth] at this ⊢
    omega
def PairsV (K : PySem.W.Frag) (H : Hp) : List V → List (Int × Int) → Prop := Paired fun v p => ∃ t, v = .ref t ∧ SqT K H t [.int p.1, .int p.2]
theorem pairs_dp {K : PySem.W.Frag} {H : Hp} : ∀ {vs : List V} {ps : List (Int × Int)}, PairsV K H vs ps → DpAll K H vs (ps.map pD)
  | _, _, .nil => .nil
  | _, _, .cons ⟨t, e, h⟩ r => by
    subst e
    exact .cons (.tup h (.cons (.int _) (.cons (.int _) .nil))) (pairs_dp r)
def rMinP (K : PySem.W.Frag) : List V → Hp → VK → Prop := fun vs H Q => ∃ (a : Addr) (xs : List V) (p : Int × Int) (ps : List (Int × Int)), vs = [.ref a] ∧ SqL K H a xs ∧ PairsV K H xs (p :: ps) ∧ ∀ (v : V) (i : Nat), xs[i]? = some v → (p :: ps)[i]? = some (minP p ps) → Q v H
theorem cr_minP {X : Cx} (hc : X.calm = true) (hu : X.A.units + 16 < cLine) : CallR X (.builtin "min") (rMinP X.K) := by
  intro pins s σ H vs us Q I rv h
  obtain ⟨a, xs, p, ps, rfl, hq, hp, q⟩ := h
  obtain ⟨u, rfl, rx⟩ := rv.one
  cases rx
  obtain ⟨its, r1, hpl, hz⟩ := I.list hq
  obtain ⟨as, hr⟩ := Dp.readsAll I _ _ _ (pairs_dp hp) r1
  refine min_list_data (vs := its.toArray) (x := pD p) (xs := ps.map pD) (as := as) (I.ok.hd hc) hpl.isList (by simpa using hr) (alikeAll_pairs (p :: ps)) ?_ fun i v h' tk bs hv hrd hk => ?_
  · have := depth_pairs (p :: ps)
    simp only [List.map_cons] at this
    omega
  · have I1 : Inv X pins σ H { s with heap := h', toks := tk } := I.kept (t' := tk) hk
    have hv' : its[i]? = some v := by simpa using hv
    have hi : i < its.length := (List.getElem?_eq_some_iff.mp hv').1
    have hix : i < xs.length := by rw [r1.length]; exact hi
    have hlen : xs.length = (p :: ps).length := Paired.length hp
    obtain ⟨u', e1, e2⟩ := r1.get (List.getElem?_eq_getElem hix)
    rw [hv'] at e1; cases e1
    refine ⟨xs[i], H, I1, e2, q _ i (List.getElem?_eq_getElem hix) ?_⟩
    have hip : i < (p :: ps).length := by omega
    rw [List.getElem?_eq_getElem hip]
    congr 1
    obtain ⟨bs', r2, _, _, _⟩ := readsAll_atA (vs := its.toArray) (xs := (p :: ps).map pD) (by simpa using hr) i v (by simpa using hv')
    have e3 : ((p :: ps).map pD).getD i .none = pD (p :: ps)[i] := by
      rw [List.getD_eq_getElem?_getD, List.getElem?_map, List.getElem?_eq_getElem hip]
      rfl
    rw [e3] at r2
    rw [minD_pairs] at hrd
    exact pD_inj (PySem.Reads.unique (reads_keeps hk r2) _ _ hrd).1
end Py
end
section
set_option Elab.async false
set_option linter.all false
set_option maxRecDepth 100000
/-! zip of a tuple and a list -/
namespace RZ
open PySem PySem.Spec PyProof.Rows L2
/-- the tuple at a and the list at b as they stand at each turn -/
def ItzM (K : PySem.W.Frag) (a b : Addr) : It :=
  ⟨fun i H => ∃ (xs ys : List V) (x y : V), SqT K H a xs ∧ SqL K H b ys ∧ xs[i]? = some x ∧ ys[i]? = some y,
    fun i H v H' => ∃ T x y, v = .ref T ∧ H T = none ∧ H' = upd H T (.tup [x, y]) ∧ (∀ xs, SqT K H a xs → xs[i]? = some x) ∧ ∀ ys, SqL K H b ys → ys[i]? = some y,
    fun i H => ∃ xs ys : List V, SqT K H a xs ∧ SqL K H b ys ∧ (i = xs.length ∧ i ≤ ys.length ∨ i ≤ xs.length ∧ i = ys.length)⟩
theorem turn_zipM {P : Program} {w : World} {K : PySem.W.Frag} {elts : List Expr} {kk : Nat} {tpos : Pos} {a b z TI TO i1 i2 : Addr} (D : ZipSep2 z TI TO i1 i2 [i1, a] [i2, b]) (n1 : a ≠ i1) (n2 : b ≠ i2) :
    Turn P w K (.Tuple elts kk tpos) (ItzM K a b) [z, TI, TO, i1, i2] z (fun i h => IsZip h z TI TO .none ∧ IsTupOf2 h TI (.ref i1) (.ref i2) ∧ (∃ x y, IsTupOf2 h TO x y) ∧ h.IsTupleIter i1 a i ∧ h.IsListIter i2 b i) where
  mem := by simp
  obj := fun i h st c hc => by
    obtain ⟨hz, hTI, ⟨x, y, hTO⟩, ⟨o1, e1, _, d1⟩, ⟨o2, e2, _, d2⟩⟩ := st
    have e' : c = z ∨ c = TI ∨ c = TO ∨ c = i1 ∨ c = i2 := by simpa using hc
    rcases e' with q | q | q | q | q
    · rw [q]; exact ⟨_, hz, fun v q => nomatch q⟩
    · rw [q]; exact ⟨_, hTI, fun v q => nomatch q⟩
    · rw [q]; exact ⟨_, hTO, fun v q => nomatch q⟩
    · rw [q]; exact ⟨o1, e1, fun v q => by rw [d1] at q; cases q⟩
    · rw [q]; exact ⟨o2, e2, fun v q => by rw [d2] at q; cases q⟩
  keep := fun i h h' st k => by
    obtain ⟨hz, hTI, ⟨x, y, hTO⟩, h1, h2⟩ := st
    exact ⟨k z (by simp) _ hz, k TI (by simp) _ hTI, ⟨x, y, k TO (by simp) _ hTO⟩, h1.at fun o q => k i1 (by simp) o q, h2.at fun o q => k i2 (by simp) o q⟩
  item := by
    intro X hP hw hK hc i pins s σ H E I hf st hg
    subst hP hw hK
    obtain ⟨hz, hTI, ⟨x0, y0, hTO⟩, h1, h2⟩ := st
    obtain ⟨xs, ys, x, y, hqx, hqy, hx, hy⟩ := hg
    obtain ⟨its, rv, p, _⟩ := I.tuple hqx
    obtain ⟨its2, rv2, p2, _⟩ := I.list hqy
    obtain ⟨u, hu, ru⟩ := rv.get hx
    obtain ⟨u2, hu2, ru2⟩ := rv2.get hy
    have hzl : z < s.heap.objs.size := Heap.lt_size hz
    have hA : X.A.in1.handled = none := I.ok.hd hc
    have l1 : i < its.toArray.size := by have := (List.getElem?_eq_some_iff.mp hu).1; simpa using this
    have l2 : i < its2.toArray.size := by have := (List.getElem?_eq_some_iff.mp hu2).1; simpa using this
    have p' : s.heap.IsTuple a its.toArray := p
    refine wpAny_pyNext_zipD2_item D (Draws.tuple hA i1 a n1 its.toArray) (Draws.list hA i2 b n2 its2.toArray) hz hTI hTO ⟨h1, p'⟩ ⟨h2, p2.isList⟩ l1 l2 fun v1 v2 h' tk g1 g2 z' TO' st1 st2 hT hsz hk => ?_
    have gu : v1 = u := by
      have : its[i]? = some v1 := by simpa using g1
      rw [hu] at this; cases this; rfl
    have gu2 : v2 = u2 := by
      have : its2[i]? = some v2 := by simpa using g2
      rw [hu2] at this; cases this; rfl
    subst gu gu2
    obtain ⟨h1', _⟩ := st1
    obtain ⟨h2', _⟩ := st2
    refine ⟨_, rfl, wpAny_letOwnedTupleGo_zip (s := { s with heap := h', toks := tk }) z' fun h'' z'' sb => ?_⟩
    have hT2 : h''.get? s.heap.objs.size = some { cls := .type "tuple", data := .seq #[v1, v2] } := (sb.2 _ (Nat.ne_of_gt hzl)).trans hT
    have new : ObjOk X.prog X.w (upd H s.heap.objs.size (.tup [x, y])) h'' s.heap.objs.size (.tup [x, y]) :=
      ⟨by show 2 ≤ sizeLine; decide, [v1, v2], .cons ru (.cons ru2 .nil), ⟨_, hT2, rfl, _, rfl⟩⟩
    have I1 : Inv X pins σ (upd H s.heap.objs.size (.tup [x, y])) { s with heap := h'', toks := tk } :=
      I.turnedNew (t' := tk) (ch := [z, TI, TO, i1, i2]) (fun c o hb q => (sb.2 c (fun q' => hb (by simp [q']))).trans (hk c o (fun q' => hb (by simp [q'])) (fun q' => hb (by simp [q'])) (fun q' => hb (by simp [q'])) (fun q' => hb (by simp [q'])) q)) hf (Nat.le_refl _) new
    refine ⟨.ref s.heap.objs.size, _, I1, rfl, ⟨_, x, y, rfl, I.hok.fresh (Nat.le_refl _), rfl, fun l hl => by rw [I.tuple_inj hl hqx]; exact hx, fun l hl => by rw [I.list_inj hl hqy]; exact hy⟩, ⟨z'', ?_, ⟨v1, v2, ?_⟩, ?_, ?_⟩, fun c hcm => ?_⟩
    · exact (sb.2 _ D.TIz).trans (hk _ _ D.TIz D.TITO D.TIi1 D.TIi2 hTI)
    · exact (sb.2 _ D.TOz).trans TO'
    · exact h1'.at fun o q => (sb.2 _ D.zi1.symm).trans q
    · exact h2'.at fun o q => (sb.2 _ D.zi2.symm).trans q
    · have hlt : c < s.heap.objs.size := by
        have e' : c = z ∨ c = TI ∨ c = TO ∨ c = i1 ∨ c = i2 := by simpa using hcm
        rcases e' with q | q | q | q | q
        · rw [q]; exact hzl
        · rw [q]; exact Heap.lt_size hTI
        · rw [q]; exact Heap.lt_size hTO
        · rw [q]; obtain ⟨_, e1, _⟩ := h1; exact Heap.lt_size e1
        · rw [q]; obtain ⟨_, e2, _⟩ := h2; exact Heap.lt_size e2
      rw [upd_ne (Nat.ne_of_lt hlt)]
      exact (hf c hcm).1
  done := by
    intro X hP hw hK hc i pins s σ H E I hf st hg
    subst hP hw hK
    obtain ⟨hz, hTI, ⟨x0, y0, hTO⟩, h1, h2⟩ := st
    obtain ⟨xs, ys, hqx, hqy, hend⟩ := hg
    obtain ⟨its, rv, p, _⟩ := I.tuple hqx
    obtain ⟨its2, rv2, p2, _⟩ := I.list hqy
    have l1 := rv.length
    have l2 := rv2.length
    have hA : X.A.in1.handled = none := I.ok.hd hc
    have p' : s.heap.IsTuple a its.toArray := p
    have s1 : its.toArray.size = its.length := by simp
    have s2 : its2.toArray.size = its2.length := by simp
    exact wpAny_pyNext_zipD2_end D (Draws.tuple hA i1 a n1 its.toArray) (Draws.list hA i2 b n2 its2.toArray) hz hTI hTO ⟨h1, p'⟩ ⟨h2, p2.isList⟩ (by rw [s1]; omega) (by rw [s2]; omega) (by rw [s1, s2]; omega) fun h' tk hk => ⟨rfl, I.turnedL (t' := tk) (ch := [z, TI, TO, i1, i2]) (fun c o hb q =>
      hk c o (fun q' => hb (by simp [q'])) (fun q' => hb (by simp [q'])) (fun q' => hb (by simp [q'])) (fun q' => hb (by simp [q'])) q) hf⟩
  self := fun A i s Q E st h => wpAny_pyIter_zip st.1 h
def iZipM (K : PySem.W.Frag) (ta : TA) : TI := fun σ H R => ta σ H fun vs H1 => ∃ a b xs ys, vs = [.ref a, .ref b] ∧ SqT K H1 a xs ∧ SqL K H1 b ys ∧ R (ItzM K a b) H1
theorem pi_zipM {X : Cx} {e e2 : Expr} {ta : TA} {p pos tpos : Pos} {elts : List Expr} {kk : Nat} (hg : Gl X "zip") (hm : X.mg "zip" = none) (ha : PA X [e, e2] ta)
    (hs : starEach [e, e2] X.env = (false, eval e X.env) :: starEach [e2] X.env := by rfl) (hpl : (backTo pos (starEach [e2] X.env)).any (·.1) = false := by rfl) :
    PI X (.Tuple elts kk tpos) (.Call (.Name "zip" p) [e, e2] [] pos) (iZipM X.K ta) := by
  refine ⟨fun pins s σ H R I h => ?_⟩
  refine Call_ (ld_blt I hg hm PyProof.Rows.boot_zip (PyProof.Rows.callWith_type1 (thn (ha.run pos pins s σ H _ I h) fun us s1 ⟨vs, H1, I1, r1, q1⟩ => ?_) hs hpl))
  obtain ⟨a, b, xs, ys, ex, hqx, hqy, q⟩ := q1
  subst ex
  cases r1 with
  | cons r rr =>
    cases rr with
    | cons r' rr =>
      cases rr
      cases r
      cases r'
      obtain ⟨its, rv, p1, _⟩ := I1.tuple hqx
      obtain ⟨its2, rv2, p2, _⟩ := I1.list hqy
      obtain ⟨o1, ho1, _⟩ := id p1
      have p1' : s1.heap.IsTuple a its.toArray := p1
      refine zip_begins2 (begins_tuple a its.toArray) (begins_list b its2.toArray) p1' p2.isList fun h' hz hTI hTO g1 g2 hsz hk => wpAny_pyIter_zip hz ?_
      have I2 : Inv X pins σ H1 { s1 with heap := h' } := I1.kept (t' := s1.toks) hk
      have la : a < s1.heap.objs.size := Heap.lt_size ho1
      have lb : b < s1.heap.objs.size := p2.lt
      refine ⟨s1.heap.objs.size + 4, [s1.heap.objs.size + 4, s1.heap.objs.size + 2, s1.heap.objs.size + 3, s1.heap.objs.size, s1.heap.objs.size + 1], _, _, H1, rfl, I2, turn_zipM (zip_sep2 (by simpa using la) (by simpa using lb)) (Nat.ne_of_lt la) (Nat.ne_of_lt (Nat.lt_succ_of_lt lb)), ⟨hz, hTI, ⟨_, _, hTO⟩, ⟨_, g1, rfl, rfl⟩, ⟨_, g2, rfl, rfl⟩⟩, fun c hcm => ?_, q⟩
      have e' : c = s1.heap.objs.size + 4 ∨ c = s1.heap.objs.size + 2 ∨ c = s1.heap.objs.size + 3 ∨ c = s1.heap.objs.size ∨ c = s1.heap.objs.size + 1 := by simpa using hcm
      have hle : s1.heap.objs.size ≤ c := by
        rcases e' with z | z | z | z | z
        · rw [z]; exact Nat.le_add_right _ _
        · rw [z]; exact Nat.le_add_right _ _
        · rw [z]; exact Nat.le_add_right _ _
        · rw [z]; exact Nat.le_refl _
        · rw [z]; exact Nat.le_add_right _ _
      exact I1.fpOk hle (I1.hok.fresh hle)
end RZ
end
section
set_option Elab.async false
set_option linter.all false
namespace Py
open PySem L2
/-! ### data, and what stands for it in a heap -/
/-- data: lst a list that stands still, scr one that is locked or written, mr the i-th living list -/
inductive D where
  | non | bl (b : Bool) | int (i : Int) | str (s : Str) | tup (ds : List D) | lst (ds : List D) | scr (ds : List D) | mr (i : Nat) | rg (lo hi : Int)
section
variable (K : PySem.W.Frag) (F : Hp) (ρ : List Addr)
mutual
inductive Dr : V → D → Prop
  | non : Dr .non .non
  | bl (b : Bool) : Dr (.bl b) (.bl b)
  | int (i : Int) : Dr (.int i) (.int i)
  | str (x : Str) : Dr (.str x) (.str x)
  | tup {a : Addr} {xs : List V} {ds : List D} : SqT K F a xs → DrL xs ds → Dr (.ref a) (.tup ds)
  | lst {a : Addr} {xs : List V} {ds : List D} : F a = some (.lst xs) → DrL xs ds → Dr (.ref a) (.lst ds)
  | scr {a : Addr} {xs : List V} {ds : List D} : SqL K F a xs → DrL xs ds → Dr (.ref a) (.scr ds)
  | mr {i : Nat} {a : Addr} : ρ[i]? = some a → Dr (.ref a) (.mr i)
  | rg {a : Addr} {lo hi : Int} : F a = some (.rng lo hi) → Dr (.ref a) (.rg lo hi)
inductive DrL : List V → List D → Prop
  | nil : DrL [] []
  | cons {v : V} {vs : List V} {d : D} {ds : List D} : Dr v d → DrL vs ds → DrL (v :: vs) (d :: ds)
end
end
theorem same_t {K : PySem.W.Frag} {H H' : Hp} {a : Addr} {xs : List V} (e : Same H H') (h : SqT K H a xs) : SqT K H' a xs := by
  rcases h with (h | ⟨o, h⟩) | h
  · exact .inl (.inl (e _ _ h))
  · exact .inl (.inr ⟨o, e _ _ h⟩)
  · exact .inr h
section
variable {K : PySem.W.Frag} {F F' : Hp} {ρ ρ' : List Addr}
mutual
theorem Dr.mono (hF : Same F F') (hρ : ∀ (i : Nat) (a : Addr), ρ[i]? = some a → ρ'[i]? = some a) : ∀ (d : D) (v : V), Dr K F ρ v d → Dr K F' ρ' v d
  | .non, _, h => by cases h; exact .non
  | .bl _, _, h => by cases h; exact .bl _
  | .int _, _, h => by cases h; exact .int _
  | .str _, _, h => by cases h; exact .str _
  | .tup ds, _, h => by
    cases h with
    | tup a b => exact .tup (same_t hF a) (DrL.mono hF hρ ds _ b)
  | .lst ds, _, h => by
    cases h with
    | lst a b => exact .lst (hF _ _ a) (DrL.mono hF hρ ds _ b)
  | .scr ds, _, h => by
    cases h with
    | scr a b => exact .scr (hF.seq a) (DrL.mono hF hρ ds _ b)
  | .mr i, _, h => by
    cases h with
    | mr a => exact .mr (hρ _ _ a)
  | .rg _ _, _, h => by
    cases h with
    | rg a => exact .rg (hF _ _ a)
theorem DrL.mono (hF : Same F F') (hρ : ∀ (i : Nat) (a : Addr), ρ[i]? = some a → ρ'[i]? = some a) : ∀ (ds : List D) (vs : List V), DrL K F ρ vs ds → DrL K F' ρ' vs ds
  | [], _, h => by cases h; exact .nil
  | d :: ds, _, h => by
    cases h with
    | cons a b => exact .cons (Dr.mono hF hρ d _ a) (DrL.mono hF hρ ds _ b)
end
theorem DrL.length : ∀ {vs : List V} {ds : List D}, DrL K F ρ vs ds → vs.length = ds.length
  | [], [], _ => rfl
  | _ :: _, _ :: _, .cons _ t => congrArg (· + 1) (DrL.length t)
theorem DrL.get : ∀ {vs : List V} {ds : List D} {i : Nat} {d : D}, DrL K F ρ vs ds → ds[i]? = some d → ∃ v, vs[i]? = some v ∧ Dr K F ρ v d
  | [], [], _, _, _, e => by simp at e
  | _ :: _, _ :: _, 0, d, .cons a _, e => by simp at e; subst e; exact ⟨_, rfl, a⟩
  | _ :: _, _ :: _, i + 1, d, .cons _ b, e => by
    obtain ⟨v, h1, h2⟩ := DrL.get (i := i) b (by simpa using e)
    exact ⟨v, by simpa using h1, h2⟩
theorem DrL.getV : ∀ {vs : List V} {ds : List D} {i : Nat} {v : V}, DrL K F ρ vs ds → vs[i]? = some v → ∃ d, ds[i]? = some d ∧ Dr K F ρ v d
  | [], [], _, _, _, e => by simp at e
  | _ :: _, _ :: _, 0, d, .cons a _, e => by simp at e; subst e; exact ⟨_, rfl, a⟩
  | _ :: _, _ :: _, i + 1, d, .cons _ b, e => by
    obtain ⟨v, h1, h2⟩ := DrL.getV (i := i) b (by simpa using e)
    exact ⟨v, by simpa using h1, h2⟩
theorem DrL.append : ∀ {vs ws : List V} {ds es : List D}, DrL K F ρ vs ds → DrL K F ρ ws es → DrL K F ρ (vs ++ ws) (ds ++ es)
  | [], _, [], _, _, h => h
  | _ :: _, _, _ :: _, _, .cons a b, h => .cons a (DrL.append b h)
theorem DrL.take : ∀ {vs : List V} {ds : List D} (n : Nat), DrL K F ρ vs ds → DrL K F ρ (vs.take n) (ds.take n)
  | _, _, 0, _ => by simpa using DrL.nil
  | [], [], _ + 1, _ => .nil
  | _ :: _, _ :: _, n + 1, .cons a b => .cons a (DrL.take n b)
theorem DrL.drop : ∀ {vs : List V} {ds : List D} (n : Nat), DrL K F ρ vs ds → DrL K F ρ (vs.drop n) (ds.drop n)
  | _, _, 0, h => h
  | [], [], _ + 1, _ => .nil
  | _ :: _, _ :: _, n + 1, .cons _ b => DrL.drop n b
theorem DrL.set : ∀ {vs : List V} {ds : List D} {v : V} {d : D} (i : Nat), DrL K F ρ vs ds → Dr K F ρ v d → DrL K F ρ (vs.set i v) (ds.set i d)
  | [], [], _, _, 0, _, _ => .nil
  | [], [], _, _, _ + 1, _, _ => .nil
  | _ :: _, _ :: _, _, _, 0, .cons _ b, h => .cons h b
  | _ :: _, _ :: _, _, _, i + 1, .cons a b, h => .cons a (DrL.set i b h)
theorem DrL.ints : ∀ (ns : List Int), DrL K F ρ (ns.map V.int) (ns.map D.int)
  | [] => .nil
  | n :: ns => .cons (.int n) (DrL.ints ns)
end
/-! ### the living lists, the slots -/
abbrev Store := List (List D)
inductive SV where
  | own (ds : List D) | val (d : D) | dct (kvs : List (NestedKey × D))
abbrev Env := List (Option SV)
structure Cells (K : PySem.W.Frag) (F H : Hp) (ρ : List Addr) (μ : Store) : Prop where
  len : ρ.length = μ.length
  nd : ∀ (i j : Nat) (a : Addr), ρ[i]? = some a → ρ[j]? = some a → i = j
  at_ : ∀ (i : Nat) (a : Addr) (ds : List D), ρ[i]? = some a → μ[i]? = some ds → F a = none ∧ ∃ xs, H a = some (.lst xs) ∧ DrL K F ρ xs ds
mutual
theorem NKey.mono {K : PySem.W.Frag} {F F' : Hp} (hF : Same F F') : ∀ (k : NestedKey) (v : V), NKey K F k v → NKey K F' k v
  | .none, _, h => by cases h; exact .none
  | .num _, _, h => by cases h; exact .num _
  | .text _, _, h => by cases h; exact .text _
  | .tup ks, _, h => by
    cases h with
    | tup h1 h2 => exact .tup (same_t hF h1) (NKeys.mono hF ks _ h2)
theorem NKeys.mono {K : PySem.W.Frag} {F F' : Hp} (hF : Same F F') : ∀ (ks : List NestedKey) (vs : List V), NKeys K F ks vs → NKeys K F' ks vs
  | [], _, h => by cases h; exact .nil
  | k :: ks, _, h => by
    cases h with
    | cons h1 h2 => exact .cons (NKey.mono hF k _ h1) (NKeys.mono hF ks _ h2)
end
/-- a dict's entries -/
def KD (K : PySem.W.Frag) (F : Hp) (ρ : List Addr) : List NE → List (NestedKey × D) → Prop := Paired fun p q => p.1 = q.1 ∧ NKey K F p.1 (.ref p.2.1) ∧ p.1.depth ≤ 8 ∧ nNum p.1 = true ∧ Dr K F ρ p.2.2 q.2
theorem KD.mono {K : PySem.W.Frag} {F F' : Hp} {ρ ρ' : List Addr} (hF : Same F F') (hρ : ∀ (i : Nat) (a : Addr), ρ[i]? = some a → ρ'[i]? = some a) : ∀ {ps : List NE} {qs : List (NestedKey × D)}, KD K F ρ ps qs → KD K F' ρ' ps qs
  | _, _, .nil => .nil
  | _, _, .cons ⟨h1, h2, h3, h4, h5⟩ t => .cons ⟨h1, NKey.mono hF _ _ h2, h3, h4, Dr.mono hF hρ _ _ h5⟩ (KD.mono hF hρ t)
theorem KD.num {K : PySem.W.Frag} {F : Hp} {ρ : List Addr} : ∀ {ps : List NE} {qs : List (NestedKey × D)}, KD K F ρ ps qs → ∀ x ∈ ps, nNum x.1 = true
  | _, _, .nil => fun _ h => by cases h
  | _, _, .cons h t => fun x hx => by
    rcases List.mem_cons.mp hx with e | hx
    · subst e; exact h.2.2.2.1
    · exact KD.num t x hx
theorem KD.ok {K : PySem.W.Frag} {F H : Hp} {ρ : List Addr} (fh : Same F H) : ∀ {ps : List NE} {qs : List (NestedKey × D)}, KD K F ρ ps qs → NOk K H ps
  | _, _, .nil => ⟨(fun _ h => by cases h), fun _ h => by cases h⟩
  | _, _, .cons h t => by
    refine ⟨fun x hx => ?_, fun x hx => ?_⟩
    · rcases List.mem_cons.mp hx with e | hx
      · subst e; exact NKey.mono fh _ _ h.2.1
      · exact (KD.ok fh t).1 x hx
    · rcases List.mem_cons.mp hx with e | hx
      · subst e; exact h.2.2.1
      · exact (KD.ok fh t).2 x hx
/-- B: the heap at the def's entry, which own lists stand outside of -/
def SVr (K : PySem.W.Frag) (B F H : Hp) (ρ : List Addr) (v : V) : SV → Prop
  | .val d => Dr K F ρ v d
  | .own ds => ∃ a xs, v = .ref a ∧ H a = some (.lst xs) ∧ DrL K F ρ xs ds ∧ F a = none ∧ a ∉ ρ ∧ B a = none
  | .dct kvs => ∃ a nes P w, v = .ref a ∧ H a = some (dnO P w a nes) ∧ KD K F ρ nes kvs ∧ F a = none ∧ a ∉ ρ ∧ B a = none
structure EnvR (K : PySem.W.Frag) (B F H : Hp) (ρ : List Addr) (σ : L2.St) (env : Env) : Prop where
  len : σ.length = env.length
  at_ : ∀ (i : Nat) (sv : SV), env[i]? = some (some sv) → ∃ v, σ[i]? = some (some v) ∧ SVr K B F H ρ v sv
  apart : ∀ (i j : Nat) (ds es : List D) (a : Addr), env[i]? = some (some (.own ds)) → env[j]? = some (some (.own es)) → σ[i]? = some (some (.ref a)) → σ[j]? = some (some (.ref a)) → i = j
  apd : ∀ (i j : Nat) (ds es : List (NestedKey × D)) (a : Addr), env[i]? = some (some (.dct ds)) → env[j]? = some (some (.dct es)) → σ[i]? = some (some (.ref a)) → σ[j]? = some (some (.ref a)) → i = j
structure Ext (F H : Hp) (ρ : List Addr) (F' H' : Hp) (ρ' : List Addr) : Prop where
  ff : Same F F'
  hh : ∀ a o, H a = some o → a ∉ ρ → H' a = some o
  dm : ∀ a, H a ≠ none → H' a ≠ none
  new : ∀ a, F a = none → F' a ≠ none → H a = none
  rr : ∀ (i : Nat) (a : Addr), ρ[i]? = some a → ρ'[i]? = some a
  rn : ∀ a ∈ ρ', a ∈ ρ ∨ H a = none
structure SR (K : PySem.W.Frag) (B F H : Hp) (ρ : List Addr) (σ : L2.St) (env : Env) (μ : Store) : Prop where
  fh : Same F H
  cells : Cells K F H ρ μ
  env : EnvR K B F H ρ σ env
section
variable {K : PySem.W.Frag} {B F H F' H' F'' H'' : Hp} {ρ ρ' ρ'' : List Addr} {σ : L2.St} {env : Env} {μ μ' : Store}
theorem Ext.refl : Ext F H ρ F H ρ := ⟨Same.refl _, fun _ _ h _ => h, fun _ h => h, fun _ h1 h2 => absurd h1 h2, fun _ _ h => h, fun _ h => .inl h⟩
theorem Ext.trans (a : Ext F H ρ F' H' ρ') (b : Ext F' H' ρ' F'' H'' ρ'') : Ext F H ρ F'' H'' ρ'' where
  ff := a.ff.trans b.ff
  hh := fun x o h n => b.hh x o (a.hh x o h n) fun z => (a.rn x z).elim n fun q => by rw [q] at h; cases h
  dm := fun x h => b.dm x (a.dm x h)
  new := fun x h1 h2 => by
    by_cases q : F' x = none
    · have z := b.new x q h2
      by_cases w : H x = none
      · exact w
      · exact absurd z (a.dm x w)
    · exact a.new x h1 q
  rr := fun i x h => b.rr i x (a.rr i x h)
  rn := fun x h => (b.rn x h).elim (fun z => a.rn x z) fun z => .inr (by
    by_cases w : H x = none
    · exact w
    · exact absurd z (a.dm x w))
theorem Dr.ext {v : V} {d : D} (h : Dr K F ρ v d) (e : Ext F H ρ F' H' ρ') : Dr K F' ρ' v d := Dr.mono e.ff e.rr _ _ h
theorem DrL.ext {v : List V} {d : List D} (h : DrL K F ρ v d) (e : Ext F H ρ F' H' ρ') : DrL K F' ρ' v d := DrL.mono e.ff e.rr _ _ h
theorem SVr.ext {v : V} {sv : SV} (h : SVr K B F H ρ v sv) (e : Ext F H ρ F' H' ρ') : SVr K B F' H' ρ' v sv := by
  cases sv with
  | val d => exact Dr.ext h e
  | own ds =>
    obtain ⟨a, xs, h1, h2, h3, h4, h5, h6⟩ := h
    have hn : H a ≠ none := by rw [h2]; exact fun z => nomatch z
    refine ⟨a, xs, h1, e.hh _ _ h2 h5, h3.ext e, ?_, fun z => (e.rn a z).elim h5 hn, h6⟩
    by_cases q : F' a = none
    · exact q
    · exact absurd (e.new a h4 q) hn
  | dct kvs =>
    obtain ⟨a, nes, P, w, h1, h2, h3, h4, h5, h6⟩ := h
    have hn : H a ≠ none := by rw [h2]; exact fun z => nomatch z
    refine ⟨a, nes, P, w, h1, e.hh _ _ h2 h5, KD.mono e.ff e.rr h3, ?_, fun z => (e.rn a z).elim h5 hn, h6⟩
    by_cases q : F' a = none
    · exact q
    · exact absurd (e.new a h4 q) hn
theorem SR.step (S : SR K B F H ρ σ env μ) (e : Ext F H ρ F' H' ρ') (fh : Same F' H') (c : Cells K F' H' ρ' μ') : SR K B F' H' ρ' σ env μ' :=
  ⟨fh, c, ⟨S.env.len, fun i sv h => let ⟨v, h1, h2⟩ := S.env.at_ i sv h; ⟨v, h1, h2.ext e⟩, S.env.apart, S.env.apd⟩⟩
/-- an extension that leaves all as it was -/
structure PX (F H F' H' : Hp) : Prop where
  ff : Same F F'
  hh : Same H H'
  fh : Same F' H'
  new : ∀ a, F a = none → F' a ≠ none → H a = none
theorem PX.refl (h : Same F H) : PX F H F H := ⟨Same.refl _, Same.refl _, h, fun _ a b => absurd a b⟩
theorem PX.ext (p : PX F H F' H') : Ext F H ρ F' H' ρ := ⟨p.ff, fun a o h _ => p.hh a o h, fun a h => (by
  cases q : H a with
  | none => exact absurd q h
  | some o => rw [p.hh a o q]; exact fun z => nomatch z), p.new, fun _ _ h => h, fun _ h => .inl h⟩
theorem Cells.px (c : Cells K F H ρ μ) (p : PX F H F' H') : Cells K F' H' ρ μ := ⟨c.len, c.nd, fun i a ds h1 h2 => by
  obtain ⟨h3, xs, h4, h5⟩ := c.at_ i a ds h1 h2
  refine ⟨?_, xs, p.hh _ _ h4, DrL.mono p.ff (fun _ _ h => h) _ _ h5⟩
  by_cases q : F' a = none
  · exact q
  · have := p.new a h3 q
    rw [h4] at this; cases this⟩
theorem same_upd' {H : Hp} {p : Addr} {o : HO} (h : H p = none) : Same H (upd H p o) := fun b x e => by
  rw [upd_ne (ne_of_none e h)]; exact e
theorem none_of_same {F H : Hp} {p : Addr} (fh : Same F H) (h : H p = none) : F p = none := fh.free h
theorem PX.new_ (fh : Same F H) {p : Addr} {o : HO} (h : H p = none) : PX F H (upd F p o) (upd H p o) := by
  refine ⟨same_upd' (fh.free h), same_upd' h, fun b x e => ?_, fun a h1 h2 => ?_⟩
  · by_cases q : b = p
    · subst q; rw [upd_same] at e ⊢; exact e
    · rw [upd_ne q] at e ⊢; exact fh _ _ e
  · by_cases q : a = p
    · subst q; exact h
    · rw [upd_ne q] at h2; exact absurd h1 h2
theorem PX.trans (a : PX F H F' H') (b : PX F' H' F'' H'') : PX F H F'' H'' := by
  refine ⟨a.ff.trans b.ff, a.hh.trans b.hh, b.fh, fun x h1 h2 => ?_⟩
  by_cases q : F' x = none
  · have z := b.new x q h2
    exact a.hh.free z
  · exact a.new x h1 q
theorem SR.px (S : SR K B F H ρ σ env μ) (p : PX F H F' H') : SR K B F' H' ρ σ env μ := S.step p.ext p.fh (S.cells.px p)
end
end Py
end
section
set_option Elab.async false
set_option linter.all false
namespace Py
open PySem L2
/-! ### the syntax that is served -/
inductive Ty where
  | int | bool | str | tup | lst
  deriving DecidableEq
inductive Bi where
  | len | abs | max | min | sum | tuple | list | int | minp | range
  deriving DecidableEq
inductive T where
  | nm (i : Nat) | tp (ts : List T)
mutual
inductive E where
  | slot (i : Nat) | glob (g : Nat) | int (i : Int) | bl (b : Bool) | non | str (s : Str)
  | bin (op : Operator) (a b : E) | neg (a : E) | not (a : E)
  | cmp (op : CmpOp) (a b : E) | isN (a : E) | notN (a : E)
  | and (a : E) (r : Es) | or (a : E) (r : Es)
  | ite (c a b : E)
  | tup (es : Es) | lst (es : Es) | mlst (es : Es)
  | ix (a b : E) | slc (a : E) (lo hi : Eo)
  | call (f : Nat) (e : E) (es : Es)
  | bi (b : Bi) (e : E) (es : Es)
  | isi (e : E) (t : Ty)
  | lc (e : E) (t : T) (it : I) (c : Eo) (vs : List Nat)
  | bor (i : Nat) (e : E)
  | dIn (neg : Bool) (i : Nat) (e : E) | dAt (i : Nat) (e : E) | dVals (i : Nat)
  | chain (op op' : CmpOp) (a b c : E)
  | rngL (e : E) | rev (e : E) | rngL2 (a b : E)
inductive Es where
  | nil | cons (e : E) (es : Es)
inductive Eo where
  | none | some (e : E)
inductive I where
  | seq (e : E) | rng1 (e : E) | rng2 (a b : E) | zip (a b : E) | enum (e : E) | rngD (e : E)
end
inductive S where
  | app (i : Nat) (e : E)
  | expr (e : E)
  | asg (t : T) (e : E)
  | asgN (i : Nat) (e : E)
  | par (i j : Nat) (a b : E)
  | aug (i : Nat) (op : Operator) (e : E)
  | setm (o i e : E)
  | ret (e : E) | retN
  | iff (c : E) (a b : List S)
  | wh (c : E) (b : List S)
  | for (t : T) (it : I) (b : List S)
  | brk | cont | pass
  | frz (i : Nat) (s : S)
  | dNew (i : Nat) | dPut (i : Nat) (k e : E) | ext (i : Nat) (e : E)
  | setO (i : Nat) (o e : E)

/-! ### the values of operations -/
abbrev SZ : Nat := 16777216
abbrev B64 : Int := 18446744073709551616
mutual
def toPy : D → Option PyData
  | .non => some .none
  | .bl b => some (.bool b)
  | .int i => some (.int i)
  | .str s => some (.str s)
  | .tup ds => (toPys ds).map .tuple
  | .lst ds => (toPys ds).map .list
  | .scr ds => (toPys ds).map .list
  | .mr _ => none
  | .rg _ _ => none
def toPys : List D → Option (List PyData)
  | [] => some []
  | d :: ds => (toPy d).bind fun p => (toPys ds).map fun ps => p :: ps
end
def mulOk (i j : Int) : Bool := decide (i.natAbs.log2 + j.natAbs.log2 < 1000000)
def divOk (j : Int) : Bool := decide (0 < j) && decide (j.natAbs.log2 < 9000)
def binS : Operator → D → D → Option D
  | .Add, .int i, .int j => some (.int (i + j))
  | .Sub, .int i, .int j => some (.int (i - j))
  | .Mult, .int i, .int j => if mulOk i j then some (.int (i * j)) else none
  | .FloorDiv, .int i, .int j => if divOk j then some (.int (i / j)) else none
  | .Mod, .int i, .int j => if j != 0 then some (.int (i.fmod j)) else none
  | .Pow, .int i, .int j => if decide (0 ≤ j) && decide (j ≤ 1000000) && decide (i.natAbs < 2 ^ 64) then some (.int (i ^ j.toNat)) else none
  | .RShift, .int i, .int j => if decide (0 ≤ j) then some (.int (i / 2 ^ j.toNat)) else none
  | .BitAnd, .int i, .int j => if decide (0 ≤ i) && decide (j = 1) then some (.int (i % 2)) else none
  | .Add, .tup a, .tup b => if a.length + b.length ≤ SZ then some (.tup (a ++ b)) else none
  | .Add, .lst a, .lst b => if a.length + b.length ≤ SZ then some (.lst (a ++ b)) else none
  | _, _, _ => none
def eqS (a b : D) : Option Bool := (toPy a).bind fun p => (toPy b).bind fun q => if SeqAt.shaped p && SeqAt.shaped q then some (PyData.eqv p q) else none
def inS (a b : D) : Option Bool := (toPy a).bind fun p => (toPy b).bind fun q => match q with
  | .list ps => if SeqAt.shaped p && SeqAt.shaped (.list ps) then some (ps.any fun z => PyData.eqv z p) else none
  | _ => none
def flat : D → Bool
  | .non => true | .bl _ => true | .int _ => true | .str _ => true
  | _ => false
mutual
def noL : D → Bool
  | .non => true | .bl _ => true | .int _ => true | .str _ => true
  | .tup ds => noLs ds
  | .lst _ => false | .scr _ => false | .mr _ => false | .rg _ _ => false
def noLs : List D → Bool
  | [] => true
  | d :: ds => noL d && noLs ds
end
def cmpS : CmpOp → D → D → Option Bool
  | .Lt, .int i, .int j => some (decide (i < j))
  | .LtE, .int i, .int j => some (decide (i ≤ j))
  | .Gt, .int i, .int j => some (decide (j < i))
  | .GtE, .int i, .int j => some (decide (j ≤ i))
  | .Eq, a, b => eqS a b
  | .NotEq, a, b => (eqS a b).map not
  | .In, a, b => inS a b
  | .NotIn, a, b => (inS a b).map not
  | .Is, .bl a, .bl b => some (decide (a = b))
  | .IsNot, .bl a, .bl b => some (!decide (a = b))
  | _, _, _ => none
def isNon : D → Bool
  | .non => true
  | _ => false
def truS : D → Option Bool
  | .non => some false
  | .bl b => some b
  | .int i => some (i != 0)
  | .tup ds => some (!ds.isEmpty)
  | .lst ds => some (!ds.isEmpty)
  | _ => none
/-- the items of a list or a tuple -/
def itsS (μ : Store) : D → Option (List D)
  | .tup ds => some ds
  | .lst ds => some ds
  | .scr ds => some ds
  | .mr i => μ[i]?
  | _ => none
/-- the items of a list -/
def lstS (μ : Store) : D → Option (List D)
  | .lst ds => some ds
  | .scr ds => some ds
  | .mr i => μ[i]?
  | _ => none
def ixS (μ : Store) (d : D) : D → Option D
  | .int i => (itsS μ d).bind fun ds => atI ds i
  | _ => none
def cutS (ds : List D) (lo hi : Option Int) : List D := (ds.drop (HT.sIx ds.length 0 lo)).take (HT.sIx ds.length ds.length hi - HT.sIx ds.length 0 lo)
def slcS : D → Option Int → Option Int → Option D
  | .tup ds, lo, hi => some (.tup (cutS ds lo hi))
  | .lst ds, lo, hi => some (.lst (cutS ds lo hi))
  | _, _, _ => none
def asInt : D → Option Int
  | .int i => some i
  | _ => none
def asInts : List D → Option (List Int)
  | [] => some []
  | d :: ds => (asInt d).bind fun i => (asInts ds).map fun is => i :: is
def asPair : D → Option (Int × Int)
  | .tup [.int a, .int b] => some (a, b)
  | _ => none
def asPairs : List D → Option (List (Int × Int))
  | [] => some []
  | d :: ds => (asPair d).bind fun p => (asPairs ds).map fun ps => p :: ps
def maxI : List Int → Int
  | [] => 0
  | [x] => x
  | x :: y :: r => maxI ((if y > x then y else x) :: r)
termination_by l => l.length
def minI : List Int → Int
  | [] => 0
  | [x] => x
  | x :: y :: r => minI ((if y < x then y else x) :: r)
termination_by l => l.length
def biS (μ : Store) : Bi → List D → Option D
  | .len, [d] => (itsS μ d).map fun ds => .int ds.length
  | .abs, [.int i] => some (.int (if i < 0 then -i else i))
  | .max, [.int i, .int j] => some (.int (if j > i then j else i))
  | .min, [.int i, .int j] => some (.int (if j < i then j else i))
  | .max, [d] => (lstS μ d).bind fun ds => (asInts ds).bind fun is => if is.isEmpty then none else some (.int (maxI is))
  | .min, [d] => (lstS μ d).bind fun ds => (asInts ds).bind fun is => if is.isEmpty then none else some (.int (minI is))
  | .sum, [d] => (lstS μ d).bind fun ds => (asInts ds).map fun is => .int is.sum
  | .tuple, [d] => (itsS μ d).map .tup
  | .list, [d] => (itsS μ d).map .lst
  | .int, [.int i] => some (.int i)
  | .int, [.bl b] => some (.int (if b then 1 else 0))
  | .range, [.int j] => some (.rg 0 j)
  | .range, [.int i, .int j] => some (.rg i j)
  | .minp, [d] => (lstS μ d).bind fun ds => (asPairs ds).bind fun ps => match ps with
    | [] => none
    | p :: r => some (.tup [.int (minP p r).1, .int (minP p r).2])
  | _, _ => none
def isiS : D → Ty → Option Bool
  | .non, _ => some false
  | .bl _, t => some (t == .bool || t == .int)
  | .int _, t => some (t == .int)
  | .str _, t => some (t == .str)
  | .tup _, t => some (t == .tup)
  | .lst _, t => some (t == .lst)
  | _, _ => none
/-! ### keys of dicts: tuples of numbers and of such tuples -/
mutual
def keyN : D → Option NestedKey
  | .non => some .none
  | .int i => some (.num i)
  | .tup ds => (keyNs ds).map .tup
  | _ => none
def keyNs : List D → Option (List NestedKey)
  | [] => some []
  | d :: ds => (keyN d).bind fun k => (keyNs ds).map fun ks => k :: ks
end
def keyS : D → Option NestedKey
  | .tup ds => (keyN (.tup ds)).bind fun k => if k.depth ≤ 8 then some k else none
  | _ => none
def dAtS (kvs : List (NestedKey × D)) (k : NestedKey) : Option D := (kvs.find? fun x => decide (x.1 = k)).map (·.2)
def dPutS (kvs : List (NestedKey × D)) (k : NestedKey) (d : D) : List (NestedKey × D) := if (dAtS kvs k).isSome then kvs.map fun x => if x.1 = k then (x.1, d) else x else kvs ++ [(k, d)]
/-! ### slots -/
def getD' (env : Env) (i : Nat) : Option (List (NestedKey × D)) := match env[i]? with
  | some (some (.dct kvs)) => some kvs
  | _ => none
def getV (env : Env) (i : Nat) : Option D := match env[i]? with
  | some (some (.val d)) => some d
  | _ => none
def getO (env : Env) (i : Nat) : Option (List D) := match env[i]? with
  | some (some (.own ds)) => some ds
  | _ => none
def setV (env : Env) (i : Nat) (d : D) : Option Env := if i < env.length then some (env.set i (some (.val d))) else none
mutual
def asgT : T → D → Env → Option Env
  | .nm i, d, env => setV env i d
  | .tp ts, .tup ds, env => asgTs ts ds env
  | .tp ts, .lst ds, env => asgTs ts ds env
  | .tp _, _, _ => none
def asgTs : List T → List D → Env → Option Env
  | [], [], env => some env
  | t :: ts, d :: ds, env => (asgT t d env).bind fun env' => asgTs ts ds env'
  | _, _, _ => none
end
mutual
def tgS : T → List Nat
  | .nm i => [i]
  | .tp ts => tgsS ts
def tgsS : List T → List Nat
  | [] => []
  | t :: ts => tgS t ++ tgsS ts
end
def wipeE (env : Env) : List Nat → Env
  | [] => env
  | v :: vs => (wipeE env vs).set v none
/-! ### walks -/
def zipD (a b : List D) : List D := (a.zip b).map fun p => .tup [p.1, p.2]
def enumD : Nat → List D → List D
  | _, [] => []
  | i, d :: ds => .tup [.int i, d] :: enumD (i + 1) ds
def rangeD (lo : Int) (n : Nat) : List D := (List.range n).map fun i => .int (lo + (i : Nat))
/-- j, j - 1, .., 0 -/
def rangeDn (j : Int) : List D := (List.range (j + 1).toNat).map fun i => .int (j - (i : Nat))
def rngDS (j : Int) : Option (List D) := if decide (-1 ≤ j) && decide (j < 16777215) then some (rangeDn j) else none
def rngS (lo hi : Int) : Option (List D) := if decide (-4611686018427387904 ≤ lo) && decide (lo < 4611686018427387904) && decide (-4611686018427387904 ≤ hi) && decide (hi < 4611686018427387904) && decide ((hi - lo).toNat ≤ SZ) then some (rangeD lo (hi - lo).toNat) else none
/-- [f x for x in ds if c x] -/
def lcS (t : T) (c : Env → Store → Option (Bool × Store)) (f : Env → Store → Option (D × Store)) (env : Env) : List D → Store → Option (List D × Store)
  | [], μ => some ([], μ)
  | d :: ds, μ => (asgT t d env).bind fun env' => (c env' μ).bind fun (b, μ1) =>
    if b then (f env' μ1).bind fun (x, μ2) => (lcS t c f env ds μ2).map fun (xs, μ3) => (x :: xs, μ3) else lcS t c f env ds μ1
def scalS : Store → Bool
  | [] => true
  | ds :: r => ds.all flat && scalS r
/-! ### expressions -/
section
variable (Φ : Nat → List D → Store → Option (D × Store)) (Γ : Nat → Option D)
mutual
def ev : E → Env → Store → Option (D × Store)
  | .slot i, env, μ => (getV env i).map fun d => (d, μ)
  | .glob g, _, μ => (Γ g).map fun d => (d, μ)
  | .int i, _, μ => some (.int i, μ)
  | .bl b, _, μ => some (.bl b, μ)
  | .non, _, μ => some (.non, μ)
  | .str s, _, μ => some (.str s, μ)
  | .bin op a b, env, μ => (ev a env μ).bind fun (x, μ1) => (ev b env μ1).bind fun (y, μ2) => (binS op x y).map fun d => (d, μ2)
  | .neg a, env, μ => (ev a env μ).bind fun (x, μ1) => (asInt x).map fun i => (.int (-i), μ1)
  | .not a, env, μ => (ev a env μ).bind fun (x, μ1) => (truS x).map fun b => (.bl (!b), μ1)
  | .cmp op a b, env, μ => (ev a env μ).bind fun (x, μ1) => (ev b env μ1).bind fun (y, μ2) => (cmpS op x y).map fun d => (.bl d, μ2)
  | .isN a, env, μ => (ev a env μ).map fun (x, μ1) => (.bl (isNon x), μ1)
  | .notN a, env, μ => (ev a env μ).map fun (x, μ1) => (.bl (!isNon x), μ1)
  | .and a r, env, μ => (ev a env μ).bind fun (x, μ1) => evAnd x r env μ1
  | .or a r, env, μ => (ev a env μ).bind fun (x, μ1) => evOr x r env μ1
  | .ite c a b, env, μ => (evT c env μ).bind fun (k, μ1) => if k then ev a env μ1 else ev b env μ1
  | .tup es, env, μ => (evs es env μ).bind fun (ds, μ1) => if ds.length ≤ SZ then some (.tup ds, μ1) else none
  | .lst es, env, μ => (evs es env μ).bind fun (ds, μ1) => if ds.length ≤ SZ then some (.lst ds, μ1) else none
  | .mlst es, env, μ => (evs es env μ).bind fun (ds, μ1) => if ds.length ≤ SZ then some (.mr μ1.length, μ1 ++ [ds]) else none
  | .ix a b, env, μ => (ev a env μ).bind fun (x, μ1) => (ev b env μ1).bind fun (y, μ2) => (ixS μ2 x y).map fun d => (d, μ2)
  | .slc a lo hi, env, μ => (ev a env μ).bind fun (x, μ1) => (evo lo env μ1).bind fun (l, μ2) => (evo hi env μ2).bind fun (h, μ3) => (slcS x l h).map fun d => (d, μ3)
  | .call f e es, env, μ => (ev e env μ).bind fun (x, μ1) => (evs es env μ1).bind fun (xs, μ2) => Φ f (x :: xs) μ2
  | .bi b e es, env, μ => (ev e env μ).bind fun (x, μ1) => (evs es env μ1).bind fun (xs, μ2) => (biS μ2 b (x :: xs)).map fun d => (d, μ2)
  | .isi e t, env, μ => (ev e env μ).bind fun (x, μ1) => (isiS x t).map fun b => (.bl b, μ1)
  | .lc e t it c vs, env, μ => (evI it env μ).bind fun (ds, μ1) => if ds.length ≤ SZ then (lcS t (fun env' μ' => evc c env' μ') (fun env' μ' => ev e env' μ') (wipeE env vs) ds μ1).map fun (xs, μ2) => (.lst xs, μ2) else none
  | .bor i e, env, μ => (getO env i).bind fun ds => (ev e (env.set i (some (.val (.lst ds)))) μ).bind fun (d, μ1) => if noL d && scalS μ1 then some (d, μ1) else none
  | .dIn neg i e, env, μ => (ev e env μ).bind fun (d, μ1) => (getD' env i).bind fun kvs => (keyS d).map fun k => (.bl (if neg then !(dAtS kvs k).isSome else (dAtS kvs k).isSome), μ1)
  | .dAt i e, env, μ => (ev e env μ).bind fun (d, μ1) => (getD' env i).bind fun kvs => (keyS d).bind fun k => (dAtS kvs k).map fun v => (v, μ1)
  | .dVals i, env, μ => (getD' env i).map fun kvs => (.lst (kvs.map (·.2)), μ)
  | .chain op op' a b c, env, μ => (ev a env μ).bind fun (x, μ1) => (ev b env μ1).bind fun (y, μ2) => (cmpS op x y).bind fun k => if k then (ev c env μ2).bind fun (z, μ3) => (cmpS op' y z).map fun k' => (.bl k', μ3) else some (.bl false, μ2)
  | .rngL e, env, μ => (ev e env μ).bind fun (x, μ1) => (asInt x).bind fun j => (rngS 0 j).map fun ds => (.lst ds, μ1)
  | .rngL2 a b, env, μ => (ev a env μ).bind fun (x, μ1) => (ev b env μ1).bind fun (y, μ2) => (asInt x).bind fun i => (asInt y).bind fun j => (rngS i j).map fun ds => (.lst ds, μ2)
  | .rev e, env, μ => (ev e env μ).bind fun (x, μ1) => match x with
    | .lst ds => some (.lst ds.reverse, μ1)
    | .scr ds => some (.lst ds.reverse, μ1)
    | _ => none
def evT : E → Env → Store → Option (Bool × Store)
  | .not a, env, μ => (evT a env μ).map fun (b, μ1) => (!b, μ1)
  | .and a r, env, μ => (evT a env μ).bind fun (k, μ1) => if k then evTAnd r env μ1 else some (false, μ1)
  | .or a r, env, μ => (evT a env μ).bind fun (k, μ1) => if k then some (true, μ1) else evTOr r env μ1
  | .ite _ _ _, _, _ => none
  | .bor i e, env, μ => (getO env i).bind fun ds => (evT e (env.set i (some (.val (.lst ds)))) μ).bind fun (d, μ1) => if scalS μ1 then some (d, μ1) else none
  | .cmp op a b, env, μ => (ev a env μ).bind fun (x, μ1) => (ev b env μ1).bind fun (y, μ2) => (cmpS op x y).map fun d => (d, μ2)
  | .isN a, env, μ => (ev a env μ).map fun (x, μ1) => (isNon x, μ1)
  | .notN a, env, μ => (ev a env μ).map fun (x, μ1) => (!isNon x, μ1)
  | .slot i, env, μ => (getV env i).bind fun d => (truS d).map fun k => (k, μ)
  | .call f e es, env, μ => (ev e env μ).bind fun (x, μ1) => (evs es env μ1).bind fun (xs, μ2) => (Φ f (x :: xs) μ2).bind fun (d, μ3) => (truS d).map fun k => (k, μ3)
  | .ix a b, env, μ => (ev a env μ).bind fun (x, μ1) => (ev b env μ1).bind fun (y, μ2) => (ixS μ2 x y).bind fun d => (truS d).map fun k => (k, μ2)
  | .isi e t, env, μ => (ev e env μ).bind fun (x, μ1) => (isiS x t).map fun b => (b, μ1)
  | .bi b e es, env, μ => (ev e env μ).bind fun (x, μ1) => (evs es env μ1).bind fun (xs, μ2) => (biS μ2 b (x :: xs)).bind fun d => (truS d).map fun k => (k, μ2)
  | .dIn neg i e, env, μ => (ev e env μ).bind fun (d, μ1) => (getD' env i).bind fun kvs => (keyS d).map fun k => ((if neg then !(dAtS kvs k).isSome else (dAtS kvs k).isSome), μ1)
  | .chain op op' a b c, env, μ => (ev a env μ).bind fun (x, μ1) => (ev b env μ1).bind fun (y, μ2) => (cmpS op x y).bind fun k => if k then (ev c env μ2).bind fun (z, μ3) => (cmpS op' y z).map fun k' => (k', μ3) else some (false, μ2)
  | _, _, _ => none
def evAnd : D → Es → Env → Store → Option (D × Store)
  | x, .nil, _, μ => some (x, μ)
  | .bl true, .cons e r, env, μ => (ev e env μ).bind fun (y, μ1) => evAnd y r env μ1
  | .bl false, .cons _ _, _, μ => some (.bl false, μ)
  | _, _, _, _ => none
def evOr : D → Es → Env → Store → Option (D × Store)
  | x, .nil, _, μ => some (x, μ)
  | .bl false, .cons e r, env, μ => (ev e env μ).bind fun (y, μ1) => evOr y r env μ1
  | .bl true, .cons _ _, _, μ => some (.bl true, μ)
  | _, _, _, _ => none
def evTAnd : Es → Env → Store → Option (Bool × Store)
  | .nil, _, μ => some (true, μ)
  | .cons e r, env, μ => (evT e env μ).bind fun (k, μ1) => if k then evTAnd r env μ1 else some (false, μ1)
def evTOr : Es → Env → Store → Option (Bool × Store)
  | .nil, _, μ => some (false, μ)
  | .cons e r, env, μ => (evT e env μ).bind fun (k, μ1) => if k then some (true, μ1) else evTOr r env μ1
def evs : Es → Env → Store → Option (List D × Store)
  | .nil, _, μ => some ([], μ)
  | .cons e r, env, μ => (ev e env μ).bind fun (x, μ1) => (evs r env μ1).map fun (xs, μ2) => (x :: xs, μ2)
def evo : Eo → Env → Store → Option (Option Int × Store)
  | .none, _, μ => some (none, μ)
  | .some e, env, μ => (ev e env μ).bind fun (x, μ1) => (asInt x).map fun i => (some i, μ1)
def evc : Eo → Env → Store → Option (Bool × Store)
  | .none, _, μ => some (true, μ)
  | .some e, env, μ => evT e env μ
def evI : I → Env → Store → Option (List D × Store)
  | .seq e, env, μ => (ev e env μ).bind fun (x, μ1) => match x with
    | .tup ds => some (ds, μ1)
    | .lst ds => some (ds, μ1)
    | .scr ds => some (ds, μ1)
    | .rg lo hi => (rngS lo hi).map fun ds => (ds, μ1)
    | _ => none
  | .rng1 e, env, μ => (ev e env μ).bind fun (x, μ1) => (asInt x).bind fun j => (rngS 0 j).map fun ds => (ds, μ1)
  | .rng2 a b, env, μ => (ev a env μ).bind fun (x, μ1) => (ev b env μ1).bind fun (y, μ2) => (asInt x).bind fun i => (asInt y).bind fun j => (rngS i j).map fun ds => (ds, μ2)
  | .zip a b, env, μ => (ev a env μ).bind fun (x, μ1) => (ev b env μ1).bind fun (y, μ2) => match x, y with
    | .tup ds, .tup es => some (zipD ds es, μ2)
    | .lst ds, .lst es => some (zipD ds es, μ2)
    | .tup ds, .lst es => some (zipD ds es, μ2)
    | _, _ => none
  | .enum e, env, μ => (ev e env μ).bind fun (x, μ1) => match x with
    | .lst ds => some (enumD 0 ds, μ1)
    | .tup ds => some (enumD 0 ds, μ1)
    | _ => none
  | .rngD e, env, μ => (ev e env μ).bind fun (x, μ1) => (asInt x).bind fun j => (rngDS j).map fun ds => (ds, μ1)
end
/-! ### statements -/
inductive Fl where
  | nx (env : Env) (μ : Store) | rt (d : D) (μ : Store) | bk (env : Env) (μ : Store) | ct (env : Env) (μ : Store)
def forS (t : T) (b : Env → Store → Option Fl) : List D → Env → Store → Option Fl
  | [], env, μ => some (.nx env μ)
  | d :: ds, env, μ => (asgT t d env).bind fun env1 => (b env1 μ).bind fun
    | .nx env' μ' => forS t b ds env' μ'
    | .ct env' μ' => forS t b ds env' μ'
    | .bk env' μ' => some (.nx env' μ')
    | .rt d μ' => some (.rt d μ')
def whN (c : Env → Store → Option (Bool × Store)) (b : Env → Store → Option Fl) : Nat → Env → Store → Option Fl
  | 0, _, _ => none
  | n + 1, env, μ => (c env μ).bind fun (k, μ1) => if k then (b env μ1).bind fun
      | .nx env' μ' => whN c b n env' μ'
      | .ct env' μ' => whN c b n env' μ'
      | .bk env' μ' => some (.nx env' μ')
      | .rt d μ' => some (.rt d μ')
    else some (.nx env μ1)
open Classical in
noncomputable def whS (c : Env → Store → Option (Bool × Store)) (b : Env → Store → Option Fl) (env : Env) (μ : Store) : Option Fl :=
  if h : ∃ n r, whN c b n env μ = some r then some (choose (choose_spec h)) else none
mutual
noncomputable def ex : S → Env → Store → Option Fl
  | .app i e, env, μ => (ev Φ Γ e env μ).bind fun (d, μ1) => (getO env i).bind fun ds => if ds.length < SZ then some (.nx (env.set i (some (.own (ds ++ [d])))) μ1) else none
  | .expr e, env, μ => (ev Φ Γ e env μ).map fun (_, μ1) => .nx env μ1
  | .asg t e, env, μ => (ev Φ Γ e env μ).bind fun (d, μ1) => (asgT t d env).map fun env' => .nx env' μ1
  | .asgN i e, env, μ => (ev Φ Γ e env μ).bind fun (d, μ1) => match d with
    | .lst ds => if i < env.length then some (.nx (env.set i (some (.own ds))) μ1) else none
    | _ => none
  | .par i j a b, env, μ => (ev Φ Γ a env μ).bind fun (x, μ1) => (ev Φ Γ b env μ1).bind fun (y, μ2) => (setV env i x).bind fun env1 => (setV env1 j y).map fun env2 => .nx env2 μ2
  | .aug i op e, env, μ => (getV env i).bind fun x => (ev Φ Γ e env μ).bind fun (y, μ1) => match op, x, y with
    | .Add, .int a, .int b => (setV env i (.int (a + b))).map fun env' => .nx env' μ1
    | .Sub, .int a, .int b => (setV env i (.int (a - b))).map fun env' => .nx env' μ1
    | _, _, _ => none
  | .setm o i e, env, μ => (ev Φ Γ e env μ).bind fun (d, μ1) => (ev Φ Γ o env μ1).bind fun (x, μ2) => (ev Φ Γ i env μ2).bind fun (y, μ3) => match x, y with
    | .mr c, .int k => (μ3[c]?).bind fun ds => (ixN ds.length k).map fun j => .nx env (μ3.set c (ds.set j d))
    | _, _ => none
  | .ret e, env, μ => (ev Φ Γ e env μ).map fun (d, μ1) => .rt d μ1
  | .retN, _, μ => some (.rt .non μ)
  | .iff c a b, env, μ => (evT Φ Γ c env μ).bind fun (k, μ1) => if k then exs a env μ1 else exs b env μ1
  | .wh c b, env, μ => whS (fun env' μ' => evT Φ Γ c env' μ') (fun env' μ' => exs b env' μ') env μ
  | .for t it b, env, μ => (evI Φ Γ it env μ).bind fun (ds, μ1) => forS t (fun env' μ' => exs b env' μ') ds env μ1
  | .brk, env, μ => some (.bk env μ)
  | .cont, env, μ => some (.ct env μ)
  | .pass, env, μ => some (.nx env μ)
  | .frz i s, env, μ => (getO env i).bind fun ds => ex s (env.set i (some (.val (.lst ds)))) μ
  | .ext i e, env, μ => (ev Φ Γ e env μ).bind fun (d, μ1) => (getO env i).bind fun ds => match d with
    | .lst es => if ds.length + es.length ≤ SZ then some (.nx (env.set i (some (.own (ds ++ es)))) μ1) else none
    | _ => none
  | .setO i o e, env, μ => (ev Φ Γ e env μ).bind fun (d, μ1) => (ev Φ Γ o env μ1).bind fun (y, μ2) => (getO env i).bind fun ds => (asInt y).bind fun k => (ixN ds.length k).map fun j => .nx (env.set i (some (.own (ds.set j d)))) μ2
  | .dNew i, env, μ => if i < env.length then some (.nx (env.set i (some (.dct []))) μ) else none
  | .dPut i k e, env, μ => (ev Φ Γ e env μ).bind fun (d, μ1) => (ev Φ Γ k env μ1).bind fun (y, μ2) => (getD' env i).bind fun kvs => (keyS y).bind fun k' => if kvs.length < SZ then some (.nx (env.set i (some (.dct (dPutS kvs k' d)))) μ2) else none
noncomputable def exs : List S → Env → Store → Option Fl
  | [], env, μ => some (.nx env μ)
  | s :: r, env, μ => (ex s env μ).bind fun
    | .nx env' μ' => exs r env' μ'
    | f => some f
end
end
/-- a def: its parameters' number, its slots' number, its body -/
structure Fn where
  ar : Nat
  sl : Nat
  body : List S
noncomputable def run (fs : List Fn) (Γ : Nat → Option D) : Nat → Nat → List D → Store → Option (D × Store)
  | 0, _, _, _ => none
  | k + 1, f, ds, μ => (fs[f]?).bind fun fn => if ds.length = fn.ar then
      (exs (run fs Γ k) Γ fn.body (ds.map (fun d => some (.val d)) ++ List.replicate (fn.sl - fn.ar) none) μ).bind fun
        | .rt d μ' => some (d, μ')
        | .nx _ μ' => some (.non, μ')
        | _ => none
    else none
end Py
end
section
set_option Elab.async false
set_option linter.all false
set_option maxRecDepth 100000
namespace Py
open PySem L2
section
variable {K : PySem.W.Frag} {B F H F' H' : Hp} {ρ ρ' : List Addr} {σ : L2.St} {env : Env} {μ μ' : Store}
theorem sz : (sizeLine : Nat) = SZ := sizeLine_eq
/-- a rule of two values keeps a function of two data -/
def OpD (K : PySem.W.Frag) (r : R2) (g : D → D → Option D) : Prop := ∀ (F H : Hp) (ρ : List Addr) (x y : V) (dx dy d : D) (Q : VK), Same F H → Dr K F ρ x dx → Dr K F ρ y dy → g dx dy = some d →
  (∀ v F' H', PX F H F' H' → Dr K F' ρ v d → Q v H') → r x y H Q
theorem rdup {a : Addr} {o : HO} (h : H a = none) (fh : Same F H) : F a = none := fh.free h
theorem Dr.up {v : V} {d : D} (p : PX F H F' H') (h : Dr K F ρ v d) : Dr K F' ρ v d := Dr.mono p.ff (fun _ _ h => h) _ _ h
theorem DrL.up {v : List V} {d : List D} (p : PX F H F' H') (h : DrL K F ρ v d) : DrL K F' ρ v d := DrL.mono p.ff (fun _ _ h => h) _ _ h
theorem DrL.nil_iff {xs : List V} {ds : List D} (h : DrL K F ρ xs ds) : xs = [] ↔ ds = [] := by
  cases h <;> simp
/-- a new frozen tuple, a new frozen list -/
theorem new_tup {xs : List V} {ds : List D} {Q : VK} (fh : Same F H) (h : DrL K F ρ xs ds) (q : ∀ v F' H', PX F H F' H' → Dr K F' ρ v (.tup ds) → Q v H') : ∀ p, H p = none → Q (.ref p) (upd H p (.tup xs)) := fun p hp => by
  have P := PX.new_ (o := .tup xs) fh hp
  exact q _ (upd F p (.tup xs)) _ P (.tup (.inl (.inl upd_same)) (h.up P))
theorem new_lst {xs : List V} {ds : List D} {Q : VK} (fh : Same F H) (h : DrL K F ρ xs ds) (q : ∀ v F' H', PX F H F' H' → Dr K F' ρ v (.lst ds) → Q v H') : ∀ p, H p = none → Q (.ref p) (upd H p (.lst xs)) := fun p hp => by
  have P := PX.new_ (o := .lst xs) fh hp
  exact q _ (upd F p (.lst xs)) _ P (.lst upd_same (h.up P))
theorem new_rg {lo hi : Int} {Q : VK} (fh : Same F H) (q : ∀ v F' H', PX F H F' H' → Dr K F' ρ v (.rg lo hi) → Q v H') : ∀ p, H p = none → Q (.ref p) (upd H p (.rng lo hi)) := fun p hp => by
  have P := PX.new_ (o := .rng lo hi) fh hp
  exact q _ (upd F p (.rng lo hi)) _ P (.rg upd_same)
def opOf (K : PySem.W.Frag) : Operator → R2
  | .Add => fun x y H Q => rI0 (fun i j => .int (i + j)) x y H Q ∨ (rCatA K x y H Q ∨ rCat x y H Q)
  | .Sub => rI0 (fun i j => .int (i - j))
  | .Mult => rI CMulW (fun i j => .int (i * j))
  | .FloorDiv => rI CDivW (fun i j => .int (i / j))
  | .Mod => rI (fun _ j => j ≠ 0) (fun i j => .int (i.fmod j))
  | .Pow => rI CPow (fun i j => .int (i ^ j.toNat))
  | .RShift => rI (fun _ j => 0 ≤ j) fun i j => .int (i / 2 ^ j.toNat)
  | .BitAnd => fun x y H Q => ∃ n : Nat, x = .int (n : Int) ∧ y = .int 1 ∧ Q (.int ((n % 2 : Nat) : Int)) H
  | _ => fun _ _ _ _ => False
theorem op_of (X : Cx) (op : Operator) : OpR X (binaryOp op) (opOf X.K op) := by
  cases op with
  | Add => exact op_add.or (op_catA.or op_cat)
  | Sub => exact op_sub
  | Mult => exact op_mulW
  | FloorDiv => exact op_fdivW
  | Mod => exact op_modN
  | Pow => exact op_pow
  | RShift => exact op_shr
  | BitAnd => exact op_odd
  | _ => exact fun _ _ _ _ _ _ _ _ _ _ _ _ h => False.elim h
theorem mulOk_ok {i j : Int} (h : mulOk i j = true) : CMulW i j := by
  unfold mulOk at h
  have h2 := of_decide_eq_true h
  exact h2
theorem binS_ok (op : Operator) : OpD K (opOf K op) (binS op) := by
  intro F H ρ x y dx dy d Q fh rx ry e q
  unfold binS at e
  split at e
  · cases e; cases rx; cases ry
    exact .inl ⟨_, _, rfl, rfl, q _ F H (.refl fh) (.int _)⟩
  · cases e; cases rx; cases ry
    exact ⟨_, _, rfl, rfl, q _ F H (.refl fh) (.int _)⟩
  · rename_i i j
    split at e
    · cases e; cases rx; cases ry
      exact ⟨_, _, rfl, rfl, mulOk_ok ‹_›, q _ F H (.refl fh) (.int _)⟩
    · cases e
  · rename_i i j
    split at e
    · rename_i h
      cases e; cases rx; cases ry
      unfold divOk at h
      simp only [Bool.and_eq_true, decide_eq_true_eq] at h
      exact ⟨_, _, rfl, rfl, h, q _ F H (.refl fh) (.int _)⟩
    · cases e
  · split at e
    · rename_i h
      cases e; cases rx; cases ry
      exact ⟨_, _, rfl, rfl, by simpa using h, q _ F H (.refl fh) (.int _)⟩
    · cases e
  · split at e
    · rename_i h
      cases e; cases rx; cases ry
      simp only [Bool.and_eq_true, decide_eq_true_eq] at h
      exact ⟨_, _, rfl, rfl, ⟨h.1.1, h.1.2, h.2⟩, q _ F H (.refl fh) (.int _)⟩
    · cases e
  · split at e
    · rename_i h
      cases e; cases rx; cases ry
      exact ⟨_, _, rfl, rfl, of_decide_eq_true h, q _ F H (.refl fh) (.int _)⟩
    · cases e
  · rename_i i j
    split at e
    · rename_i h
      cases e; cases rx; cases ry
      simp only [Bool.and_eq_true, decide_eq_true_eq] at h
      obtain ⟨h1, rfl⟩ := h
      obtain ⟨n, rfl⟩ := Int.eq_ofNat_of_zero_le h1
      exact ⟨n, rfl, rfl, q _ F H (.refl fh) (.int _)⟩
    · cases e
  · rename_i a b
    split at e
    · rename_i h
      cases e
      cases rx with
      | tup r1 r2 =>
        cases ry with
        | tup s1 s2 =>
          have hx := same_t fh r1
          have hy := same_t fh s1
          have l1 := r2.length
          have l2 := s2.length
          refine .inr (.inl ⟨_, _, _, _, rfl, rfl, hx, hy, by rw [sz, l1, l2]; exact h, fun z => ?_, fun _ z => ?_, fun z1 z2 => new_tup fh (r2.append s2) q⟩)
          · have : a = [] := r2.nil_iff.mp z
            subst this
            exact q _ F H (.refl fh) (.tup s1 s2)
          · have : b = [] := s2.nil_iff.mp z
            subst this
            rw [List.append_nil] at q
            exact q _ F H (.refl fh) (.tup r1 r2)
    · cases e
  · rename_i a b
    split at e
    · rename_i h
      cases e
      cases rx with
      | lst r1 r2 =>
        cases ry with
        | lst s1 s2 =>
          have l1 := r2.length
          have l2 := s2.length
          exact .inr (.inr ⟨_, _, _, _, rfl, rfl, fh _ _ r1, fh _ _ s1, by rw [sz, l1, l2]; exact h, new_lst fh (r2.append s2) q⟩)
    · cases e
  · cases e
/-! ### comparisons -/
mutual
theorem toPy_ok (fh : Same F H) : ∀ (d : D) (v : V) (p : PyData), Dr K F ρ v d → toPy d = some p → Dp K H v p
  | .non, _, _, h, e => by cases h; cases e; exact .non
  | .bl _, _, _, h, e => by cases h; cases e; exact .bl _
  | .int _, _, _, h, e => by cases h; cases e; exact .int _
  | .str _, _, _, h, e => by cases h; cases e; exact .str _
  | .tup ds, _, p, h, e => by
    cases h with
    | tup a b =>
      unfold toPy at e
      obtain ⟨ps, h1, h2⟩ := Option.map_eq_some_iff.mp e
      subst h2
      exact .tup (same_t fh a) (toPys_ok fh ds _ _ b h1)
  | .lst ds, _, p, h, e => by
    cases h with
    | lst a b =>
      unfold toPy at e
      obtain ⟨ps, h1, h2⟩ := Option.map_eq_some_iff.mp e
      subst h2
      exact .lst (.inl (.inl (fh _ _ a))) (toPys_ok fh ds _ _ b h1)
  | .scr ds, _, p, h, e => by
    cases h with
    | scr a b =>
      unfold toPy at e
      obtain ⟨ps, h1, h2⟩ := Option.map_eq_some_iff.mp e
      subst h2
      exact .lst (fh.seq a) (toPys_ok fh ds _ _ b h1)
  | .mr _, _, _, h, e => by unfold toPy at e; cases e
  | .rg _ _, _, _, h, e => by unfold toPy at e; cases e
theorem toPys_ok (fh : Same F H) : ∀ (ds : List D) (vs : List V) (ps : List PyData), DrL K F ρ vs ds → toPys ds = some ps → DpAll K H vs ps
  | [], _, _, h, e => by cases h; cases e; exact .nil
  | d :: ds, _, ps, h, e => by
    cases h with
    | cons a b =>
      unfold toPys at e
      obtain ⟨p, h1, h2⟩ := Option.bind_eq_some_iff.mp e
      obtain ⟨qs, h3, h4⟩ := Option.map_eq_some_iff.mp h2
      subst h4
      exact .cons (toPy_ok fh d _ _ a h1) (toPys_ok fh ds _ _ b h3)
end
def cmpOf (K : PySem.W.Frag) : CmpOp → R2
  | .Lt => rI0 (fun i j => .bl (decide (i < j)))
  | .LtE => rI0 (fun i j => .bl (decide (i ≤ j)))
  | .Gt => rI0 (fun i j => .bl (decide (j < i)))
  | .GtE => rI0 (fun i j => .bl (decide (j ≤ i)))
  | .Eq => rEqD K
  | .NotEq => rNeD K
  | .In => rInD K
  | .NotIn => rNotInD K
  | .Is => rIsB
  | .IsNot => rNotB
theorem cmp_of (X : Cx) (hu : X.A.units + 65 < cLine) (op : CmpOp) : OpR X (compareOp op) (cmpOf X.K op) := by
  cases op with
  | Lt => exact op_lt
  | LtE => exact op_le
  | Gt => exact op_gt
  | GtE => exact op_ge
  | Eq => exact op_eqD (by omega)
  | NotEq => exact op_neD (by omega)
  | In => exact op_inD hu
  | NotIn => exact op_notInD hu
  | Is => exact op_isBl
  | IsNot => exact op_notBl
theorem eqS_ok (fh : Same F H) {x y : V} {dx dy : D} {b : Bool} (rx : Dr K F ρ x dx) (ry : Dr K F ρ y dy) (e : eqS dx dy = some b) : ∃ p q, Dp K H x p ∧ Dp K H y q ∧ SeqAt.shaped p = true ∧ SeqAt.shaped q = true ∧ PyData.eqv p q = b := by
  unfold eqS at e
  obtain ⟨p, h1, h2⟩ := Option.bind_eq_some_iff.mp e
  obtain ⟨q, h3, h4⟩ := Option.bind_eq_some_iff.mp h2
  split at h4
  · rename_i hs
    cases h4
    simp only [Bool.and_eq_true] at hs
    exact ⟨p, q, toPy_ok fh _ _ _ rx h1, toPy_ok fh _ _ _ ry h3, hs.1, hs.2, rfl⟩
  · cases h4
theorem inS_ok (fh : Same F H) {x y : V} {dx dy : D} {b : Bool} (rx : Dr K F ρ x dx) (ry : Dr K F ρ y dy) (e : inS dx dy = some b) : ∃ p ps, Dp K H x p ∧ Dp K H y (.list ps) ∧ SeqAt.shaped p = true ∧ SeqAt.shaped (.list ps) = true ∧ (ps.any fun z => PyData.eqv z p) = b := by
  unfold inS at e
  obtain ⟨p, h1, h2⟩ := Option.bind_eq_some_iff.mp e
  obtain ⟨q, h3, h4⟩ := Option.bind_eq_some_iff.mp h2
  split at h4
  case h_2 => cases h4
  rename_i ps
  split at h4
  · rename_i hs
    cases h4
    simp only [Bool.and_eq_true] at hs
    exact ⟨p, ps, toPy_ok fh _ _ _ rx h1, toPy_ok fh _ _ _ ry h3, hs.1, hs.2, rfl⟩
  · cases h4
theorem cmpS_ok (op : CmpOp) (fh : Same F H) {x y : V} {dx dy : D} {b : Bool} {Q : VK} (rx : Dr K F ρ x dx) (ry : Dr K F ρ y dy) (e : cmpS op dx dy = some b) (q : Q (.bl b) H) : cmpOf K op x y H Q := by
  unfold cmpS at e
  split at e
  · cases e; cases rx; cases ry; exact ⟨_, _, rfl, rfl, q⟩
  · cases e; cases rx; cases ry; exact ⟨_, _, rfl, rfl, q⟩
  · cases e; cases rx; cases ry; exact ⟨_, _, rfl, rfl, q⟩
  · cases e; cases rx; cases ry; exact ⟨_, _, rfl, rfl, q⟩
  · obtain ⟨p, r, h1, h2, h3, h4, h5⟩ := eqS_ok fh rx ry e
    subst h5
    exact ⟨p, r, h1, h2, h3, h4, q⟩
  · obtain ⟨k, h6, h7⟩ := Option.map_eq_some_iff.mp e
    obtain ⟨p, r, h1, h2, h3, h4, h5⟩ := eqS_ok fh rx ry h6
    subst h5; subst h7
    exact ⟨p, r, h1, h2, h3, h4, q⟩
  · obtain ⟨p, r, h1, h2, h3, h4, h5⟩ := inS_ok fh rx ry e
    subst h5
    exact ⟨p, r, h1, h2, h3, h4, q⟩
  · obtain ⟨k, h6, h7⟩ := Option.map_eq_some_iff.mp e
    obtain ⟨p, r, h1, h2, h3, h4, h5⟩ := inS_ok fh rx ry h6
    subst h5; subst h7
    exact ⟨p, r, h1, h2, h3, h4, q⟩
  · cases e; cases rx; cases ry; exact ⟨_, _, rfl, rfl, q⟩
  · cases e; cases rx; cases ry; exact ⟨_, _, rfl, rfl, q⟩
  · cases e
theorem isNon_ok {x : V} {d : D} (r : Dr K F ρ x d) : decide (x = .non) = isNon d := by
  cases r <;> simp [isNon]
theorem truS_ok (fh : Same F H) {x : V} {d : D} {b : Bool} (r : Dr K F ρ x d) (e : truS d = some b) : TruV K x H b := by
  cases r with
  | non => cases e; exact rfl
  | bl b => cases e; exact rfl
  | int i => cases e; exact rfl
  | tup r1 r2 =>
    cases e
    refine .inr (.inl ⟨_, same_t fh r1, ?_⟩)
    cases r2 <;> rfl
  | lst r1 r2 =>
    cases e
    refine .inl ⟨_, .inl (.inl (fh _ _ r1)), ?_⟩
    cases r2 <;> rfl
  | _ => cases e
/-! ### items -/
theorem itsS_ok (fh : Same F H) (c : Cells K F H ρ μ) {x : V} {d : D} {ds : List D} (r : Dr K F ρ x d) (e : itsS μ d = some ds) : ∃ a xs, x = .ref a ∧ (SqL K H a xs ∨ SqT K H a xs) ∧ DrL K F ρ xs ds ∧ (SqT K H a xs → True) := by
  cases r with
  | tup r1 r2 => cases e; exact ⟨_, _, rfl, .inr (same_t fh r1), r2, fun _ => trivial⟩
  | lst r1 r2 => cases e; exact ⟨_, _, rfl, .inl (.inl (.inl (fh _ _ r1))), r2, fun _ => trivial⟩
  | scr r1 r2 => cases e; exact ⟨_, _, rfl, .inl (fh.seq r1), r2, fun _ => trivial⟩
  | mr h =>
    obtain ⟨_, xs, h1, h2⟩ := c.at_ _ _ _ h e
    exact ⟨_, xs, rfl, .inl (.inl (.inl h1)), h2, fun _ => trivial⟩
  | _ => cases e
theorem atI_ok {xs : List V} {ds : List D} {i : Int} {d : D} (r : DrL K F ρ xs ds) (e : atI ds i = some d) : ∃ v, atI xs i = some v ∧ Dr K F ρ v d := by
  unfold atI at e ⊢
  rw [r.length]
  obtain ⟨j, h1, h2⟩ := Option.bind_eq_some_iff.mp e
  obtain ⟨v, h3, h4⟩ := r.get h2
  exact ⟨v, Option.bind_eq_some_iff.mpr ⟨j, h1, h3⟩, h4⟩
theorem ixS_ok (fh : Same F H) (c : Cells K F H ρ μ) {x y : V} {dx dy d : D} {Q : VK} (rx : Dr K F ρ x dx) (ry : Dr K F ρ y dy) (e : ixS μ dx dy = some d) (q : ∀ v, Dr K F ρ v d → Q v H) : rIx K x y H Q := by
  unfold ixS at e
  split at e
  · obtain ⟨ds, h1, h2⟩ := Option.bind_eq_some_iff.mp e
    cases ry
    obtain ⟨a, xs, rfl, h3, h4, _⟩ := itsS_ok fh c rx h1
    obtain ⟨v, h5, h6⟩ := atI_ok h4 h2
    rcases h3 with h3 | h3
    · exact .inl ⟨_, _, _, v, rfl, rfl, h3, h5, q v h6⟩
    · exact .inr (.inl ⟨_, _, _, v, rfl, rfl, h3, h5, q v h6⟩)
  · cases e
theorem cut_ok {xs : List V} {ds : List D} (r : DrL K F ρ xs ds) (lo hi : Option Int) : DrL K F ρ (cutV xs lo hi) (cutS ds lo hi) := by
  unfold cutV cutS
  rw [r.length]
  exact (r.drop _).take _
def slOf (K : PySem.W.Frag) : V → Option Int → Option Int → Hp → VK → Prop := fun x lo hi H Q => rSlA K x lo hi H Q ∨ rSlL K x lo hi H Q
theorem sl_of (X : Cx) : SlR X (slOf X.K) := sl_tupA.or sl_list
theorem slcS_ok (fh : Same F H) {x : V} {dx d : D} {lo hi : Option Int} {Q : VK} (rx : Dr K F ρ x dx) (e : slcS dx lo hi = some d) (q : ∀ v F' H', PX F H F' H' → Dr K F' ρ v d → Q v H') : slOf K x lo hi H Q := by
  unfold slcS at e
  split at e
  · cases e
    cases rx with
    | tup r1 r2 =>
      refine .inl ⟨_, _, rfl, same_t fh r1, fun z => ?_, fun _ => new_tup fh (cut_ok r2 lo hi) q⟩
      refine q _ F H (.refl fh) (.tup r1 ?_)
      have e : cutS _ lo hi = _ := show cutS _ lo hi = _ from (by
        unfold cutS
        rw [← r2.length, z.1, z.2, List.drop_zero, Nat.sub_zero, r2.length, List.take_length])
      rw [e]
      exact r2
  · cases e
    cases rx with
    | lst r1 r2 => exact .inr ⟨_, _, rfl, .inl (.inl (fh _ _ r1)), new_lst fh (cut_ok r2 lo hi) q⟩
  · cases e
end
end Py
end
section
set_option Elab.async false
set_option linter.all false
set_option maxRecDepth 100000
namespace Py
open PySem L2
def biName : Bi → Str
  | .len => "len" | .abs => "abs" | .max => "max" | .min => "min" | .sum => "sum" | .tuple => "tuple" | .list => "list" | .int => "int" | .minp => "min" | .range => "range"
def biOf (K : PySem.W.Frag) : Bi → List V → Hp → VK → Prop
  | .len => fun xs H Q => ∃ p ys, xs = [.ref p] ∧ (SqL K H p ys ∨ SqT K H p ys) ∧ Q (.int ys.length) H
  | .abs => fun xs H Q => ∃ i, xs = [.int i] ∧ Q (.int (if i < 0 then -i else i)) H
  | .max => fun xs H Q => (∃ i j, xs = [.int i, .int j] ∧ Q (.int (if j > i then j else i)) H) ∨ rMax K xs H Q
  | .min => fun xs H Q => (∃ i j, xs = [.int i, .int j] ∧ Q (.int (if j < i then j else i)) H) ∨ rMin K xs H Q
  | .sum => rSum K
  | .tuple => fun xs H Q => ∃ p ys, xs = [.ref p] ∧ ((SqL K H p ys ∧ ∀ l, H l = none → Q (.ref l) (upd H l (.tup ys))) ∨ (SqT K H p ys ∧ Q (.ref p) H))
  | .list => fun xs H Q => ∃ p ys, xs = [.ref p] ∧ (SqL K H p ys ∨ SqT K H p ys) ∧ ∀ l, H l = none → Q (.ref l) (upd H l (.lst ys))
  | .int => fun xs H Q => (∃ i, xs = [.int i] ∧ Q (.int i) H) ∨ ∃ k, xs = [.bl k] ∧ Q (.int (if k then 1 else 0)) H
  | .minp => rMinP K
  | .range => fun xs H Q => (∃ j, xs = [.int j] ∧ ∀ p, H p = none → Q (.ref p) (upd H p (.rng 0 j))) ∨ ∃ i j, xs = [.int i, .int j] ∧ ∀ p, H p = none → Q (.ref p) (upd H p (.rng i j))
theorem starEach_cons {e : Expr} {es : List Expr} {env : PySem.Env} (h : ∀ v p, e ≠ .Starred v p) : starEach (e :: es) env = (false, eval e env) :: starEach es env := by
  cases e <;> first | rfl | exact absurd rfl (h _ _)
theorem cr_range1 {X : Cx} : CallR X (.type "range") (fun vs H Q => ∃ j, vs = [V.int j] ∧ ∀ p, H p = none → Q (.ref p) (upd H p (.rng 0 j))) := by
  intro pins s σ H vs us Q I r h
  obtain ⟨j, rfl, q⟩ := h
  obtain ⟨u, rfl, t, rfl⟩ := vals1 r
  refine PySem.call_range_1 ⟨.ref s.heap.objs.size, upd H s.heap.objs.size (.rng 0 j), I.laid (t' := _) (fun b o e => Heap.get?_push_of_some _ e) (Nat.le_refl _) ?_, rfl, q _ (I.hok.fresh (Nat.le_refl _))⟩
  exact ⟨_, _, _, Heap.get?_push_size _ rfl⟩
section
variable {X : Cx} {e : Expr} {es : List Expr} {p pos : Pos} {t : TA}
theorem pe_bi (b : Bi) (hu : X.A.units + 16 < cLine) (hc : X.calm = true) (hg : Gl X (biName b)) (hm : X.mg (biName b) = none) (ha : PA X (e :: es) t) (hs : ∀ v p, e ≠ .Starred v p) (hpl : (backTo pos (starEach es X.env)).any (·.1) = false) :
    PE X (.Call (.Name (biName b) p) (e :: es) [] pos) (tCB (biOf X.K b) t) := by
  cases b with
  | len => exact pe_callB call_len_seq hg hm (by decide +kernel) ha (by decide) (by decide) (starEach_cons hs) hpl
  | abs => exact pe_callB call_abs hg hm (by decide +kernel) ha (by decide) (by decide) (starEach_cons hs) hpl
  | max => exact pe_callB ((call_max2 hc).or (cr_max hc)) hg hm (by decide +kernel) ha (by decide) (by decide) (starEach_cons hs) hpl
  | min => exact pe_callB ((call_min2 hc).or (cr_min hc)) hg hm (by decide +kernel) ha (by decide) (by decide) (starEach_cons hs) hpl
  | minp => exact pe_callB (cr_minP hc hu) hg hm (by decide +kernel) ha (by decide) (by decide) (starEach_cons hs) hpl
  | sum => exact pe_callB (cr_sum hc) hg hm (by decide +kernel) ha (by decide) (by decide) (starEach_cons hs) hpl
  | tuple => exact pe_callTy call_tuple_of hg hm (by decide +kernel) ha (by decide) (by decide) (starEach_cons hs) hpl
  | list => exact pe_callTy call_list_of hg hm (by decide +kernel) ha (by decide) (by decide) (starEach_cons hs) hpl
  | range => exact pe_callTy (cr_range1.or cr_range2) hg hm (by decide +kernel) ha (by decide) (by decide) (starEach_cons hs) hpl
  | int => exact pe_callTy call_int1 hg hm (by decide +kernel) ha (by decide) (by decide) (starEach_cons hs) hpl
end
section
variable {K : PySem.W.Frag} {B F H F' H' : Hp} {ρ ρ' : List Addr} {σ : L2.St} {env : Env} {μ μ' : Store}
theorem asInts_ok : ∀ {ds : List D} {ns : List Int} {xs : List V}, DrL K F ρ xs ds → asInts ds = some ns → xs = ns.map V.int
  | [], _, _, h, e => by cases h; cases e; rfl
  | d :: ds, ns, _, .cons a b, e => by
    unfold asInts at e
    obtain ⟨i, h1, h2⟩ := Option.bind_eq_some_iff.mp e
    obtain ⟨is, h3, h4⟩ := Option.map_eq_some_iff.mp h2
    subst h4
    rw [asInts_ok b h3]
    unfold asInt at h1
    split at h1
    · cases h1; cases a; rfl
    · cases h1
theorem maxI_mem : ∀ (l : List Int), l ≠ [] → maxI l ∈ l ∧ ∀ y ∈ l, y ≤ maxI l
  | [], h => absurd rfl h
  | [x], _ => by
    rw [maxI]
    exact ⟨by simp, fun y hy => by simp at hy; omega⟩
  | x :: y :: r, _ => by
    rw [maxI]
    obtain ⟨h1, h2⟩ := maxI_mem ((if y > x then y else x) :: r) (by simp)
    generalize maxI ((if y > x then y else x) :: r) = m at h1 h2 ⊢
    constructor
    · rcases List.mem_cons.mp h1 with h | h
      · rw [h]; split <;> simp
      · exact List.mem_cons_of_mem _ (List.mem_cons_of_mem _ h)
    · intro z hz
      have h0 := h2 (if y > x then y else x) (by simp)
      rcases List.mem_cons.mp hz with h | h
      · subst h; split at h0 <;> omega
      · rcases List.mem_cons.mp h with h | h
        · subst h; split at h0 <;> omega
        · exact h2 z (List.mem_cons_of_mem _ h)
termination_by l => l.length
theorem minI_mem : ∀ (l : List Int), l ≠ [] → minI l ∈ l ∧ ∀ y ∈ l, minI l ≤ y
  | [], h => absurd rfl h
  | [x], _ => by
    rw [minI]
    exact ⟨by simp, fun y hy => by simp at hy; omega⟩
  | x :: y :: r, _ => by
    rw [minI]
    obtain ⟨h1, h2⟩ := minI_mem ((if y < x then y else x) :: r) (by simp)
    generalize minI ((if y < x then y else x) :: r) = m at h1 h2 ⊢
    constructor
    · rcases List.mem_cons.mp h1 with h | h
      · rw [h]; split <;> simp
      · exact List.mem_cons_of_mem _ (List.mem_cons_of_mem _ h)
    · intro z hz
      have h0 := h2 (if y < x then y else x) (by simp)
      rcases List.mem_cons.mp hz with h | h
      · subst h; split at h0 <;> omega
      · rcases List.mem_cons.mp h with h | h
        · subst h; split at h0 <;> omega
        · exact h2 z (List.mem_cons_of_mem _ h)
termination_by l => l.length
theorem DrL.two {xs : List V} {d1 d2 : D} (h : DrL K F ρ xs [d1, d2]) : ∃ x y, xs = [x, y] ∧ Dr K F ρ x d1 ∧ Dr K F ρ y d2 := by
  cases h with
  | cons a b => cases b with
    | cons c d => cases d; exact ⟨_, _, rfl, a, c⟩
theorem DrL.one {xs : List V} {d1 : D} (h : DrL K F ρ xs [d1]) : ∃ x, xs = [x] ∧ Dr K F ρ x d1 := by
  cases h with
  | cons a b => cases b; exact ⟨_, rfl, a⟩
theorem lstS_ok (fh : Same F H) (c : Cells K F H ρ μ) {x : V} {d : D} {ds : List D} (r : Dr K F ρ x d) (e : lstS μ d = some ds) : ∃ a xs, x = .ref a ∧ SqL K H a xs ∧ DrL K F ρ xs ds := by
  cases r with
  | lst r1 r2 => cases e; exact ⟨_, _, rfl, .inl (.inl (fh _ _ r1)), r2⟩
  | scr r1 r2 => cases e; exact ⟨_, _, rfl, fh.seq r1, r2⟩
  | mr h =>
    obtain ⟨_, xs, h1, h2⟩ := c.at_ _ _ _ h e
    exact ⟨_, xs, rfl, .inl (.inl h1), h2⟩
  | _ => cases e
theorem asPair_ok {x : V} {d : D} {p : Int × Int} (r : Dr K F ρ x d) (e : asPair d = some p) : (∃ t, x = .ref t ∧ SqT K F t [.int p.1, .int p.2]) ∧ d = .tup [.int p.1, .int p.2] := by
  unfold asPair at e
  split at e
  · cases e
    cases r with
    | tup r1 r2 =>
      cases r2 with
      | cons a b => cases a; cases b with | cons a b => cases a; cases b; exact ⟨⟨_, rfl, r1⟩, rfl⟩
  · cases e
theorem asPairs_ok (fh : Same F H) : ∀ {xs : List V} {ds : List D} {ps : List (Int × Int)}, DrL K F ρ xs ds → asPairs ds = some ps → PairsV K H xs ps ∧ ds = ps.map fun p => .tup [.int p.1, .int p.2]
  | _, [], _, r, e => by cases r; cases e; exact ⟨.nil, rfl⟩
  | _, d :: ds, _, r, e => by
    cases r with
    | cons a b =>
      rw [asPairs] at e
      obtain ⟨p, e1, e2⟩ := Option.bind_eq_some_iff.mp e
      obtain ⟨ps, e3, e4⟩ := Option.map_eq_some_iff.mp e2
      subst e4
      obtain ⟨⟨t, h1, h2⟩, h3⟩ := asPair_ok a e1
      obtain ⟨h4, h5⟩ := asPairs_ok fh b e3
      subst h3 h5
      exact ⟨.cons ⟨t, h1, same_t fh h2⟩ h4, rfl⟩
theorem biS_ok (b : Bi) (fh : Same F H) (c : Cells K F H ρ μ) {xs : List V} {ds : List D} {d : D} {Q : VK} (r : DrL K F ρ xs ds) (e : biS μ b ds = some d) (q : ∀ v F' H', PX F H F' H' → Dr K F' ρ v d → Q v H') : biOf K b xs H Q := by
  unfold biS at e
  split at e
  · obtain ⟨es, h1, h2⟩ := Option.map_eq_some_iff.mp e
    subst h2
    obtain ⟨x, rfl, rx⟩ := r.one
    obtain ⟨a, ys, rfl, h3, h4, _⟩ := itsS_ok fh c rx h1
    exact ⟨a, ys, rfl, h3, q _ F H (.refl fh) (by rw [h4.length]; exact .int _)⟩
  · cases e
    obtain ⟨x, rfl, rx⟩ := r.one
    cases rx
    exact ⟨_, rfl, q _ F H (.refl fh) (.int _)⟩
  · cases e
    obtain ⟨x, y, rfl, rx, ry⟩ := r.two
    cases rx; cases ry
    exact .inl ⟨_, _, rfl, q _ F H (.refl fh) (.int _)⟩
  · cases e
    obtain ⟨x, y, rfl, rx, ry⟩ := r.two
    cases rx; cases ry
    exact .inl ⟨_, _, rfl, q _ F H (.refl fh) (.int _)⟩
  · obtain ⟨es, h1, h2⟩ := Option.bind_eq_some_iff.mp e
    obtain ⟨ns, h3, h4⟩ := Option.bind_eq_some_iff.mp h2
    split at h4
    · cases h4
    · rename_i hne
      cases h4
      obtain ⟨x, rfl, rx⟩ := r.one
      obtain ⟨a, ys, rfl, h5, h6⟩ := lstS_ok fh c rx h1
      have e1 := asInts_ok h6 h3
      subst e1
      have ne : ns ≠ [] := fun z => by subst z; exact hne rfl
      obtain ⟨m1, m2⟩ := maxI_mem ns ne
      refine .inr ⟨a, ns, rfl, h5, List.length_pos_iff.mpr ne, fun m k1 k2 => ?_⟩
      have : m = maxI ns := by have := m2 m k1; have := k2 _ m1; omega
      rw [this]
      exact q _ F H (.refl fh) (.int _)
  · obtain ⟨es, h1, h2⟩ := Option.bind_eq_some_iff.mp e
    obtain ⟨ns, h3, h4⟩ := Option.bind_eq_some_iff.mp h2
    split at h4
    · cases h4
    · rename_i hne
      cases h4
      obtain ⟨x, rfl, rx⟩ := r.one
      obtain ⟨a, ys, rfl, h5, h6⟩ := lstS_ok fh c rx h1
      have e1 := asInts_ok h6 h3
      subst e1
      have ne : ns ≠ [] := fun z => by subst z; exact hne rfl
      obtain ⟨m1, m2⟩ := minI_mem ns ne
      refine .inr ⟨a, ns, rfl, h5, List.length_pos_iff.mpr ne, fun m k1 k2 => ?_⟩
      have : m = minI ns := by have := m2 m k1; have := k2 _ m1; omega
      rw [this]
      exact q _ F H (.refl fh) (.int _)
  · obtain ⟨es, h1, h2⟩ := Option.bind_eq_some_iff.mp e
    obtain ⟨ns, h3, h4⟩ := Option.map_eq_some_iff.mp h2
    subst h4
    obtain ⟨x, rfl, rx⟩ := r.one
    obtain ⟨a, ys, rfl, h5, h6⟩ := lstS_ok fh c rx h1
    have e1 := asInts_ok h6 h3
    subst e1
    exact ⟨a, ns, rfl, h5, q _ F H (.refl fh) (.int _)⟩
  · rename_i d0
    obtain ⟨es, h1, h2⟩ := Option.map_eq_some_iff.mp e
    subst h2
    obtain ⟨x, rfl, rx⟩ := r.one
    cases rx with
    | tup r1 r2 => cases h1; exact ⟨_, _, rfl, .inr ⟨same_t fh r1, q _ F H (.refl fh) (.tup r1 r2)⟩⟩
    | lst r1 r2 => cases h1; exact ⟨_, _, rfl, .inl ⟨.inl (.inl (fh _ _ r1)), new_tup fh r2 q⟩⟩
    | scr r1 r2 => cases h1; exact ⟨_, _, rfl, .inl ⟨fh.seq r1, new_tup fh r2 q⟩⟩
    | mr h =>
      obtain ⟨_, zs, k1, k2⟩ := c.at_ _ _ _ h h1
      exact ⟨_, _, rfl, .inl ⟨.inl (.inl k1), new_tup fh k2 q⟩⟩
    | _ => cases h1
  · obtain ⟨es, h1, h2⟩ := Option.map_eq_some_iff.mp e
    subst h2
    obtain ⟨x, rfl, rx⟩ := r.one
    obtain ⟨a, ys, rfl, h3, h4, _⟩ := itsS_ok fh c rx h1
    exact ⟨a, ys, rfl, h3, new_lst fh h4 q⟩
  · cases e
    obtain ⟨x, rfl, rx⟩ := r.one
    cases rx
    exact .inl ⟨_, rfl, q _ F H (.refl fh) (.int _)⟩
  · cases e
    obtain ⟨x, rfl, rx⟩ := r.one
    cases rx
    exact .inr ⟨_, rfl, q _ F H (.refl fh) (.int _)⟩
  · cases e
    obtain ⟨x, rfl, rx⟩ := r.one
    cases rx
    exact .inl ⟨_, rfl, new_rg fh q⟩
  · cases e
    obtain ⟨x, y, rfl, rx, ry⟩ := r.two
    cases rx; cases ry
    exact .inr ⟨_, _, rfl, new_rg fh q⟩
  · obtain ⟨es, h1, h2⟩ := Option.bind_eq_some_iff.mp e
    obtain ⟨ps, h3, h4⟩ := Option.bind_eq_some_iff.mp h2
    split at h4
    · cases h4
    · rename_i p0 r0
      cases h4
      obtain ⟨x, rfl, rx⟩ := r.one
      obtain ⟨a, ys, rfl, h5, h6⟩ := lstS_ok fh c rx h1
      obtain ⟨h7, h8⟩ := asPairs_ok fh h6 h3
      refine ⟨a, ys, p0, r0, rfl, h5, h7, fun v i k1 k2 => ?_⟩
      obtain ⟨dd, k3, k4⟩ := h6.getV k1
      rw [h8, List.getElem?_map, k2] at k3
      cases k3
      exact q _ F H (.refl fh) k4
  · cases e
/-! ### isinstance -/
def tyN : Ty → String
  | .int => "int" | .bool => "bool" | .str => "str" | .tup => "tuple" | .lst => "list"
def tyS : Ty → Str
  | .int => "int" | .bool => "bool" | .str => "str" | .tup => "tuple" | .lst => "list"
def dN : D → String
  | .non => "NoneType" | .bl _ => "bool" | .int _ => "int" | .str _ => "str" | .tup _ => "tuple" | _ => "list"
theorem tyX_ok (fh : Same F H) {x : V} {d : D} (r : Dr K F ρ x d) (h : isiS d .int ≠ none) : TyX K H x (.type (dN d)) := by
  cases r with
  | non => exact .base .non
  | bl b => exact .base (.bl b)
  | int i => exact .base (.int i)
  | str s => exact .base (.str s)
  | tup r1 r2 =>
    rcases r1 with (r1 | ⟨o, r1⟩) | ⟨o, its, n, h1, h2, _⟩
    · exact .base (.tup (fh _ _ r1))
    · exact .fTuple (fh _ _ r1)
    · exact .kTuple h1 h2
  | lst r1 r2 => exact .base (.lst (fh _ _ r1))
  | _ => exact absurd rfl h
theorem kit_ok (d : D) (t : Ty) (b : Bool) (h : isiS d t = some b) : kitB (dN d) (tyN t) = some b := by
  cases d <;> cases t <;> first
    | (cases h; dsimp only [dN, tyN]; decide +kernel)
    | cases h
theorem isiS_ok (fh : Same F H) {x : V} {d : D} {t : Ty} {b : Bool} {Q : VK} (r : Dr K F ρ x d) (e : isiS d t = some b) (q : Q (.bl b) H) : rIsi K [x, .ty (tyN t)] H Q := by
  refine ⟨x, _, .type (dN d), .type (tyN t), b, rfl, .ty _, tyX_ok fh r ?_, kit_ty (kit_ok d t b e), q⟩
  cases d <;> cases t <;> first | (cases e; exact fun z => nomatch z) | cases e
end
end Py
end
section
set_option Elab.async false
set_option linter.all false
set_option maxRecDepth 100000
namespace Py
open PySem L2
/-! ### which text a syntax stands for -/
structure MC where
  N : List Str
  fns : List Str
  gls : List Str
def visB (sc : Scope) (x : Str) : Bool := match sc.names.lookup x with
  | some .local => true | some .cell => true | some .free => true | _ => false
def locB (sc : Scope) (x : Str) : Bool := match sc.names.lookup x with
  | some .local => true | some .cell => true | _ => false
def gloB (sc : Scope) (x : Str) : Bool := match sc.names.lookup x with
  | some .globalImplicit => true | _ => false
def okName (x : Str) : Bool := !(x == ("__debug__" : Str)) && !(x == ("__classdict__" : Str))
mutual
def mT (C : MC) (sc : Scope) : T → Expr → Bool
  | .nm i, .Name x _ => decide (C.N[i]? = some x) && locB sc x
  | .tp ts, .Tuple es _ _ => mTs C sc ts es
  | _, _ => false
def mTs (C : MC) (sc : Scope) : List T → List Expr → Bool
  | [], [] => true
  | t :: ts, e :: es => mT C sc t e && mTs C sc ts es
  | _, _ => false
end
def sliceB : Expr → Bool
  | .Slice .. => true | _ => false
def isTup : Expr → Bool
  | .Tuple .. => true | _ => false
mutual
def mE (C : MC) (sc : Scope) : E → Expr → Bool
  | .slot i, .Name x _ => decide (C.N[i]? = some x) && visB sc x && okName x
  | .glob g, .Name x _ => decide (C.gls[g]? = some x) && gloB sc x && okName x
  | .int i, .Constant (.int j) _ _ => decide (i = j)
  | .bl i, .Constant (.bool j) _ _ => decide (i = j)
  | .non, .Constant .none _ _ => true
  | .str i, .Constant (.str j) _ _ => decide (i = j)
  | .bin op a b, .BinOp x op' y _ => decide (op = op') && mE C sc a x && mE C sc b y
  | .neg a, .UnaryOp .USub x _ => mE C sc a x
  | .cmp op a b, .Compare x [op'] [y] _ => decide (op = op') && mE C sc a x && mE C sc b y
  | .isN a, .Compare x [.Is] [.Constant .none _ _] _ => mE C sc a x
  | .notN a, .Compare x [.IsNot] [.Constant .none _ _] _ => mE C sc a x
  | .not a, .UnaryOp .Not x _ => mE C sc a x
  | .and a r, .BoolOp .And (x :: xs) _ => mE C sc a x && mEs C sc r xs
  | .or a r, .BoolOp .Or (x :: xs) _ => mE C sc a x && mEs C sc r xs
  | .ite c a b, .IfExp z x y _ => mE C sc c z && mE C sc a x && mE C sc b y
  | .tup es, .Tuple xs _ _ => mEs C sc es xs
  | .lst es, .List xs _ => mEs C sc es xs
  | .mlst es, .List xs _ => mEs C sc es xs
  | .ix a b, .Subscript x y _ => mE C sc a x && mE C sc b y
  | .slc a lo hi, .Subscript x (.Slice l h none _) _ => mE C sc a x && mEo C sc lo l && mEo C sc hi h
  | .call f e es, .Call (.Name x _) (y :: ys) [] _ => decide (C.fns[f]? = some x) && gloB sc x && okName x && mE C sc e y && mEs C sc es ys
  | .bi b e es, .Call (.Name x _) (y :: ys) [] _ => decide (x = biName b) && gloB sc x && mE C sc e y && mEs C sc es ys
  | .isi e t, .Call (.Name x _) [y, .Name z _] [] _ => decide (x = ("isinstance" : Str)) && gloB sc x && mE C sc e y && decide (z = tyS t) && gloB sc z
  | .lc e t it c vs, .ListComp x [⟨tg, iter, ifs, a⟩] scope _ => decide (a = 0) && blkC C.N sc scope (vs.map fun i => (C.N.getD i "", i)) && (tgS t).all (fun i => vs.contains i) && mI C sc it iter (isTup tg) && mT C scope t tg && mEc C scope c ifs && mE C scope e x
  | .bor _ e, x => mE C sc e x
  | .dIn neg i e, .Compare x [op] [.Name y _] _ => decide (op = if neg then .NotIn else .In) && decide (C.N[i]? = some y) && visB sc y && okName y && mE C sc e x
  | .dAt i e, .Subscript (.Name y _) x _ => decide (C.N[i]? = some y) && visB sc y && okName y && mE C sc e x
  | .dVals i, .Call (.Name f _) [.Call (.Attribute (.Name y _) m ap) [] [] cp] [] _ => decide (f = ("list" : Str)) && gloB sc f && decide (C.N[i]? = some y) && visB sc y && okName y && decide (m = ("values" : Str)) && (ap.endLine == cp.line)
  | .rngL e, .Call (.Name f _) [.Call (.Name g _) [x] [] _] [] _ => decide (f = ("list" : Str)) && gloB sc f && decide (g = ("range" : Str)) && gloB sc g && mE C sc e x
  | .rngL2 a b, .Call (.Name f _) [.Call (.Name g _) [x, y] [] _] [] _ => decide (f = ("list" : Str)) && gloB sc f && decide (g = ("range" : Str)) && gloB sc g && mE C sc a x && mE C sc b y
  | .rev e, .Subscript x (.Slice none none (some (.UnaryOp .USub (.Constant (.int 1) _ _) _)) _) _ => mE C sc e x
  | .chain op op' a b c, .Compare x [o, o'] [y, z] _ => decide (op = o) && decide (op' = o') && mE C sc a x && mE C sc b y && mE C sc c z
  | _, _ => false
def mEs (C : MC) (sc : Scope) : Es → List Expr → Bool
  | .nil, [] => true
  | .cons e es, x :: xs => mE C sc e x && mEs C sc es xs
  | _, _ => false
def mEo (C : MC) (sc : Scope) : Eo → Option Expr → Bool
  | .none, none => true
  | .some e, some x => mE C sc e x
  | _, _ => false
def mEc (C : MC) (sc : Scope) : Eo → List Expr → Bool
  | .none, [] => true
  | .some e, [x] => mE C sc e x
  | _, _ => false
def mI (C : MC) (sc : Scope) : I → Expr → Bool → Bool
  | .seq e, x, _ => mE C sc e x
  | .rng1 e, .Call (.Name f _) [x] [] _, _ => decide (f = ("range" : Str)) && gloB sc f && mE C sc e x
  | .rng2 a b, .Call (.Name f _) [x, y] [] _, _ => decide (f = ("range" : Str)) && gloB sc f && mE C sc a x && mE C sc b y
  | .zip a b, .Call (.Name f _) [x, y] [] _, k => k && decide (f = ("zip" : Str)) && gloB sc f && mE C sc a x && mE C sc b y
  | .rngD e, .Call (.Name f _) [x, .UnaryOp .USub (.Constant (.int 1) _ _) _, .UnaryOp .USub (.Constant (.int 1) _ _) _] [] _, _ => decide (f = ("range" : Str)) && gloB sc f && mE C sc e x
  | .enum a, .Call (.Name f _) [x] [] _, k => k && decide (f = ("enumerate" : Str)) && gloB sc f && mE C sc a x
  | _, _, _ => false
end
theorem mE_nostar {C : MC} {sc : Scope} : ∀ {m : E} {e : Expr}, mE C sc m e = true → (∀ v p, e ≠ .Starred v p) ∧ sliceB e = false := by
  intro m
  induction m using E.rec (motive_2 := fun _ => True) (motive_3 := fun _ => True) (motive_4 := fun _ => True) with
  | bor i e ih => intro x h; rw [mE] at h; exact ih h
  | nil => trivial
  | cons => trivial
  | none => trivial
  | some => trivial
  | seq => trivial
  | rng1 => trivial
  | rng2 => trivial
  | zip => trivial
  | enum => trivial
  | rngD => trivial
  | _ =>
    intro x h
    refine ⟨?_, ?_⟩
    · intro v p z
      subst z
      rw [mE] at h <;> first | cases h | (intros; contradiction)
    · cases x <;> first | rfl | (exfalso; rw [mE] at h <;> first | cases h | (intros; contradiction))
end Py
end
section
set_option Elab.async false
set_option linter.all false
set_option maxRecDepth 100000
namespace Py
open PySem L2
theorem mE_slot {C : MC} {sc : Scope} {e : Expr} {i : Nat} (h : mE C sc (.slot i) e = true) : ∃ x p, e = .Name x p ∧ (C.N[i]? = some x ∧ visB sc x = true) ∧ okName x = true := by
  unfold mE at h
  split at h <;> first | contradiction | skip
  rename_i q; cases q
  try simp only [Bool.and_eq_true, decide_eq_true_eq, Bool.not_eq_true'] at h
  exact ⟨_, _, rfl, h⟩
theorem mE_glob {C : MC} {sc : Scope} {e : Expr} {i : Nat} (h : mE C sc (.glob i) e = true) : ∃ x p, e = .Name x p ∧ (C.gls[i]? = some x ∧ gloB sc x = true) ∧ okName x = true := by
  unfold mE at h
  split at h <;> first | contradiction | skip
  rename_i q; cases q
  try simp only [Bool.and_eq_true, decide_eq_true_eq, Bool.not_eq_true'] at h
  exact ⟨_, _, rfl, h⟩
theorem mE_int {C : MC} {sc : Scope} {e : Expr} {i : Int} (h : mE C sc (.int i) e = true) : ∃ j k p, e = .Constant (.int j) k p ∧ i = j := by
  unfold mE at h
  split at h <;> first | contradiction | skip
  rename_i q; cases q
  try simp only [Bool.and_eq_true, decide_eq_true_eq, Bool.not_eq_true'] at h
  exact ⟨_, _, _, rfl, h⟩
theorem mE_bl {C : MC} {sc : Scope} {e : Expr} {i : Bool} (h : mE C sc (.bl i) e = true) : ∃ j k p, e = .Constant (.bool j) k p ∧ i = j := by
  unfold mE at h
  split at h <;> first | contradiction | skip
  rename_i q; cases q
  try simp only [Bool.and_eq_true, decide_eq_true_eq, Bool.not_eq_true'] at h
  exact ⟨_, _, _, rfl, h⟩
theorem mE_str {C : MC} {sc : Scope} {e : Expr} {i : Str} (h : mE C sc (.str i) e = true) : ∃ j k p, e = .Constant (.str j) k p ∧ i = j := by
  unfold mE at h
  split at h <;> first | contradiction | skip
  rename_i q; cases q
  try simp only [Bool.and_eq_true, decide_eq_true_eq, Bool.not_eq_true'] at h
  exact ⟨_, _, _, rfl, h⟩
theorem mE_bin {C : MC} {sc : Scope} {e : Expr} {op : Operator} {a b : E} (h : mE C sc (.bin op a b) e = true) : ∃ x o y p, e = .BinOp x o y p ∧ (op = o ∧ mE C sc a x = true) ∧ mE C sc b y = true := by
  unfold mE at h
  split at h <;> first | contradiction | skip
  rename_i q; cases q
  try simp only [Bool.and_eq_true, decide_eq_true_eq, Bool.not_eq_true'] at h
  exact ⟨_, _, _, _, rfl, h⟩
theorem mE_neg {C : MC} {sc : Scope} {e : Expr} {a : E} (h : mE C sc (.neg a) e = true) : ∃ x p, e = .UnaryOp .USub x p ∧ mE C sc a x = true := by
  unfold mE at h
  split at h <;> first | contradiction | skip
  rename_i q; cases q
  try simp only [Bool.and_eq_true, decide_eq_true_eq, Bool.not_eq_true'] at h
  exact ⟨_, _, rfl, h⟩
theorem mE_not {C : MC} {sc : Scope} {e : Expr} {a : E} (h : mE C sc (.not a) e = true) : ∃ x p, e = .UnaryOp .Not x p ∧ mE C sc a x = true := by
  unfold mE at h
  split at h <;> first | contradiction | skip
  rename_i q; cases q
  try simp only [Bool.and_eq_true, decide_eq_true_eq, Bool.not_eq_true'] at h
  exact ⟨_, _, rfl, h⟩
theorem mE_cmp {C : MC} {sc : Scope} {e : Expr} {op : CmpOp} {a b : E} (h : mE C sc (.cmp op a b) e = true) : ∃ x o y p, e = .Compare x [o] [y] p ∧ (op = o ∧ mE C sc a x = true) ∧ mE C sc b y = true := by
  unfold mE at h
  split at h <;> first | contradiction | skip
  rename_i q; cases q
  try simp only [Bool.and_eq_true, decide_eq_true_eq, Bool.not_eq_true'] at h
  exact ⟨_, _, _, _, rfl, h⟩
theorem mE_dIn {C : MC} {sc : Scope} {e : Expr} {neg : Bool} {i : Nat} {a : E} (h : mE C sc (.dIn neg i a) e = true) : ∃ x o y p2 p, e = .Compare x [o] [.Name y p2] p ∧ (((o = (if neg then .NotIn else .In) ∧ C.N[i]? = some y) ∧ visB sc y = true) ∧ okName y = true) ∧ mE C sc a x = true := by
  unfold mE at h
  split at h <;> first | contradiction | skip
  rename_i q; cases q
  try simp only [Bool.and_eq_true, decide_eq_true_eq, Bool.not_eq_true'] at h
  exact ⟨_, _, _, _, _, rfl, h⟩
theorem mE_dAt {C : MC} {sc : Scope} {e : Expr} {i : Nat} {a : E} (h : mE C sc (.dAt i a) e = true) : ∃ y p2 x p, e = .Subscript (.Name y p2) x p ∧ ((C.N[i]? = some y ∧ visB sc y = true) ∧ okName y = true) ∧ mE C sc a x = true := by
  unfold mE at h
  split at h <;> first | contradiction | skip
  rename_i q; cases q
  try simp only [Bool.and_eq_true, decide_eq_true_eq, Bool.not_eq_true'] at h
  exact ⟨_, _, _, _, rfl, h⟩
theorem mE_dVals {C : MC} {sc : Scope} {e : Expr} {i : Nat} (h : mE C sc (.dVals i) e = true) : ∃ f p2 y p3 m ap cp p, e = .Call (.Name f p2) [.Call (.Attribute (.Name y p3) m ap) [] [] cp] [] p ∧ (((((f = ("list" : Str) ∧ gloB sc f = true) ∧ C.N[i]? = some y) ∧ visB sc y = true) ∧ okName y = true) ∧ m = ("values" : Str)) ∧ (ap.endLine == cp.line) = true := by
  unfold mE at h
  split at h <;> first | contradiction | skip
  rename_i q; cases q
  try simp only [Bool.and_eq_true, decide_eq_true_eq, Bool.not_eq_true'] at h
  exact ⟨_, _, _, _, _, _, _, _, rfl, h⟩
theorem mE_rngL {C : MC} {sc : Scope} {e : Expr} {a : E} (h : mE C sc (.rngL a) e = true) : ∃ f p2 g p3 x p4 p, e = .Call (.Name f p2) [.Call (.Name g p3) [x] [] p4] [] p ∧ (((f = ("list" : Str) ∧ gloB sc f = true) ∧ g = ("range" : Str)) ∧ gloB sc g = true) ∧ mE C sc a x = true := by
  unfold mE at h
  split at h <;> first | contradiction | skip
  rename_i q; cases q
  try simp only [Bool.and_eq_true, decide_eq_true_eq, Bool.not_eq_true'] at h
  exact ⟨_, _, _, _, _, _, _, rfl, h⟩
theorem mE_rngL2 {C : MC} {sc : Scope} {e : Expr} {a b : E} (h : mE C sc (.rngL2 a b) e = true) : ∃ f p2 g p3 x y p4 p, e = .Call (.Name f p2) [.Call (.Name g p3) [x, y] [] p4] [] p ∧ ((((f = ("list" : Str) ∧ gloB sc f = true) ∧ g = ("range" : Str)) ∧ gloB sc g = true) ∧ mE C sc a x = true) ∧ mE C sc b y = true := by
  unfold mE at h
  split at h <;> first | contradiction | skip
  rename_i q; cases q
  try simp only [Bool.and_eq_true, decide_eq_true_eq, Bool.not_eq_true'] at h
  exact ⟨_, _, _, _, _, _, _, _, rfl, h⟩
theorem mE_rev {C : MC} {sc : Scope} {e : Expr} {a : E} (h : mE C sc (.rev a) e = true) : ∃ x k p1 p2 p3 p, e = .Subscript x (.Slice none none (some (.UnaryOp .USub (.Constant (.int 1) k p1) p2)) p3) p ∧ mE C sc a x = true := by
  unfold mE at h
  split at h <;> first | contradiction | skip
  rename_i q; cases q
  try simp only [Bool.and_eq_true, decide_eq_true_eq, Bool.not_eq_true'] at h
  exact ⟨_, _, _, _, _, _, rfl, h⟩
theorem mE_chain {C : MC} {sc : Scope} {e : Expr} {op op2 : CmpOp} {a b c : E} (h : mE C sc (.chain op op2 a b c) e = true) : ∃ x o o2 y z p, e = .Compare x [o, o2] [y, z] p ∧ (((op = o ∧ op2 = o2) ∧ mE C sc a x = true) ∧ mE C sc b y = true) ∧ mE C sc c z = true := by
  unfold mE at h
  split at h <;> first | contradiction | skip
  rename_i q; cases q
  try simp only [Bool.and_eq_true, decide_eq_true_eq, Bool.not_eq_true'] at h
  exact ⟨_, _, _, _, _, _, rfl, h⟩
theorem mE_isN {C : MC} {sc : Scope} {e : Expr} {a : E} (h : mE C sc (.isN a) e = true) : ∃ x k p2 p, e = .Compare x [.Is] [.Constant .none k p2] p ∧ mE C sc a x = true := by
  unfold mE at h
  split at h <;> first | contradiction | skip
  rename_i q; cases q
  try simp only [Bool.and_eq_true, decide_eq_true_eq, Bool.not_eq_true'] at h
  exact ⟨_, _, _, _, rfl, h⟩
theorem mE_notN {C : MC} {sc : Scope} {e : Expr} {a : E} (h : mE C sc (.notN a) e = true) : ∃ x k p2 p, e = .Compare x [.IsNot] [.Constant .none k p2] p ∧ mE C sc a x = true := by
  unfold mE at h
  split at h <;> first | contradiction | skip
  rename_i q; cases q
  try simp only [Bool.and_eq_true, decide_eq_true_eq, Bool.not_eq_true'] at h
  exact ⟨_, _, _, _, rfl, h⟩
theorem mE_and {C : MC} {sc : Scope} {e : Expr} {a : E} {r : Es} (h : mE C sc (.and a r) e = true) : ∃ x xs p, e = .BoolOp .And (x :: xs) p ∧ mE C sc a x = true ∧ mEs C sc r xs = true := by
  unfold mE at h
  split at h <;> first | contradiction | skip
  rename_i q; cases q
  try simp only [Bool.and_eq_true, decide_eq_true_eq, Bool.not_eq_true'] at h
  exact ⟨_, _, _, rfl, h⟩
theorem mE_or {C : MC} {sc : Scope} {e : Expr} {a : E} {r : Es} (h : mE C sc (.or a r) e = true) : ∃ x xs p, e = .BoolOp .Or (x :: xs) p ∧ mE C sc a x = true ∧ mEs C sc r xs = true := by
  unfold mE at h
  split at h <;> first | contradiction | skip
  rename_i q; cases q
  try simp only [Bool.and_eq_true, decide_eq_true_eq, Bool.not_eq_true'] at h
  exact ⟨_, _, _, rfl, h⟩
theorem mE_ite {C : MC} {sc : Scope} {e : Expr} {c a b : E} (h : mE C sc (.ite c a b) e = true) : ∃ z x y p, e = .IfExp z x y p ∧ (mE C sc c z = true ∧ mE C sc a x = true) ∧ mE C sc b y = true := by
  unfold mE at h
  split at h <;> first | contradiction | skip
  rename_i q; cases q
  try simp only [Bool.and_eq_true, decide_eq_true_eq, Bool.not_eq_true'] at h
  exact ⟨_, _, _, _, rfl, h⟩
theorem mE_tup {C : MC} {sc : Scope} {e : Expr} {es : Es} (h : mE C sc (.tup es) e = true) : ∃ xs k p, e = .Tuple xs k p ∧ mEs C sc es xs = true := by
  unfold mE at h
  split at h <;> first | contradiction | skip
  rename_i q; cases q
  try simp only [Bool.and_eq_true, decide_eq_true_eq, Bool.not_eq_true'] at h
  exact ⟨_, _, _, rfl, h⟩
theorem mE_lst {C : MC} {sc : Scope} {e : Expr} {es : Es} (h : mE C sc (.lst es) e = true) : ∃ xs p, e = .List xs p ∧ mEs C sc es xs = true := by
  unfold mE at h
  split at h <;> first | contradiction | skip
  rename_i q; cases q
  try simp only [Bool.and_eq_true, decide_eq_true_eq, Bool.not_eq_true'] at h
  exact ⟨_, _, rfl, h⟩
theorem mE_mlst {C : MC} {sc : Scope} {e : Expr} {es : Es} (h : mE C sc (.mlst es) e = true) : ∃ xs p, e = .List xs p ∧ mEs C sc es xs = true := by
  unfold mE at h
  split at h <;> first | contradiction | skip
  rename_i q; cases q
  try simp only [Bool.and_eq_true, decide_eq_true_eq, Bool.not_eq_true'] at h
  exact ⟨_, _, rfl, h⟩
theorem mE_ix {C : MC} {sc : Scope} {e : Expr} {a b : E} (h : mE C sc (.ix a b) e = true) : ∃ x y p, e = .Subscript x y p ∧ mE C sc a x = true ∧ mE C sc b y = true := by
  unfold mE at h
  split at h <;> first | contradiction | skip
  rename_i q; cases q
  try simp only [Bool.and_eq_true, decide_eq_true_eq, Bool.not_eq_true'] at h
  exact ⟨_, _, _, rfl, h⟩
theorem mE_slc {C : MC} {sc : Scope} {e : Expr} {a : E} {lo hi : Eo} (h : mE C sc (.slc a lo hi) e = true) : ∃ x l u p2 p, e = .Subscript x (.Slice l u none p2) p ∧ (mE C sc a x = true ∧ mEo C sc lo l = true) ∧ mEo C sc hi u = true := by
  unfold mE at h
  split at h <;> first | contradiction | skip
  rename_i q; cases q
  try simp only [Bool.and_eq_true, decide_eq_true_eq, Bool.not_eq_true'] at h
  exact ⟨_, _, _, _, _, rfl, h⟩
theorem mE_call {C : MC} {sc : Scope} {e : Expr} {f : Nat} {a : E} {es : Es} (h : mE C sc (.call f a es) e = true) : ∃ x p2 y ys p, e = .Call (.Name x p2) (y :: ys) [] p ∧ (((C.fns[f]? = some x ∧ gloB sc x = true) ∧ okName x = true) ∧ mE C sc a y = true) ∧ mEs C sc es ys = true := by
  unfold mE at h
  split at h <;> first | contradiction | skip
  rename_i q; cases q
  try simp only [Bool.and_eq_true, decide_eq_true_eq, Bool.not_eq_true'] at h
  exact ⟨_, _, _, _, _, rfl, h⟩
theorem mE_bi {C : MC} {sc : Scope} {e : Expr} {b : Bi} {a : E} {es : Es} (h : mE C sc (.bi b a es) e = true) : ∃ x p2 y ys p, e = .Call (.Name x p2) (y :: ys) [] p ∧ ((x = biName b ∧ gloB sc x = true) ∧ mE C sc a y = true) ∧ mEs C sc es ys = true := by
  unfold mE at h
  split at h <;> first | contradiction | skip
  rename_i q; cases q
  try simp only [Bool.and_eq_true, decide_eq_true_eq, Bool.not_eq_true'] at h
  exact ⟨_, _, _, _, _, rfl, h⟩
theorem mE_isi {C : MC} {sc : Scope} {e : Expr} {a : E} {t : Ty} (h : mE C sc (.isi a t) e = true) : ∃ x p2 y z p3 p, e = .Call (.Name x p2) [y, .Name z p3] [] p ∧ (((x = ("isinstance" : Str) ∧ gloB sc x = true) ∧ mE C sc a y = true) ∧ z = tyS t) ∧ gloB sc z = true := by
  unfold mE at h
  split at h <;> first | contradiction | skip
  rename_i q; cases q
  try simp only [Bool.and_eq_true, decide_eq_true_eq, Bool.not_eq_true'] at h
  exact ⟨_, _, _, _, _, _, rfl, h⟩
theorem mE_lc {C : MC} {sc : Scope} {e : Expr} {a : E} {t : T} {it : I} {c : Eo} {vs : List Nat} (h : mE C sc (.lc a t it c vs) e = true) : ∃ x tg iter ifs n scope p, e = .ListComp x [⟨tg, iter, ifs, n⟩] scope p ∧ ((((((n = 0 ∧ blkC C.N sc scope (vs.map fun i => (C.N.getD i "", i)) = true) ∧ (tgS t).all (fun i => vs.contains i) = true) ∧ mI C sc it iter (isTup tg) = true) ∧ mT C scope t tg = true) ∧ mEc C scope c ifs = true) ∧ mE C scope a x = true) := by
  unfold mE at h
  split at h <;> first | contradiction | skip
  rename_i q; cases q
  try simp only [Bool.and_eq_true, decide_eq_true_eq, Bool.not_eq_true'] at h
  exact ⟨_, _, _, _, _, _, _, rfl, h⟩
theorem mEs_cons {C : MC} {sc : Scope} {l : List Expr}  {a : E} {es : Es} (h : mEs C sc (.cons a es) l = true) : ∃ y ys, l = y :: ys ∧ mE C sc a y = true ∧ mEs C sc es ys = true := by
  unfold mEs at h
  split at h <;> first | contradiction | skip
  rename_i q; cases q
  try simp only [Bool.and_eq_true, decide_eq_true_eq] at h
  exact ⟨_, _, rfl, h⟩
theorem mEo_some {C : MC} {sc : Scope} {l : Option Expr}  {a : E} (h : mEo C sc (.some a) l = true) : ∃ y, l = some y ∧ mE C sc a y = true := by
  unfold mEo at h
  split at h <;> first | contradiction | skip
  rename_i q; cases q
  try simp only [Bool.and_eq_true, decide_eq_true_eq] at h
  exact ⟨_, rfl, h⟩
theorem mEc_some {C : MC} {sc : Scope} {l : List Expr}  {a : E} (h : mEc C sc (.some a) l = true) : ∃ y, l = [y] ∧ mE C sc a y = true := by
  unfold mEc at h
  split at h <;> first | contradiction | skip
  rename_i q; cases q
  try simp only [Bool.and_eq_true, decide_eq_true_eq] at h
  exact ⟨_, rfl, h⟩
theorem mI_rng1 {C : MC} {sc : Scope} {l : Expr} {k : Bool} {a : E} (h : mI C sc (.rng1 a) l k = true) : ∃ f p2 y p, l = .Call (.Name f p2) [y] [] p ∧ (f = ("range" : Str) ∧ gloB sc f = true) ∧ mE C sc a y = true := by
  unfold mI at h
  split at h <;> first | contradiction | skip
  rename_i q; cases q
  try simp only [Bool.and_eq_true, decide_eq_true_eq] at h
  exact ⟨_, _, _, _, rfl, h⟩
theorem mI_rng2 {C : MC} {sc : Scope} {l : Expr} {k : Bool} {a b : E} (h : mI C sc (.rng2 a b) l k = true) : ∃ f p2 y z p, l = .Call (.Name f p2) [y, z] [] p ∧ ((f = ("range" : Str) ∧ gloB sc f = true) ∧ mE C sc a y = true) ∧ mE C sc b z = true := by
  unfold mI at h
  split at h <;> first | contradiction | skip
  rename_i q; cases q
  try simp only [Bool.and_eq_true, decide_eq_true_eq] at h
  exact ⟨_, _, _, _, _, rfl, h⟩
theorem mI_zip {C : MC} {sc : Scope} {l : Expr} {k : Bool} {a b : E} (h : mI C sc (.zip a b) l k = true) : ∃ f p2 y z p, l = .Call (.Name f p2) [y, z] [] p ∧ (((k = true ∧ f = ("zip" : Str)) ∧ gloB sc f = true) ∧ mE C sc a y = true) ∧ mE C sc b z = true := by
  unfold mI at h
  split at h <;> first | contradiction | skip
  rename_i q; cases q
  try simp only [Bool.and_eq_true, decide_eq_true_eq] at h
  exact ⟨_, _, _, _, _, rfl, h⟩
theorem mI_rngD {C : MC} {sc : Scope} {l : Expr} {k : Bool} {a : E} (h : mI C sc (.rngD a) l k = true) : ∃ f p2 y k1 p3 p4 k2 p5 p6 p, l = .Call (.Name f p2) [y, .UnaryOp .USub (.Constant (.int 1) k1 p3) p4, .UnaryOp .USub (.Constant (.int 1) k2 p5) p6] [] p ∧ (f = ("range" : Str) ∧ gloB sc f = true) ∧ mE C sc a y = true := by
  unfold mI at h
  split at h <;> first | contradiction | skip
  rename_i q; cases q
  try simp only [Bool.and_eq_true, decide_eq_true_eq] at h
  exact ⟨_, _, _, _, _, _, _, _, _, _, rfl, h⟩
theorem mI_enum {C : MC} {sc : Scope} {l : Expr} {k : Bool} {a : E} (h : mI C sc (.enum a) l k = true) : ∃ f p2 y p, l = .Call (.Name f p2) [y] [] p ∧ ((k = true ∧ f = ("enumerate" : Str)) ∧ gloB sc f = true) ∧ mE C sc a y = true := by
  unfold mI at h
  split at h <;> first | contradiction | skip
  rename_i q; cases q
  try simp only [Bool.and_eq_true, decide_eq_true_eq] at h
  exact ⟨_, _, _, _, rfl, h⟩
theorem mI_seq {C : MC} {sc : Scope} {l : Expr} {k : Bool} {a : E} (h : mI C sc (.seq a) l k = true) : mE C sc a l = true := by
  rw [mI] at h; exact h
theorem mE_non {C : MC} {sc : Scope} {e : Expr} (h : mE C sc .non e = true) : ∃ k p, e = .Constant .none k p := by
  unfold mE at h
  split at h <;> first | contradiction | skip
  exact ⟨_, _, rfl⟩
theorem mEs_nil {C : MC} {sc : Scope} {l : List Expr} (h : mEs C sc .nil l = true) : l = [] := by
  unfold mEs at h
  split at h <;> first | contradiction | rfl
theorem mEo_none {C : MC} {sc : Scope} {l : Option Expr} (h : mEo C sc .none l = true) : l = none := by
  unfold mEo at h
  split at h <;> first | contradiction | rfl
theorem mEc_none {C : MC} {sc : Scope} {l : List Expr} (h : mEc C sc .none l = true) : l = [] := by
  unfold mEc at h
  split at h <;> first | contradiction | rfl
theorem mE_bor {C : MC} {sc : Scope} {e : Expr} {i : Nat} {a : E} (h : mE C sc (.bor i a) e = true) : mE C sc a e = true := by
  rw [mE] at h; exact h
end Py
end
section
set_option Elab.async false
set_option linter.all false
set_option maxRecDepth 100000
namespace Py
open PySem L2
abbrev FnS : Type := Nat → List D → Store → Option (D × Store)
abbrev GlS : Type := Nat → Option D
/-- what a def promises, by its function on data -/
def spF (K : PySem.W.Frag) (φ : List D → Store → Option (D × Store)) : Sp := fun vs H Q _ => ∃ F ρ μ ds d μ', Same F H ∧ Cells K F H ρ μ ∧ DrL K F ρ vs ds ∧ φ ds μ = some (d, μ') ∧
  ∀ v F' H' ρ', Ext F H ρ F' H' ρ' → Same F' H' → Cells K F' H' ρ' μ' → Dr K F' ρ' v d → Q v H'
def biAll : List Str := ["len", "abs", "max", "min", "sum", "tuple", "list", "int", "range", "zip", "enumerate", "isinstance", "bool", "str"]
/-- where the text is served -/
structure CG (C : MC) (Φ : FnS) (Γ : GlS) (k : Nat) (X : Cx) (sc : Scope) : Prop where
  hN : X.N = C.N
  nd : X.N.Nodup
  calm : X.calm = true
  room : Room k X.A
  loc : ∀ x, sc.names.lookup x = some .local → X.env.scope.names.lookup x = some .local
  cel : ∀ x, sc.names.lookup x = some .cell → X.env.scope.names.lookup x = some .cell
  fre : ∀ x, sc.names.lookup x = some .free → X.env.scope.names.lookup x = some .cell ∨ X.env.scope.names.lookup x = some .free
  glo : ∀ x, sc.names.lookup x = some .globalImplicit → X.env.scope.names.lookup x = some .globalImplicit
  kind : X.env.scope.kind = .function
  cfn : ∀ x, sc.names.lookup x = some .cell → X.fn x = true
  fns : ∀ f x, C.fns[f]? = some x → ∃ fa fd ps, X.mg x = some (.ref fa) ∧ PySem.W.keepIn X.K (.ref fa) = true ∧ FnOk X.prog X.w X.K X.mg X.base CX0 k fa fd ps (spF X.K (Φ f)) ∧ Binds X.K fd ps []
  gls : ∀ g x d, C.gls[g]? = some x → Γ g = some d → ∃ v u, X.mg x = some u ∧ RelV v u ∧ ∀ F ρ, Dr X.K F ρ v d
  bis : ∀ x ∈ biAll, X.mg x = none
section
variable {C : MC} {Φ : FnS} {Γ : GlS} {k : Nat} {X : Cx} {sc : Scope}
theorem CG.vis (G : CG C Φ Γ k X sc) {x : Str} (h : visB sc x = true) : Vis X.env.scope x := by
  unfold visB at h
  split at h
  · exact .inl (G.loc _ ‹_›)
  · exact .inr (.inl (G.cel _ ‹_›))
  · exact .inr (G.fre _ ‹_›)
  · cases h
theorem CG.locv (G : CG C Φ Γ k X sc) {x : Str} (h : locB sc x = true) : Loc X.env.scope x ∧ (X.fn x = true ∨ X.env.scope.names.lookup x = some .local) := by
  unfold locB at h
  split at h
  · exact ⟨.inl (G.loc _ ‹_›), .inr (G.loc _ ‹_›)⟩
  · exact ⟨.inr (G.cel _ ‹_›), .inl (G.cfn _ ‹_›)⟩
  · cases h
theorem CG.gl (G : CG C Φ Γ k X sc) {x : Str} (h : gloB sc x = true) : Gl X x := by
  unfold gloB at h
  split at h
  · exact G.glo _ ‹_›
  · cases h
theorem CG.bi (G : CG C Φ Γ k X sc) {x : Str} (h : x ∈ biAll) : X.mg x = none := G.bis x h
theorem okName_1 {x : Str} (h : okName x = true) : (x == ("__debug__" : Str)) = false := by
  unfold okName at h
  simp only [Bool.and_eq_true, Bool.not_eq_true'] at h
  exact h.1
theorem okName_2 {x : Str} (h : okName x = true) : (x == ("__classdict__" : Str)) = false := by
  unfold okName at h
  simp only [Bool.and_eq_true, Bool.not_eq_true'] at h
  exact h.2
theorem lookup_free {sc : Scope} : ∀ {names : List (Str × NameKind)} {x : Str}, names.lookup x = some .free →
    (names.map fun (n, k) => if (k == NameKind.free && sc.kind == .function && sc.names.lookup n == some .cell) then (n, NameKind.cell) else (n, k)).lookup x = some .cell ∨
    (names.map fun (n, k) => if (k == NameKind.free && sc.kind == .function && sc.names.lookup n == some .cell) then (n, NameKind.cell) else (n, k)).lookup x = some .free
  | [], _, h => by simp at h
  | (n, k₀) :: r, x, h => by
    have ih := @lookup_free sc r x
    show List.lookup x ((if (k₀ == NameKind.free && sc.kind == .function && sc.names.lookup n == some .cell) = true then (n, NameKind.cell) else (n, k₀)) :: (r.map _)) = some _ ∨ List.lookup x ((if (k₀ == NameKind.free && sc.kind == .function && sc.names.lookup n == some .cell) = true then (n, NameKind.cell) else (n, k₀)) :: (r.map _)) = some _
    cases hx : x == n with
    | true =>
      simp only [List.lookup_cons, hx] at h
      cases h
      by_cases hc : (NameKind.free == NameKind.free && sc.kind == .function && sc.names.lookup n == some .cell) = true
      · rw [if_pos hc]; left; simp only [List.lookup_cons, hx]
      · rw [if_neg hc]; right; simp only [List.lookup_cons, hx]
    | false =>
      simp only [List.lookup_cons, hx] at h
      by_cases hc : (k₀ == NameKind.free && sc.kind == .function && sc.names.lookup n == some .cell) = true
      · rw [if_pos hc]; simp only [List.lookup_cons, hx]; exact ih h
      · rw [if_neg hc]; simp only [List.lookup_cons, hx]; exact ih h
theorem CG.blk (G : CG C Φ Γ k X sc) {scope : Scope} (hk : scope.kind = .function) (s : Shared) (H : Hp) (Cc : Addr) (cl : List (Str × Addr)) (fp : List Addr) : CG C Φ Γ k (X.blk s H scope (compEnvC scope cl Cc X.env) fp) scope where
  hN := G.hN
  nd := G.nd
  calm := G.calm
  room := G.room
  loc := fun x h => lookup_relS_keep (by decide) h
  cel := fun x h => lookup_relS_keep (by decide) h
  fre := fun x h => lookup_free h
  glo := fun x h => lookup_relS_keep (by decide) h
  kind := hk
  cfn := fun x h => by
    show (scope.names.lookup x == some .cell) = true
    rw [h]; rfl
  fns := G.fns
  gls := G.gls
  bis := G.bis
theorem CG.blkOk (G : CG C Φ Γ k X sc) {scope : Scope} {own : List (Str × Nat)} (h : blkC C.N sc scope own = true) : BlkOk X.N X.env.scope scope own := by
  have b := blkOk_by h
  refine ⟨b.kind, b.uniq, by rw [G.hN]; exact b.ix, fun y hy e => ?_, by rw [G.hN]; exact b.own⟩
  rcases b.free y hy e with q | q
  · exact .inl (G.cel _ q)
  · exact G.fre _ q
end
/-! ### readings by data -/
def RE {α β : Type} (rel : Hp → List Addr → α → β → Prop) (K : PySem.W.Frag) (f : Env → Store → Option (β × Store)) (σ : L2.St) (H : Hp) (Q : α → Hp → Prop) : Prop :=
  ∃ B F ρ env μ d μ', SR K B F H ρ σ env μ ∧ f env μ = some (d, μ') ∧ ∀ v F' H' ρ', Ext F H ρ F' H' ρ' → Same F' H' → Cells K F' H' ρ' μ' → rel F' ρ' v d → Q v H'
section
variable (K : PySem.W.Frag) (Φ : FnS) (Γ : GlS)
def tE (e : E) : TE := RE (fun F ρ v d => Dr K F ρ v d) K (ev Φ Γ e)
def tT (e : E) : TT := RE (fun _ _ (a b : Bool) => a = b) K (evT Φ Γ e)
def tEs (e : Es) : TA := RE (fun F ρ v d => DrL K F ρ v d) K (evs Φ Γ e)
def tO (e : Eo) : TO := RE (fun _ _ (a b : Option Int) => a = b) K (evo Φ Γ e)
def tC (e : Eo) : TT := RE (fun _ _ (a b : Bool) => a = b) K (evc Φ Γ e)
end
theorem PE.imp {X : Cx} {e : Expr} {t t' : TE} (h : PE X e t) (w : ∀ σ H Q, t' σ H Q → t σ H Q) : PE X e t' := ⟨fun pins s σ H Q I q => h.run pins s σ H Q I (w σ H Q q)⟩
theorem PT.imp {X : Cx} {e : Expr} {t t' : TT} (h : PT X e t) (w : ∀ σ H Q, t' σ H Q → t σ H Q) : PT X e t' := ⟨fun pins s σ H Q I q => h.run pins s σ H Q I (w σ H Q q)⟩
theorem PW.imp {X : Cx} {e : Expr} {t t' : TT} (h : PW X e t) (w : ∀ σ H Q, t' σ H Q → t σ H Q) : PW X e t' := ⟨fun wh pins s σ H Q I q => h.run wh pins s σ H Q I (w σ H Q q)⟩
theorem PA.imp {X : Cx} {e : List Expr} {t t' : TA} (h : PA X e t) (w : ∀ σ H Q, t' σ H Q → t σ H Q) : PA X e t' := ⟨fun pos pins s σ H Q I q => h.run pos pins s σ H Q I (w σ H Q q)⟩
theorem PO.imp {X : Cx} {e : Option Expr} {t t' : TO} (h : PO X e t) (w : ∀ σ H Q, t' σ H Q → t σ H Q) : PO X e t' := ⟨fun pins s σ H Q I q => h.run pins s σ H Q I (w σ H Q q)⟩
theorem PTs.imp {X : Cx} {e : List Expr} {t t' : TT} (h : PTs X e t) (w : ∀ σ H Q, t' σ H Q → t σ H Q) : PTs X e t' := ⟨fun pins s σ H Q I q => h.run pins s σ H Q I (w σ H Q q)⟩
section
variable {K : PySem.W.Frag} {B F H : Hp} {ρ : List Addr} {σ : L2.St} {env : Env} {μ μ1 μ2 : Store}
/-- one part, and what follows -/
theorem RE.go {α β : Type} {rel : Hp → List Addr → α → β → Prop} {f : Env → Store → Option (β × Store)} {x : β} {R : α → Hp → Prop} (S : SR K B F H ρ σ env μ) (h : f env μ = some (x, μ1))
    (k : ∀ v F1 H1 ρ1, Ext F H ρ F1 H1 ρ1 → SR K B F1 H1 ρ1 σ env μ1 → rel F1 ρ1 v x → R v H1) : RE rel K f σ H R :=
  ⟨B, F, ρ, env, μ, x, μ1, S, h, fun v F1 H1 ρ1 e1 s1 c1 r1 => k v F1 H1 ρ1 e1 (S.step e1 s1 c1) r1⟩
end
/-- the end of an operation that lays new things -/
theorem fin_px {K : PySem.W.Frag} {F H F1 H1 : Hp} {ρ ρ1 : List Addr} {μ : Store} {d : D} {Q : VK} (post : ∀ v F' H' ρ', Ext F H ρ F' H' ρ' → Same F' H' → Cells K F' H' ρ' μ → Dr K F' ρ' v d → Q v H')
    (e : Ext F H ρ F1 H1 ρ1) (c : Cells K F1 H1 ρ1 μ) : ∀ v F' H', PX F1 H1 F' H' → Dr K F' ρ1 v d → Q v H' := fun v F' H' p r => post v F' H' ρ1 (e.trans p.ext) p.fh (c.px p) r
end Py
end
section
set_option Elab.async false
set_option linter.all false
set_option maxRecDepth 100000
namespace Py
open PySem L2 RZ
/-! ### what is walked -/
def SrcOk (K : PySem.W.Frag) (F : Hp) (ρ : List Addr) (J : It) (ds : List D) : Prop := ∃ (G : Hp → Prop) (Y : Nat → Hp → V → Hp → Prop), Walk J ds.length G Y ∧ (∀ F1 H, Same F F1 → Same F1 H → G H) ∧
  ∀ i x H H' F1, i < ds.length → Same F F1 → Same F1 H → Y i H x H' → ∃ F2 d, PX F1 H F2 H' ∧ ds[i]? = some d ∧ ∀ ρ1, (∀ (j : Nat) (a : Addr), ρ[j]? = some a → ρ1[j]? = some a) → Dr K F2 ρ1 x d
def tI (K : PySem.W.Frag) (Φ : FnS) (Γ : GlS) (it : I) : TI := RE (fun F ρ J ds => SrcOk K F ρ J ds) K (evI Φ Γ it)
theorem PI.imp {X : Cx} {tg e : Expr} {t t' : TI} (h : PI X tg e t) (w : ∀ σ H Q, t' σ H Q → t σ H Q) : PI X tg e t' := ⟨fun pins s σ H Q I q => h.run pins s σ H Q I (w σ H Q q)⟩
section
variable {K : PySem.W.Frag} {F H : Hp} {ρ : List Addr} {a b : Addr} {xs ys : List V} {ds es : List D}
theorem src_at (r : DrL K F ρ xs ds) {i : Nat} {x : V} {H H' F1 : Hp} (hF : Same F F1) (fh : Same F1 H) (y : YAt xs i H x H') :
    ∃ F2 d, PX F1 H F2 H' ∧ ds[i]? = some d ∧ ∀ ρ1, (∀ (j : Nat) (a : Addr), ρ[j]? = some a → ρ1[j]? = some a) → Dr K F2 ρ1 x d := by
  obtain ⟨rfl, e⟩ := y
  obtain ⟨d, h1, h2⟩ := r.getV e
  exact ⟨F1, d, .refl fh, h1, fun ρ1 hp => Dr.mono hF hp _ _ h2⟩
theorem src_list (h : SqL K F a xs) (r : DrL K F ρ xs ds) : SrcOk K F ρ (Itl K a) ds := by
  refine ⟨fun H => SqL K H a xs, YAt xs, ?_, fun F1 H h1 h2 => h2.seq (h1.seq h), fun i x H H' F1 _ hF fh y => src_at r hF fh y⟩
  rw [← r.length]
  exact walk_list
theorem src_tup (h : SqT K F a xs) (r : DrL K F ρ xs ds) : SrcOk K F ρ (Itt K a) ds := by
  refine ⟨fun H => SqT K H a xs, YAt xs, ?_, fun F1 H h1 h2 => same_t h2 (same_t h1 h), fun i x H H' F1 _ hF fh y => src_at r hF fh y⟩
  rw [← r.length]
  exact walk_tup
theorem src_range {lo : Int} {n : Nat} : SrcOk K F ρ (Itr lo n) (rangeD lo n) := by
  have hl : (rangeD lo n).length = n := by unfold rangeD; simp
  refine ⟨fun _ => True, YFn fun i => .int (lo + i), ?_, fun _ _ _ _ => trivial, fun i x H H' F1 hi hF fh y => ?_⟩
  · rw [hl]; exact walk_range
  · obtain ⟨rfl, rfl⟩ := y
    rw [hl] at hi
    refine ⟨F1, .int (lo + i), .refl fh, ?_, fun _ _ => .int _⟩
    unfold rangeD
    simp [hi]
theorem zipD_len (ds es : List D) : (zipD ds es).length = min ds.length es.length := by unfold zipD; simp
theorem zipD_get {ds es : List D} {i : Nat} {x y : D} (h1 : ds[i]? = some x) (h2 : es[i]? = some y) : (zipD ds es)[i]? = some (.tup [x, y]) := by
  unfold zipD
  rw [List.getElem?_map, (List.getElem?_zip_eq_some (z := (x, y))).mpr ⟨h1, h2⟩]
  rfl
theorem src_pair (r : DrL K F ρ xs ds) (r' : DrL K F ρ ys es) {i : Nat} {x : V} {H H' F1 : Hp} (hF : Same F F1) (fh : Same F1 H) (y : YPair (fun i => xs[i]?) (fun i => ys[i]?) i H x H') :
    ∃ F2 d, PX F1 H F2 H' ∧ (zipD ds es)[i]? = some d ∧ ∀ ρ1, (∀ (j : Nat) (a : Addr), ρ[j]? = some a → ρ1[j]? = some a) → Dr K F2 ρ1 x d := by
  obtain ⟨T, v, w, rfl, h1, rfl, h2, h3⟩ := y
  obtain ⟨d, h4, h5⟩ := r.getV h2
  obtain ⟨e, h6, h7⟩ := r'.getV h3
  have P := PX.new_ (o := .tup [v, w]) fh h1
  refine ⟨_, .tup [d, e], P, zipD_get h4 h6, fun ρ1 hp => .tup (.inl (.inl upd_same)) (.cons ?_ (.cons ?_ .nil))⟩
  · exact Dr.mono (hF.trans P.ff) hp _ _ h5
  · exact Dr.mono (hF.trans P.ff) hp _ _ h7
theorem walk_zipT {n : Nat} (hn : n = min xs.length ys.length) : Walk (ItzT K a b) n (fun H => SqT K H a xs ∧ SqT K H b ys) (YPair (fun i => xs[i]?) (fun i => ys[i]?)) := by
  subst hn
  refine ⟨fun i _ hi q => ?_, fun _ q => ⟨xs, ys, q.1, q.2, by omega⟩, fun i H v H' _ q y => ?_⟩
  · have h1 : i < xs.length := by omega
    have h2 : i < ys.length := by omega
    exact ⟨xs, ys, xs[i], ys[i], q.1, q.2, by simp [h1], by simp [h2]⟩
  · obtain ⟨T, x, z, h1, h2, h3, h4, h5⟩ := y
    exact ⟨T, x, z, h1, h2, h3, h4 xs q.1, h5 ys q.2⟩
theorem walk_zipM {n : Nat} (hn : n = min xs.length ys.length) : Walk (ItzM K a b) n (fun H => SqT K H a xs ∧ SqL K H b ys) (YPair (fun i => xs[i]?) (fun i => ys[i]?)) := by
  subst hn
  refine ⟨fun i _ hi q => ?_, fun _ q => ⟨xs, ys, q.1, q.2, by omega⟩, fun i H v H' _ q y => ?_⟩
  · have h1 : i < xs.length := by omega
    have h2 : i < ys.length := by omega
    exact ⟨xs, ys, xs[i], ys[i], q.1, q.2, by simp [h1], by simp [h2]⟩
  · obtain ⟨T, x, z, h1, h2, h3, h4, h5⟩ := y
    exact ⟨T, x, z, h1, h2, h3, h4 xs q.1, h5 ys q.2⟩
theorem src_zipM (h : SqT K F a xs) (h' : SqL K F b ys) (r : DrL K F ρ xs ds) (r' : DrL K F ρ ys es) : SrcOk K F ρ (ItzM K a b) (zipD ds es) := by
  refine ⟨fun H => SqT K H a xs ∧ SqL K H b ys, YPair (fun i => xs[i]?) (fun i => ys[i]?), ?_, fun F1 H h1 h2 => ⟨same_t h2 (same_t h1 h), h2.seq (h1.seq h')⟩, fun i x H H' F1 _ hF fh y => src_pair r r' hF fh y⟩
  exact walk_zipM (by rw [zipD_len, r.length, r'.length])
theorem src_zipL (h : SqL K F a xs) (h' : SqL K F b ys) (r : DrL K F ρ xs ds) (r' : DrL K F ρ ys es) : SrcOk K F ρ (Itz K a b) (zipD ds es) := by
  refine ⟨fun H => SqL K H a xs ∧ SqL K H b ys, YPair (fun i => xs[i]?) (fun i => ys[i]?), ?_, fun F1 H h1 h2 => ⟨h2.seq (h1.seq h), h2.seq (h1.seq h')⟩, fun i x H H' F1 _ hF fh y => src_pair r r' hF fh y⟩
  exact walk_zip (by rw [zipD_len, r.length, r'.length])
theorem src_zipT (h : SqT K F a xs) (h' : SqT K F b ys) (r : DrL K F ρ xs ds) (r' : DrL K F ρ ys es) : SrcOk K F ρ (ItzT K a b) (zipD ds es) := by
  refine ⟨fun H => SqT K H a xs ∧ SqT K H b ys, YPair (fun i => xs[i]?) (fun i => ys[i]?), ?_, fun F1 H h1 h2 => ⟨same_t h2 (same_t h1 h), same_t h2 (same_t h1 h')⟩, fun i x H H' F1 _ hF fh y => src_pair r r' hF fh y⟩
  exact walk_zipT (by rw [zipD_len, r.length, r'.length])
theorem enumD_len : ∀ (k : Nat) (ds : List D), (enumD k ds).length = ds.length
  | _, [] => rfl
  | k, d :: ds => by show (enumD (k + 1) ds).length + 1 = _; rw [enumD_len]; rfl
theorem enumD_get : ∀ {k : Nat} {ds : List D} {i : Nat} {d : D}, ds[i]? = some d → (enumD k ds)[i]? = some (.tup [.int ((k + i : Nat) : Int), d])
  | k, [], i, _, h => by simp at h
  | k, e :: ds, 0, _, h => by simp at h; subst h; rfl
  | k, e :: ds, i + 1, d, h => by
    have h' : ds[i]? = some d := by simpa using h
    have := enumD_get (k := k + 1) h'
    show (enumD (k + 1) ds)[i]? = _
    rw [this, show k + 1 + i = k + (i + 1) by omega]
theorem src_rngD {j : Int} : SrcOk K F ρ (Itc j (-1) (j - -1).toNat) (rangeDn j) := by
  have hl : (rangeDn j).length = (j - -1).toNat := by unfold rangeDn; simp
  refine ⟨fun _ => True, YFn fun i => .int (j + (i : Nat) * (-1)), ?_, fun _ _ _ _ => trivial, fun i x H H' F1 hi hF fh y => ?_⟩
  · rw [hl]; exact walk_rangeC
  · obtain ⟨rfl, rfl⟩ := y
    rw [hl] at hi
    refine ⟨F1, .int (j + (i : Nat) * (-1)), .refl fh, ?_, fun _ _ => .int _⟩
    unfold rangeDn
    have h1 : i < (j + 1).toNat := by omega
    rw [List.getElem?_map, List.getElem?_range h1]
    show some (D.int (j - (i : Nat))) = _
    rw [show j + (i : Int) * (-1) = j - (i : Nat) by omega]
theorem src_enumT (h : SqT K F a xs) (r : DrL K F ρ xs ds) : SrcOk K F ρ (IteT K a) (enumD 0 ds) := by
  refine ⟨fun H => SqT K H a xs, YPair (fun i => some (.int (i : Nat))) (fun i => xs[i]?), ?_, fun F1 H h1 h2 => same_t h2 (same_t h1 h), fun i x H H' F1 _ hF fh y => ?_⟩
  · rw [enumD_len, ← r.length]
    exact walk_enumT
  · obtain ⟨T, v, w, rfl, h1, rfl, h2, h3⟩ := y
    cases h2
    obtain ⟨e, h6, h7⟩ := r.getV h3
    have P := PX.new_ (o := .tup [.int (i : Nat), w]) fh h1
    refine ⟨_, .tup [.int (i : Nat), e], P, by have := enumD_get (k := 0) h6; rwa [Nat.zero_add] at this, fun ρ1 hp => .tup (.inl (.inl upd_same)) (.cons (.int _) (.cons ?_ .nil))⟩
    exact Dr.mono (hF.trans P.ff) hp _ _ h7
theorem src_enum (h : SqL K F a xs) (r : DrL K F ρ xs ds) : SrcOk K F ρ (Ite K a) (enumD 0 ds) := by
  refine ⟨fun H => SqL K H a xs, YPair (fun i => some (.int (i : Nat))) (fun i => xs[i]?), ?_, fun F1 H h1 h2 => h2.seq (h1.seq h), fun i x H H' F1 _ hF fh y => ?_⟩
  · rw [enumD_len, ← r.length]
    exact walk_enum
  · obtain ⟨T, v, w, rfl, h1, rfl, h2, h3⟩ := y
    cases h2
    obtain ⟨e, h6, h7⟩ := r.getV h3
    have P := PX.new_ (o := .tup [.int (i : Nat), w]) fh h1
    refine ⟨_, .tup [.int (i : Nat), e], P, by have := enumD_get (k := 0) h6; rwa [Nat.zero_add] at this, fun ρ1 hp => .tup (.inl (.inl upd_same)) (.cons (.int _) (.cons ?_ .nil))⟩
    exact Dr.mono (hF.trans P.ff) hp _ _ h7
end
/-! ### slots stored -/
section
variable {K : PySem.W.Frag} {B F H : Hp} {ρ : List Addr} {σ σ' : L2.St} {env env' : Env} {μ : Store}
theorem getV_eq {i : Nat} {d : D} (h : getV env i = some d) : env[i]? = some (some (.val d)) := by
  unfold getV at h
  split at h
  · cases h; assumption
  · cases h
theorem getO_eq {i : Nat} {ds : List D} (h : getO env i = some ds) : env[i]? = some (some (.own ds)) := by
  unfold getO at h
  split at h
  · cases h; assumption
  · cases h
theorem getD_eq {i : Nat} {ds : List (NestedKey × D)} (h : getD' env i = some ds) : env[i]? = some (some (.dct ds)) := by
  unfold getD' at h
  split at h
  · cases h; assumption
  · cases h
/-- a slot gets a value; whatever it was -/
theorem EnvR.setV (E : EnvR K B F H ρ σ env) {i : Nat} {v : V} {d : D} (r : Dr K F ρ v d) : EnvR K B F H ρ (σ.set i (some v)) (env.set i (some (.val d))) := by
  refine ⟨by rw [List.length_set, List.length_set]; exact E.len, fun j sv h => ?_, fun j l es fs a h1 h2 h3 h4 => ?_, fun j l es fs a h1 h2 h3 h4 => ?_⟩
  · by_cases q : i = j
    · subst q
      have hl : i < env.length := by
        by_cases hl : i < env.length
        · exact hl
        · rw [List.getElem?_eq_none (by rw [List.length_set]; omega)] at h; cases h
      rw [List.getElem?_set_self hl] at h
      cases h
      exact ⟨v, List.getElem?_set_self (by rw [E.len]; exact hl), r⟩
    · rw [List.getElem?_set_ne q] at h
      obtain ⟨w, h1, h2⟩ := E.at_ j sv h
      exact ⟨w, by rw [List.getElem?_set_ne q]; exact h1, h2⟩
  · have own_ne : ∀ {j : Nat} {es : List D}, (env.set i (some (.val d)))[j]? = some (some (.own es)) → i ≠ j := fun {j es} h q => by
      subst q
      by_cases hl : i < env.length
      · rw [List.getElem?_set_self hl] at h; cases h
      · rw [List.getElem?_eq_none (by rw [List.length_set]; omega)] at h; cases h
    have n1 := own_ne h1
    have n2 := own_ne h2
    rw [List.getElem?_set_ne n1] at h1 h3
    rw [List.getElem?_set_ne n2] at h2 h4
    exact E.apart j l es fs a h1 h2 h3 h4
  · have own_ne : ∀ {j : Nat} {es : List (NestedKey × D)}, (env.set i (some (.val d)))[j]? = some (some (.dct es)) → i ≠ j := fun {j es} h q => by
      subst q
      by_cases hl : i < env.length
      · rw [List.getElem?_set_self hl] at h; cases h
      · rw [List.getElem?_eq_none (by rw [List.length_set]; omega)] at h; cases h
    have n1 := own_ne h1
    have n2 := own_ne h2
    rw [List.getElem?_set_ne n1] at h1 h3
    rw [List.getElem?_set_ne n2] at h2 h4
    exact E.apd j l es fs a h1 h2 h3 h4
/-- a slot is forgotten -/
theorem EnvR.setN (E : EnvR K B F H ρ σ env) {i : Nat} : EnvR K B F H ρ (σ.set i none) (env.set i none) := by
  have ne : ∀ {j : Nat} {sv : SV}, (env.set i none)[j]? = some (some sv) → i ≠ j := fun {j es} h q => by
    subst q
    by_cases hl : i < env.length
    · rw [List.getElem?_set_self hl] at h; cases h
    · rw [List.getElem?_eq_none (by rw [List.length_set]; omega)] at h; cases h
  refine ⟨by rw [List.length_set, List.length_set]; exact E.len, fun j sv h => ?_, fun j l es fs a h1 h2 h3 h4 => ?_, fun j l es fs a h1 h2 h3 h4 => ?_⟩
  · have q := ne h
    rw [List.getElem?_set_ne q] at h ⊢
    exact E.at_ j sv h
  · have n1 := ne h1
    have n2 := ne h2
    rw [List.getElem?_set_ne n1] at h1 h3
    rw [List.getElem?_set_ne n2] at h2 h4
    exact E.apart j l es fs a h1 h2 h3 h4
  · have n1 := ne h1
    have n2 := ne h2
    rw [List.getElem?_set_ne n1] at h1 h3
    rw [List.getElem?_set_ne n2] at h2 h4
    exact E.apd j l es fs a h1 h2 h3 h4
theorem EnvR.wipe (E : EnvR K B F H ρ σ env) : ∀ vs : List Nat, EnvR K B F H ρ (L2.wipe σ vs) (wipeE env vs)
  | [] => E
  | v :: vs => (EnvR.wipe E vs).setN
theorem SR.setV (S : SR K B F H ρ σ env μ) {i : Nat} {v : V} {d : D} (r : Dr K F ρ v d) : SR K B F H ρ (σ.set i (some v)) (env.set i (some (.val d))) μ := ⟨S.fh, S.cells, S.env.setV r⟩
theorem SR.wipe (S : SR K B F H ρ σ env μ) (vs : List Nat) : SR K B F H ρ (L2.wipe σ vs) (wipeE env vs) μ := ⟨S.fh, S.cells, S.env.wipe vs⟩
/-- two slot lists that agree outside of vs are alike when wiped -/
theorem wipe_get (σ : L2.St) (j : Nat) : ∀ vs : List Nat, (L2.wipe σ vs)[j]? = if j ∈ vs ∧ j < σ.length then some none else σ[j]?
  | [] => by simp [L2.wipe]
  | v :: vs => by
    show ((L2.wipe σ vs).set v none)[j]? = _
    have ih := wipe_get σ j vs
    have hl := wipe_length σ vs
    by_cases q : v = j
    · subst q
      by_cases hj : v < σ.length
      · rw [List.getElem?_set_self (by rw [hl]; exact hj), if_pos ⟨List.mem_cons_self, hj⟩]
      · rw [List.getElem?_eq_none (by rw [List.length_set, hl]; omega), if_neg (fun z => hj z.2), List.getElem?_eq_none (by omega)]
    · rw [List.getElem?_set_ne q, ih]
      have : (j ∈ v :: vs ∧ j < σ.length) ↔ (j ∈ vs ∧ j < σ.length) := by
        simp only [List.mem_cons]
        constructor
        · rintro ⟨h | h, h2⟩
          · exact absurd h.symm q
          · exact ⟨h, h2⟩
        · rintro ⟨h, h2⟩; exact ⟨.inr h, h2⟩
      simp only [this]
theorem wipe_same {vs : List Nat} (hl : σ'.length = σ.length) (h : ∀ j, j ∉ vs → σ'[j]? = σ[j]?) : L2.wipe σ' vs = L2.wipe σ vs := by
  apply List.ext_getElem?
  intro j
  rw [wipe_get, wipe_get, hl]
  by_cases q : j ∈ vs
  · by_cases q2 : j < σ.length
    · rw [if_pos ⟨q, q2⟩, if_pos ⟨q, q2⟩]
    · rw [if_neg (fun z => q2 z.2), if_neg (fun z => q2 z.2), List.getElem?_eq_none (by omega), List.getElem?_eq_none (by omega)]
  · rw [if_neg (fun z => q z.1), if_neg (fun z => q z.1)]
    exact h j q
theorem wipe_idem (σ : L2.St) (vs : List Nat) : L2.wipe (L2.wipe σ vs) vs = L2.wipe σ vs := wipe_same (wipe_length σ vs) fun j hj => by rw [wipe_get, if_neg (fun z => hj z.1)]
end
/-! ### targets -/
def gT (K : PySem.W.Frag) (t : T) : TG := fun v σ H Q => ∃ B F ρ env μ d env', SR K B F H ρ σ env μ ∧ Dr K F ρ v d ∧ asgT t d env = some env' ∧
  ∀ σ', SR K B F H ρ σ' env' μ → σ'.length = σ.length → (∀ j, j ∉ tgS t → σ'[j]? = σ[j]?) → Q σ' H
def gTs (K : PySem.W.Frag) (t : List T) : TGs := fun vs σ H Q => ∃ B F ρ env μ ds env', SR K B F H ρ σ env μ ∧ DrL K F ρ vs ds ∧ asgTs t ds env = some env' ∧
  ∀ σ', SR K B F H ρ σ' env' μ → σ'.length = σ.length → (∀ j, j ∉ tgsS t → σ'[j]? = σ[j]?) → Q σ' H
theorem PG.imp {X : Cx} {e : Expr} {t t' : TG} (h : PG X e t) (w : ∀ v σ H Q, t' v σ H Q → t v σ H Q) : PG X e t' := ⟨fun pins s σ H v u Q I r q => h.run pins s σ H v u Q I r (w v σ H Q q)⟩
theorem PGs.imp {X : Cx} {e : List Expr} {t t' : TGs} (h : PGs X e t) (w : ∀ v σ H Q, t' v σ H Q → t v σ H Q) : PGs X e t' := ⟨fun pins s σ H v u Q I r q => h.run pins s σ H v u Q I r (w v σ H Q q)⟩
theorem mT_form {C : MC} {sc : Scope} {t : T} {e : Expr} (h : mT C sc t e = true) : (∃ x p, e = .Name x p) ∨ ∃ es k p, e = .Tuple es k p := by
  unfold mT at h
  split at h
  · exact .inl ⟨_, _, rfl⟩
  · exact .inr ⟨_, _, _, rfl⟩
  · cases h
theorem assignEach_cons {e : Expr} {es : List Expr} {env : PySem.Env} (h : ∀ v p, e ≠ .Starred v p) : assignEach (e :: es) env = (false, assign e env) :: assignEach es env := by
  cases e <;> first | rfl | exact absurd rfl (h _ _)
theorem mT_nostar {C : MC} {sc : Scope} {t : T} {e : Expr} (h : mT C sc t e = true) : ∀ v p, e ≠ .Starred v p := by
  rcases mT_form h with ⟨x, p, rfl⟩ | ⟨es, k, p, rfl⟩ <;> exact fun v p z => nomatch z
theorem assignEach_plain {C : MC} {sc : Scope} {env : PySem.Env} : ∀ {ts : List T} {es : List Expr}, mTs C sc ts es = true → (assignEach es env).length = ts.length ∧ (assignEach es env).findIdx? (·.1) = none ∧ es.length = ts.length
  | [], [], _ => ⟨rfl, rfl, rfl⟩
  | t :: ts, e :: es, h => by
    rw [mTs, Bool.and_eq_true] at h
    obtain ⟨h1, h2, h3⟩ := assignEach_plain (env := env) h.2
    rw [assignEach_cons (mT_nostar h.1)]
    refine ⟨by simp [h1], ?_, by simp [h3]⟩
    rw [List.findIdx?_cons]
    simp [h2]
  | [], _ :: _, h => by rw [mTs] at h <;> first | cases h | (intros; contradiction)
  | _ :: _, [], h => by rw [mTs] at h <;> first | cases h | (intros; contradiction)
section
variable {C : MC} {Φ : FnS} {Γ : GlS} {k : Nat} {X : Cx} {sc : Scope}
theorem pg_or {tg : Expr} {t1 t2 : TG} (h1 : PG X tg t1) (h2 : PG X tg t2) : PG X tg (fun v σ H Q => t1 v σ H Q ∨ t2 v σ H Q) := ⟨fun pins s σ H v u Q I r hw => hw.elim (h1.run pins s σ H v u Q I r) (h2.run pins s σ H v u Q I r)⟩
theorem asgTs_len : ∀ {ts : List T} {ds : List D} {env env' : Env}, asgTs ts ds env = some env' → ds.length = ts.length := by
  intro ts
  induction ts with
  | nil => intro ds env env' h; cases ds with
    | nil => rfl
    | cons d ds => rw [asgTs] at h <;> first | cases h | (intros; contradiction)
  | cons t ts ih => intro ds env env' h; cases ds with
    | nil => rw [asgTs] at h <;> first | cases h | (intros; contradiction)
    | cons d ds =>
      rw [asgTs] at h
      obtain ⟨e1, _, h2⟩ := Option.bind_eq_some_iff.mp h
      rw [List.length_cons, List.length_cons, ih h2]
mutual
theorem pgT (G : CG C Φ Γ k X sc) : ∀ (t : T) (e : Expr), mT C sc t e = true → PG X e (gT X.K t)
  | .nm i, e, h => by
    unfold mT at h
    split at h <;> first | contradiction | skip
    rename_i q; cases q
    simp only [Bool.and_eq_true, decide_eq_true_eq] at h
    obtain ⟨h1, h2⟩ := h
    obtain ⟨l1, l2⟩ := G.locv h2
    refine PG.imp (pg_name G.nd (by rw [G.hN]; exact h1) l1 l2) fun v σ H Q q => ?_
    obtain ⟨B, F, ρ, env, μ, d, env', S, r, ha, q⟩ := q
    unfold asgT Py.setV at ha
    split at ha
    · cases ha
      exact q _ (S.setV r) (by rw [List.length_set]) fun j hj => List.getElem?_set_ne (fun z => hj (by rw [tgS]; simp [z]))
    · cases ha
  | .tp ts, e, h => by
    unfold mT at h
    split at h <;> first | contradiction | skip
    rename_i q; cases q
    obtain ⟨p1, p2, p3⟩ := assignEach_plain (env := X.env) h
    refine PG.imp (pg_or (pg_tup (n := ts.length) G.calm (pgTs G ts _ h) p1 p2) (pg_unl (n := ts.length) G.calm (pgTs G ts _ h) p1 p2)) fun v σ H Q q => ?_
    obtain ⟨B, F, ρ, env, μ, d, env', S, r, ha, q⟩ := q
    cases r with
    | tup r1 r2 =>
      rw [asgT] at ha
      exact .inl ⟨_, _, rfl, same_t S.fh r1, by rw [r2.length]; exact asgTs_len ha, B, F, ρ, env, μ, _, env', S, r2, ha, fun σ' S' hl hj => q σ' S' hl fun j h => hj j (by rw [tgS] at h; exact h)⟩
    | lst r1 r2 =>
      rw [asgT] at ha
      exact .inr ⟨_, _, rfl, .inl (.inl (S.fh _ _ r1)), by rw [r2.length]; exact asgTs_len ha, B, F, ρ, env, μ, _, env', S, r2, ha, fun σ' S' hl hj => q σ' S' hl fun j h => hj j (by rw [tgS] at h; exact h)⟩
    | _ => rw [asgT] at ha <;> first | cases ha | (intros; contradiction)
theorem pgTs (G : CG C Φ Γ k X sc) : ∀ (t : List T) (e : List Expr), mTs C sc t e = true → PGs X e (gTs X.K t)
  | [], [], _ => PGs.imp pgs_nil fun v σ H Q q => by
    obtain ⟨B, F, ρ, env, μ, ds, env', S, r, ha, q⟩ := q
    cases ds with
    | cons d ds => rw [asgTs] at ha <;> first | cases ha | (intros; contradiction)
    | nil =>
      cases r
      rw [asgTs] at ha
      cases ha
      exact ⟨rfl, q σ S rfl fun _ _ => rfl⟩
  | t :: ts, e :: es, h => by
    rw [mTs, Bool.and_eq_true] at h
    refine PGs.imp (pgs_cons (pgT G t e h.1) (pgTs G ts es h.2) (by rw [assignEach_cons (mT_nostar h.1)]; rfl)) fun v σ H Q q => ?_
    obtain ⟨B, F, ρ, env, μ, ds, env', S, r, ha, q⟩ := q
    cases r with
    | nil => rw [asgTs] at ha <;> first | cases ha | (intros; contradiction)
    | cons r1 r2 =>
      rw [asgTs] at ha
      obtain ⟨env1, h1, h2⟩ := Option.bind_eq_some_iff.mp ha
      refine ⟨_, _, rfl, B, F, ρ, env, μ, _, env1, S, r1, h1, fun σ1 S1 l1 j1 => ⟨B, F, ρ, env1, μ, _, env', S1, r2, h2, fun σ2 S2 l2 j2 => q σ2 S2 (l2.trans l1) fun j hj => ?_⟩⟩
      rw [tgsS, List.mem_append] at hj
      exact (j2 j fun z => hj (.inr z)).trans (j1 j fun z => hj (.inl z))
  | [], _ :: _, h => by rw [mTs] at h <;> first | cases h | (intros; contradiction)
  | _ :: _, [], h => by rw [mTs] at h <;> first | cases h | (intros; contradiction)
end
end
end Py
end
section
set_option Elab.async false
set_option linter.all false
set_option maxRecDepth 100000
namespace Py
open PySem L2 RZ
section
variable {C : MC} {Φ : FnS} {Γ : GlS} {k : Nat} {X : Cx} {sc : Scope}
theorem s_slot {i : Nat} {x : Str} {p : Pos} (G : CG C Φ Γ k X sc) (h1 : C.N[i]? = some x) (h2 : visB sc x = true) (h3 : okName x = true) : PE X (.Name x p) (tE X.K Φ Γ (.slot i)) := by
  refine PE.imp (pe_var (i := i) (by rw [G.hN]; exact h1) (G.vis h2) (okName_1 h3) (okName_2 h3)) fun σ H Q q => ?_
  obtain ⟨B, F, ρ, env, μ, d, μ', S, he, q⟩ := q
  rw [ev] at he
  obtain ⟨d', h4, h5⟩ := Option.map_eq_some_iff.mp he
  cases h5
  obtain ⟨v, h6, h7⟩ := S.env.at_ _ _ (getV_eq h4)
  exact ⟨v, h6, q v F H ρ .refl S.fh S.cells h7⟩
theorem s_glob {i : Nat} {x : Str} {p : Pos} (G : CG C Φ Γ k X sc) (h1 : C.gls[i]? = some x) (h2 : gloB sc x = true) (h3 : okName x = true) : PE X (.Name x p) (tE X.K Φ Γ (.glob i)) := by
  refine ⟨fun pins s σ H Q I q => ?_⟩
  obtain ⟨B, F, ρ, env, μ, d, μ', S, he, q⟩ := q
  rw [ev] at he
  obtain ⟨d', h4, h5⟩ := Option.map_eq_some_iff.mp he
  cases h5
  obtain ⟨v, u, h6, h7, h8⟩ := G.gls _ _ _ h1 h4
  exact (pe_glob (G.gl h2) h6 h7 (okName_1 h3)).run pins s σ H Q I (q v F H ρ .refl S.fh S.cells (h8 F ρ))
theorem s_int {i : Int} {n : Nat} {p : Pos} : PE X (.Constant (.int i) n p) (tE X.K Φ Γ (.int i)) := PE.imp pe_int fun σ H Q q => by
  obtain ⟨B, F, ρ, env, μ, d, μ', S, he, q⟩ := q
  rw [ev] at he; cases he
  exact q _ F H ρ .refl S.fh S.cells (.int _)
theorem s_bl {i : Bool} {n : Nat} {p : Pos} : PE X (.Constant (.bool i) n p) (tE X.K Φ Γ (.bl i)) := PE.imp pe_bl fun σ H Q q => by
  obtain ⟨B, F, ρ, env, μ, d, μ', S, he, q⟩ := q
  rw [ev] at he; cases he
  exact q _ F H ρ .refl S.fh S.cells (.bl _)
theorem s_non {n : Nat} {p : Pos} : PE X (.Constant .none n p) (tE X.K Φ Γ .non) := PE.imp pe_non fun σ H Q q => by
  obtain ⟨B, F, ρ, env, μ, d, μ', S, he, q⟩ := q
  rw [ev] at he; cases he
  exact q _ F H ρ .refl S.fh S.cells .non
theorem s_str {i : Str} {n : Nat} {p : Pos} : PE X (.Constant (.str i) n p) (tE X.K Φ Γ (.str i)) := PE.imp pe_str fun σ H Q q => by
  obtain ⟨B, F, ρ, env, μ, d, μ', S, he, q⟩ := q
  rw [ev] at he; cases he
  exact q _ F H ρ .refl S.fh S.cells (.str _)
theorem s_bin {a b : E} {x y : Expr} {op : Operator} {p : Pos} (ha : PE X x (tE X.K Φ Γ a)) (hb : PE X y (tE X.K Φ Γ b)) : PE X (.BinOp x op y p) (tE X.K Φ Γ (.bin op a b)) := by
  refine PE.imp (pe_op (op_of X op) ha hb) fun σ H Q q => ?_
  obtain ⟨B, F, ρ, env, μ, d, μ', S, he, q⟩ := q
  rw [ev] at he
  obtain ⟨⟨dx, μ1⟩, h1, h2⟩ := Option.bind_eq_some_iff.mp he
  obtain ⟨⟨dy, μ2⟩, h3, h4⟩ := Option.bind_eq_some_iff.mp h2
  obtain ⟨d', h5, h6⟩ := Option.map_eq_some_iff.mp h4
  cases h6
  refine RE.go S h1 fun v F1 H1 ρ1 e1 S1 r1 => RE.go S1 h3 fun w F2 H2 ρ2 e2 S2 r2 => ?_
  exact binS_ok op F2 H2 ρ2 v w dx dy _ Q S2.fh (r1.ext e2) r2 h5 (fin_px q (e1.trans e2) S2.cells)
theorem s_neg {a : E} {x : Expr} {p : Pos} (ha : PE X x (tE X.K Φ Γ a)) : PE X (.UnaryOp .USub x p) (tE X.K Φ Γ (.neg a)) := by
  refine PE.imp (pe_un un_neg ha) fun σ H Q q => ?_
  obtain ⟨B, F, ρ, env, μ, d, μ', S, he, q⟩ := q
  rw [ev] at he
  obtain ⟨⟨dx, μ1⟩, h1, h2⟩ := Option.bind_eq_some_iff.mp he
  obtain ⟨d', h5, h6⟩ := Option.map_eq_some_iff.mp h2
  cases h6
  refine RE.go S h1 fun v F1 H1 ρ1 e1 S1 r1 => ?_
  unfold asInt at h5
  split at h5
  · cases h5; cases r1
    exact ⟨_, rfl, q _ F1 H1 ρ1 e1 S1.fh S1.cells (.int _)⟩
  · cases h5
theorem s_not {a : E} {x : Expr} {p : Pos} (ha : PE X x (tE X.K Φ Γ a)) : PE X (.UnaryOp .Not x p) (tE X.K Φ Γ (.not a)) := by
  refine ⟨fun pins s σ H Q I q => ?_⟩
  obtain ⟨B, F, ρ, env, μ, d, μ', S, he, q⟩ := q
  rw [ev] at he
  obtain ⟨⟨dx, μ1⟩, h1, h2⟩ := Option.bind_eq_some_iff.mp he
  obtain ⟨b, h5, h6⟩ := Option.map_eq_some_iff.mp h2
  cases h6
  refine PyProof.Rows.UnaryOp_ (thn (ha.run pins s σ H _ I (RE.go (R := fun v H1 => TruV X.K v H1 b ∧ Q (.bl (!b)) H1) S h1 fun v F1 H1 ρ1 e1 S1 r1 => ⟨truS_ok S1.fh r1 h5, q _ F1 H1 ρ1 e1 S1.fh S1.cells (.bl _)⟩)) ?_)
  rintro u s1 ⟨v, H1, I1, r1, h7, h8⟩
  refine PyProof.Rows.not_of (thn (tru_ok pins s1 σ H1 v u (fun c H2 => Q (.bl (!c)) H2) I1 r1 ⟨b, h7, h8⟩) ?_)
  rintro c s2 ⟨H2, I2, q2⟩
  exact ⟨.bl (!c), H2, I2, rfl, q2⟩
theorem s_cmp {a b : E} {x y : Expr} {op : CmpOp} {p : Pos} (G : CG C Φ Γ k X sc) (hm : behindInMarks op y = false) (ha : PE X x (tE X.K Φ Γ a)) (hb : PE X y (tE X.K Φ Γ b)) : PE X (.Compare x [op] [y] p) (tE X.K Φ Γ (.cmp op a b)) := by
  refine PE.imp (pe_cmpR (cmp_of X (by have := G.room.un; omega) op) ha hb hm) fun σ H Q q => ?_
  obtain ⟨B, F, ρ, env, μ, d, μ', S, he, q⟩ := q
  rw [ev] at he
  obtain ⟨⟨dx, μ1⟩, h1, h2⟩ := Option.bind_eq_some_iff.mp he
  obtain ⟨⟨dy, μ2⟩, h3, h4⟩ := Option.bind_eq_some_iff.mp h2
  obtain ⟨d', h5, h6⟩ := Option.map_eq_some_iff.mp h4
  cases h6
  refine RE.go S h1 fun v F1 H1 ρ1 e1 S1 r1 => RE.go S1 h3 fun w F2 H2 ρ2 e2 S2 r2 => ?_
  exact cmpS_ok op S2.fh (r1.ext e2) r2 h5 (q _ F2 H2 ρ2 (e1.trans e2) S2.fh S2.cells (.bl _))
theorem sT_cmp {a b : E} {x y : Expr} {op : CmpOp} {p : Pos} (G : CG C Φ Γ k X sc) (hm : behindInMarks op y = false) (ha : PE X x (tE X.K Φ Γ a)) (hb : PE X y (tE X.K Φ Γ b)) : PT X (.Compare x [op] [y] p) (tT X.K Φ Γ (.cmp op a b)) := by
  refine PT.imp (pt_cmpR (cmp_of X (by have := G.room.un; omega) op) ha hb hm) fun σ H Q q => ?_
  obtain ⟨B, F, ρ, env, μ, d, μ', S, he, q⟩ := q
  rw [evT] at he
  obtain ⟨⟨dx, μ1⟩, h1, h2⟩ := Option.bind_eq_some_iff.mp he
  obtain ⟨⟨dy, μ2⟩, h3, h4⟩ := Option.bind_eq_some_iff.mp h2
  obtain ⟨d', h5, h6⟩ := Option.map_eq_some_iff.mp h4
  cases h6
  refine RE.go S h1 fun v F1 H1 ρ1 e1 S1 r1 => RE.go S1 h3 fun w F2 H2 ρ2 e2 S2 r2 => ?_
  exact cmpS_ok op S2.fh (r1.ext e2) r2 h5 ⟨_, rfl, q _ F2 H2 ρ2 (e1.trans e2) S2.fh S2.cells rfl⟩
theorem s_isN {a : E} {x : Expr} {n : Nat} {p2 p : Pos} (ha : PE X x (tE X.K Φ Γ a)) : PE X (.Compare x [.Is] [.Constant .none n p2] p) (tE X.K Φ Γ (.isN a)) := by
  refine PE.imp (pe_cmp (pc_isN ha) rfl) fun σ H Q q => ?_
  obtain ⟨B, F, ρ, env, μ, d, μ', S, he, q⟩ := q
  rw [ev] at he
  obtain ⟨⟨dx, μ1⟩, h1, h6⟩ := Option.map_eq_some_iff.mp he
  cases h6
  exact RE.go S h1 fun v F1 H1 ρ1 e1 S1 r1 => q _ F1 H1 ρ1 e1 S1.fh S1.cells (by rw [isNon_ok r1]; exact .bl _)
theorem s_notN {a : E} {x : Expr} {n : Nat} {p2 p : Pos} (ha : PE X x (tE X.K Φ Γ a)) : PE X (.Compare x [.IsNot] [.Constant .none n p2] p) (tE X.K Φ Γ (.notN a)) := by
  refine PE.imp (pe_cmp (pc_notN ha) rfl) fun σ H Q q => ?_
  obtain ⟨B, F, ρ, env, μ, d, μ', S, he, q⟩ := q
  rw [ev] at he
  obtain ⟨⟨dx, μ1⟩, h1, h6⟩ := Option.map_eq_some_iff.mp he
  cases h6
  exact RE.go S h1 fun v F1 H1 ρ1 e1 S1 r1 => q _ F1 H1 ρ1 e1 S1.fh S1.cells (by rw [isNon_ok r1]; exact .bl _)
theorem sT_isN {a : E} {x : Expr} {n : Nat} {p2 p : Pos} (ha : PE X x (tE X.K Φ Γ a)) : PT X (.Compare x [.Is] [.Constant .none n p2] p) (tT X.K Φ Γ (.isN a)) := by
  refine PT.imp (pt_cmp (pc_isN ha) rfl) fun σ H Q q => ?_
  obtain ⟨B, F, ρ, env, μ, d, μ', S, he, q⟩ := q
  rw [evT] at he
  obtain ⟨⟨dx, μ1⟩, h1, h6⟩ := Option.map_eq_some_iff.mp he
  cases h6
  exact RE.go S h1 fun v F1 H1 ρ1 e1 S1 r1 => ⟨_, rfl, q _ F1 H1 ρ1 e1 S1.fh S1.cells (isNon_ok r1)⟩
theorem sT_notN {a : E} {x : Expr} {n : Nat} {p2 p : Pos} (ha : PE X x (tE X.K Φ Γ a)) : PT X (.Compare x [.IsNot] [.Constant .none n p2] p) (tT X.K Φ Γ (.notN a)) := by
  refine PT.imp (pt_cmp (pc_notN ha) rfl) fun σ H Q q => ?_
  obtain ⟨B, F, ρ, env, μ, d, μ', S, he, q⟩ := q
  rw [evT] at he
  obtain ⟨⟨dx, μ1⟩, h1, h6⟩ := Option.map_eq_some_iff.mp he
  cases h6
  exact RE.go S h1 fun v F1 H1 ρ1 e1 S1 r1 => ⟨_, rfl, q _ F1 H1 ρ1 e1 S1.fh S1.cells (by rw [isNon_ok r1])⟩
/-- a value's truth, as a test -/
theorem sT_tru {f : Env → Store → Option (D × Store)} {g : Env → Store → Option (Bool × Store)} {x : Expr} (ha : PE X x (RE (fun F ρ v d => Dr X.K F ρ v d) X.K f)) (he : ∀ whole, isTrue x X.env whole = (do let v ← whole; standAt x.pos; holding [v] (truthy v)))
    (hg : ∀ env μ r, g env μ = some r → ∃ d, f env μ = some (d, r.2) ∧ truS d = some r.1) : PT X x (RE (fun _ _ (a b : Bool) => a = b) X.K g) := by
  refine PT.imp (pt_truth ha he) fun σ H Q q => ?_
  obtain ⟨B, F, ρ, env, μ, d, μ', S, h0, q⟩ := q
  obtain ⟨dx, h1, h2⟩ := hg env μ _ h0
  exact RE.go S h1 fun v F1 H1 ρ1 e1 S1 r1 => ⟨d, truS_ok S1.fh r1 h2, q _ F1 H1 ρ1 e1 S1.fh S1.cells rfl⟩
theorem s_ite {a b c : E} {x y z : Expr} {p : Pos} (hc : PT X z (tT X.K Φ Γ c)) (ha : PE X x (tE X.K Φ Γ a)) (hb : PE X y (tE X.K Φ Γ b)) : PE X (.IfExp z x y p) (tE X.K Φ Γ (.ite c a b)) := by
  refine PE.imp (pe_ifExp hc ha hb) fun σ H Q q => ?_
  obtain ⟨B, F, ρ, env, μ, d, μ', S, he, q⟩ := q
  rw [ev] at he
  obtain ⟨⟨dx, μ1⟩, h1, h2⟩ := Option.bind_eq_some_iff.mp he
  refine RE.go S h1 fun v F1 H1 ρ1 e1 S1 r1 => ?_
  cases r1
  cases dx with
  | true => exact iteT (RE.go S1 h2 fun w F2 H2 ρ2 e2 S2 r2 => q w F2 H2 ρ2 (e1.trans e2) S2.fh S2.cells r2)
  | false => exact iteF (RE.go S1 h2 fun w F2 H2 ρ2 e2 S2 r2 => q w F2 H2 ρ2 (e1.trans e2) S2.fh S2.cells r2)
theorem s_tup {es : Es} {xs : List Expr} {n : Nat} {p : Pos} (ha : PA X xs (tEs X.K Φ Γ es)) : PE X (.Tuple xs n p) (tE X.K Φ Γ (.tup es)) := by
  refine PE.imp (pe_tup ha) fun σ H Q q => ?_
  obtain ⟨B, F, ρ, env, μ, d, μ', S, he, q⟩ := q
  rw [ev] at he
  obtain ⟨⟨ds, μ1⟩, h1, h2⟩ := Option.bind_eq_some_iff.mp he
  dsimp only at h2
  split at h2
  · rename_i hz
    cases h2
    exact RE.go S h1 fun v F1 H1 ρ1 e1 S1 r1 => ⟨by rw [sz, r1.length]; exact hz, new_tup S1.fh r1 (fin_px q e1 S1.cells)⟩
  · cases h2
theorem s_lst {es : Es} {xs : List Expr} {p : Pos} (ha : PA X xs (tEs X.K Φ Γ es)) : PE X (.List xs p) (tE X.K Φ Γ (.lst es)) := by
  refine PE.imp (pe_lst ha) fun σ H Q q => ?_
  obtain ⟨B, F, ρ, env, μ, d, μ', S, he, q⟩ := q
  rw [ev] at he
  obtain ⟨⟨ds, μ1⟩, h1, h2⟩ := Option.bind_eq_some_iff.mp he
  dsimp only at h2
  split at h2
  · rename_i hz
    cases h2
    exact RE.go S h1 fun v F1 H1 ρ1 e1 S1 r1 => ⟨by rw [sz, r1.length]; exact hz, new_lst S1.fh r1 (fin_px q e1 S1.cells)⟩
  · cases h2
theorem new_cell {K : PySem.W.Frag} {F H : Hp} {ρ : List Addr} {μ : Store} {xs : List V} {ds : List D} {p : Addr} (fh : Same F H) (c : Cells K F H ρ μ) (r : DrL K F ρ xs ds) (hp : H p = none) :
    Ext F H ρ F (upd H p (.lst xs)) (ρ ++ [p]) ∧ Same F (upd H p (.lst xs)) ∧ Cells K F (upd H p (.lst xs)) (ρ ++ [p]) (μ ++ [ds]) := by
  have fp : F p = none := fh.free hp
  have hup : ∀ (i : Nat) (a : Addr), ρ[i]? = some a → (ρ ++ [p])[i]? = some a := fun i a h => by
    rw [List.getElem?_append_left (List.getElem?_eq_some_iff.mp h).1]; exact h
  have hne : ∀ (i : Nat) (a : Addr), ρ[i]? = some a → a ≠ p := fun i a h z => by
    have hi := (List.getElem?_eq_some_iff.mp h).1
    rw [c.len] at hi
    obtain ⟨_, ys, h2, _⟩ := c.at_ i a μ[i] h (List.getElem?_eq_getElem hi)
    rw [z, hp] at h2; cases h2
  have hcase : ∀ (i : Nat) (a : Addr), (ρ ++ [p])[i]? = some a → ρ[i]? = some a ∨ (i = ρ.length ∧ a = p) := fun i a h => by
    by_cases hi : i < ρ.length
    · rw [List.getElem?_append_left hi] at h; exact .inl h
    · rw [List.getElem?_append_right (by omega)] at h
      have : i - ρ.length = 0 := by
        by_cases q : i - ρ.length = 0
        · exact q
        · rw [List.getElem?_eq_none (by simp; omega)] at h; cases h
      rw [this] at h
      simp at h
      exact .inr ⟨by omega, h.symm⟩
  refine ⟨⟨Same.refl _, fun a o h _ => by rw [upd_ne (ne_of_none h hp)]; exact h, fun a h => ?_, fun a h1 h2 => absurd h1 h2, hup, fun a h => ?_⟩, fh.trans (same_upd' hp), ⟨by simp [c.len], fun i j a h1 h2 => ?_, fun i a es h1 h2 => ?_⟩⟩
  · by_cases q : a = p
    · subst q; exact absurd hp h
    · rw [upd_ne q]; exact h
  · rcases List.mem_append.mp h with h | h
    · exact .inl h
    · simp at h; subst h; exact .inr hp
  · rcases hcase i a h1 with q1 | ⟨q1, q2⟩
    · rcases hcase j a h2 with q3 | ⟨q3, q4⟩
      · exact c.nd i j a q1 q3
      · exact absurd q4 (hne i a q1)
    · rcases hcase j a h2 with q3 | ⟨q3, q4⟩
      · exact absurd q2 (hne j a q3)
      · omega
  · rcases hcase i a h1 with q1 | ⟨q1, q2⟩
    · have hi := (List.getElem?_eq_some_iff.mp q1).1
      rw [List.getElem?_append_left (by rw [← c.len]; exact hi)] at h2
      obtain ⟨z1, ys, z2, z3⟩ := c.at_ i a es q1 h2
      exact ⟨z1, ys, by rw [upd_ne (hne i a q1)]; exact z2, DrL.mono (Same.refl _) hup _ _ z3⟩
    · subst q2
      rw [List.getElem?_append_right (by rw [← c.len]; omega), q1, c.len, Nat.sub_self] at h2
      simp at h2
      subst h2
      exact ⟨fp, xs, upd_same, DrL.mono (Same.refl _) hup _ _ r⟩
theorem s_mlst {es : Es} {xs : List Expr} {p : Pos} (ha : PA X xs (tEs X.K Φ Γ es)) : PE X (.List xs p) (tE X.K Φ Γ (.mlst es)) := by
  refine PE.imp (pe_lst ha) fun σ H Q q => ?_
  obtain ⟨B, F, ρ, env, μ, d, μ', S, he, q⟩ := q
  rw [ev] at he
  obtain ⟨⟨ds, μ1⟩, h1, h2⟩ := Option.bind_eq_some_iff.mp he
  dsimp only at h2
  split at h2
  · rename_i hz
    cases h2
    refine RE.go S h1 fun v F1 H1 ρ1 e1 S1 r1 => ⟨by rw [sz, r1.length]; exact hz, fun p hp => ?_⟩
    obtain ⟨n1, n2, n3⟩ := new_cell S1.fh S1.cells r1 hp
    refine q _ _ _ _ (e1.trans n1) n2 n3 (.mr ?_)
    rw [← S1.cells.len, List.getElem?_append_right (Nat.le_refl _), Nat.sub_self]
    rfl
  · cases h2
theorem plainIx_of {b : Expr} (h : sliceB b = false) : PlainIx b := by
  cases b <;> first | exact fun _ _ => rfl | cases h
theorem s_ix {a b : E} {x y : Expr} {p : Pos} (hs : sliceB y = false) (ha : PE X x (tE X.K Φ Γ a)) (hb : PE X y (tE X.K Φ Γ b)) : PE X (.Subscript x y p) (tE X.K Φ Γ (.ix a b)) := by
  refine PE.imp (pe_ix ix_seq ha hb (plainIx_of hs)) fun σ H Q q => ?_
  obtain ⟨B, F, ρ, env, μ, d, μ', S, he, q⟩ := q
  rw [ev] at he
  obtain ⟨⟨dx, μ1⟩, h1, h2⟩ := Option.bind_eq_some_iff.mp he
  obtain ⟨⟨dy, μ2⟩, h3, h4⟩ := Option.bind_eq_some_iff.mp h2
  obtain ⟨d', h5, h6⟩ := Option.map_eq_some_iff.mp h4
  cases h6
  refine RE.go S h1 fun v F1 H1 ρ1 e1 S1 r1 => RE.go S1 h3 fun w F2 H2 ρ2 e2 S2 r2 => ?_
  exact ixS_ok S2.fh S2.cells (r1.ext e2) r2 h5 fun u r => q u F2 H2 ρ2 (e1.trans e2) S2.fh S2.cells r
theorem s_slc {a : E} {lo hi : Eo} {x : Expr} {l h : Option Expr} {p2 p : Pos} (ha : PE X x (tE X.K Φ Γ a)) (hl : PO X l (tO X.K Φ Γ lo)) (hh : PO X h (tO X.K Φ Γ hi)) : PE X (.Subscript x (.Slice l h none p2) p) (tE X.K Φ Γ (.slc a lo hi)) := by
  refine PE.imp (pe_slice (sl_of X) ha hl hh) fun σ H Q q => ?_
  obtain ⟨B, F, ρ, env, μ, d, μ', S, he, q⟩ := q
  rw [ev] at he
  obtain ⟨⟨dx, μ1⟩, h1, h2⟩ := Option.bind_eq_some_iff.mp he
  obtain ⟨⟨dl, μ2⟩, h3, h4⟩ := Option.bind_eq_some_iff.mp h2
  obtain ⟨⟨dh, μ3⟩, h5, h6⟩ := Option.bind_eq_some_iff.mp h4
  obtain ⟨d', h7, h8⟩ := Option.map_eq_some_iff.mp h6
  cases h8
  refine RE.go S h1 fun v F1 H1 ρ1 e1 S1 r1 => RE.go S1 h3 fun w F2 H2 ρ2 e2 S2 r2 => RE.go S2 h5 fun w' F3 H3 ρ3 e3 S3 r3 => ?_
  cases r2; cases r3
  exact slcS_ok S3.fh ((r1.ext e2).ext e3) h7 (fin_px q ((e1.trans e2).trans e3) S3.cells)
/-- an argument list without stars -/
theorem spliced_plain {env : PySem.Env} {pos : Pos} : ∀ {es : List Expr}, (∀ e ∈ es, ∀ v p, e ≠ .Starred v p) → (backTo pos (starEach es env)).any (·.1) = false
  | [], _ => rfl
  | e :: es, h => by
    rw [starEach_cons (h e List.mem_cons_self)]
    have ih := spliced_plain (env := env) (pos := pos) (es := es) fun e' he => h e' (List.mem_cons_of_mem _ he)
    show (false || (backTo pos (starEach es env)).any (·.1)) = false
    rw [Bool.false_or]
    exact ih
theorem mEs_nostar {C : MC} {sc : Scope} : ∀ {ms : Es} {es : List Expr}, mEs C sc ms es = true → ∀ e ∈ es, ∀ v p, e ≠ .Starred v p
  | .nil, es, h, e, he => by rw [mEs_nil h] at he; cases he
  | .cons m ms, es, h, e, he => by
    obtain ⟨y, ys, rfl, h1, h2⟩ := mEs_cons h
    rcases List.mem_cons.mp he with rfl | he
    · exact (mE_nostar h1).1
    · exact mEs_nostar h2 e he
theorem s_call {f : Nat} {a : E} {es : Es} {x : Str} {y : Expr} {ys : List Expr} {p2 p : Pos} (G : CG C Φ Γ k X sc) (h1 : C.fns[f]? = some x) (h2 : gloB sc x = true) (h3 : okName x = true)
    (ha : PA X (y :: ys) (tEs X.K Φ Γ (.cons a es))) (n1 : ∀ v p, y ≠ .Starred v p) (n2 : ∀ e ∈ ys, ∀ v p, e ≠ .Starred v p) : PE X (.Call (.Name x p2) (y :: ys) [] p) (tE X.K Φ Γ (.call f a es)) := by
  obtain ⟨fa, fd, ps, g1, g2, g3, g4⟩ := G.fns f x h1
  refine PE.imp (pe_call g3 G.room (G.gl h2) g1 g2 g4 .nil pass0 ha (okName_1 h3) (starEach_cons n1) (spliced_plain n2)) fun σ H Q q => ?_
  obtain ⟨B, F, ρ, env, μ, d, μ', S, he, q⟩ := q
  rw [ev] at he
  obtain ⟨⟨dx, μ1⟩, h1, h2⟩ := Option.bind_eq_some_iff.mp he
  obtain ⟨⟨dl, μ2⟩, h3, h4⟩ := Option.bind_eq_some_iff.mp h2
  have h5 : evs Φ Γ (.cons a es) env μ = some (dx :: dl, μ2) := by
    rw [evs, h1]
    show Option.map _ (evs Φ Γ es env μ1) = _
    rw [h3]
    rfl
  refine RE.go S h5 fun v F1 H1 ρ1 e1 S1 r1 => ⟨F1, ρ1, μ2, dx :: dl, d, μ', S1.fh, S1.cells, by rw [List.append_nil]; exact r1, h4, fun w F2 H2 ρ2 e2 s2 c2 r2 => q w F2 H2 ρ2 (e1.trans e2) s2 c2 r2⟩
theorem s_bi {b : Bi} {a : E} {es : Es} {y : Expr} {ys : List Expr} {p2 p : Pos} (G : CG C Φ Γ k X sc) (h2 : gloB sc (biName b) = true)
    (ha : PA X (y :: ys) (tEs X.K Φ Γ (.cons a es))) (n1 : ∀ v p, y ≠ .Starred v p) (n2 : ∀ e ∈ ys, ∀ v p, e ≠ .Starred v p) : PE X (.Call (.Name (biName b) p2) (y :: ys) [] p) (tE X.K Φ Γ (.bi b a es)) := by
  refine PE.imp (pe_bi b (by have := G.room.un; omega) G.calm (G.gl h2) (G.bi (by cases b <;> decide +kernel)) ha n1 (spliced_plain n2)) fun σ H Q q => ?_
  obtain ⟨B, F, ρ, env, μ, d, μ', S, he, q⟩ := q
  rw [ev] at he
  obtain ⟨⟨dx, μ1⟩, h1, h2⟩ := Option.bind_eq_some_iff.mp he
  obtain ⟨⟨dl, μ2⟩, h3, h4⟩ := Option.bind_eq_some_iff.mp h2
  obtain ⟨d', h7, h8⟩ := Option.map_eq_some_iff.mp h4
  cases h8
  have h5 : evs Φ Γ (.cons a es) env μ = some (dx :: dl, μ') := by
    rw [evs, h1]
    show Option.map _ (evs Φ Γ es env μ1) = _
    rw [h3]
    rfl
  exact RE.go S h5 fun v F1 H1 ρ1 e1 S1 r1 => biS_ok b S1.fh S1.cells r1 h7 (fin_px q e1 S1.cells)
theorem s_isi {a : E} {t : Ty} {y : Expr} {p3 p2 p : Pos} (G : CG C Φ Γ k X sc) (h1 : gloB sc "isinstance" = true) (h2 : gloB sc (tyS t) = true) (ha : PE X y (tE X.K Φ Γ a)) (n1 : ∀ v p, y ≠ .Starred v p) :
    PE X (.Call (.Name "isinstance" p2) [y, .Name (tyS t) p3] [] p) (tE X.K Φ Γ (.isi a t)) := by
  have ht : PE X (.Name (tyS t) p3) (L2.tC (.ty (tyN t))) := by
    refine pe_bltn (u := .type (tyN t)) (G.gl h2) (G.bi (by cases t <;> decide +kernel)) (by cases t <;> decide +kernel) rfl (by cases t <;> decide +kernel) (by cases t <;> decide +kernel)
  refine PE.imp (pe_callB call_isi (G.gl h1) (G.bi (by decide +kernel)) (by decide +kernel) (pa_cons ha (pa_cons ht pa_nil (starEach_cons (fun _ _ z => nomatch z))) (starEach_cons n1)) (by decide) (by decide) (starEach_cons n1) (spliced_plain (by simp))) fun σ H Q q => ?_
  obtain ⟨B, F, ρ, env, μ, d, μ', S, he, q⟩ := q
  rw [ev] at he
  obtain ⟨⟨dx, μ1⟩, h1, h2⟩ := Option.bind_eq_some_iff.mp he
  obtain ⟨d', h7, h8⟩ := Option.map_eq_some_iff.mp h2
  cases h8
  exact RE.go S h1 fun v F1 H1 ρ1 e1 S1 r1 => isiS_ok S1.fh r1 h7 (q _ F1 H1 ρ1 e1 S1.fh S1.cells (.bl _))
end
end Py
end
section
set_option Elab.async false
set_option linter.all false
set_option maxRecDepth 100000
set_option maxHeartbeats 4000000
namespace Py
open PySem L2 RZ
section
variable {K : PySem.W.Frag} {F : Hp} {ρ : List Addr}
mutual
theorem keyN_ok : ∀ (d : D) (v : V) (k : NestedKey), Dr K F ρ v d → keyN d = some k → NKey K F k v ∧ nNum k = true
  | .non, _, k, h, e => by cases h; cases e; exact ⟨.none, rfl⟩
  | .int i, _, k, h, e => by cases h; cases e; exact ⟨.num i, rfl⟩
  | .tup ds, _, k, h, e => by
    cases h with
    | tup h1 h2 =>
      rw [keyN] at e
      obtain ⟨ks, e1, e2⟩ := Option.map_eq_some_iff.mp e
      subst e2
      obtain ⟨g1, g2⟩ := keyNs_ok ds _ ks h2 e1
      exact ⟨.tup h1 g1, by rw [nNum]; exact g2⟩
  | .bl _, _, _, _, e => by unfold keyN at e; cases e
  | .str _, _, _, _, e => by unfold keyN at e; cases e
  | .lst _, _, _, _, e => by unfold keyN at e; cases e
  | .scr _, _, _, _, e => by unfold keyN at e; cases e
  | .mr _, _, _, _, e => by unfold keyN at e; cases e
  | .rg _ _, _, _, _, e => by unfold keyN at e; cases e
theorem keyNs_ok : ∀ (ds : List D) (vs : List V) (ks : List NestedKey), DrL K F ρ vs ds → keyNs ds = some ks → NKeys K F ks vs ∧ nNums ks = true
  | [], _, ks, h, e => by cases h; cases e; exact ⟨.nil, rfl⟩
  | d :: ds, _, ks, h, e => by
    cases h with
    | cons h1 h2 =>
      rw [keyNs] at e
      obtain ⟨k, e1, e2⟩ := Option.bind_eq_some_iff.mp e
      obtain ⟨ks', e3, e4⟩ := Option.map_eq_some_iff.mp e2
      subst e4
      obtain ⟨g1, g2⟩ := keyN_ok d _ k h1 e1
      obtain ⟨g3, g4⟩ := keyNs_ok ds _ ks' h2 e3
      exact ⟨.cons g1 g3, by rw [nNums, g2, g4]; rfl⟩
end
theorem keyS_ok {d : D} {v : V} {k : NestedKey} (h : Dr K F ρ v d) (e : keyS d = some k) : ∃ b, v = .ref b ∧ NKey K F k (.ref b) ∧ k.depth ≤ 8 ∧ nNum k = true := by
  unfold keyS at e
  split at e
  · obtain ⟨k', e1, e2⟩ := Option.bind_eq_some_iff.mp e
    split at e2
    · cases e2
      obtain ⟨g1, g2⟩ := keyN_ok _ _ _ h e1
      cases h with
      | tup h1 h2 => exact ⟨_, rfl, g1, ‹_›, g2⟩
    · cases e2
  · cases e
theorem kd_at : ∀ {ps : List NE} {qs : List (NestedKey × D)}, KD K F ρ ps qs → ∀ k, (nAt ps k).isSome = (dAtS qs k).isSome ∧ ∀ d, dAtS qs k = some d → ∃ v, nAt ps k = some v ∧ Dr K F ρ v d
  | _, _, .nil, k => ⟨rfl, fun d h => by cases h⟩
  | _, _, .cons (a := p) (b := q) h t, k => by
    by_cases e : p.1 = k
    · have e2 : q.1 = k := h.1 ▸ e
      refine ⟨by simp [nAt, dAtS, e, e2], fun d hd => ?_⟩
      simp only [dAtS, List.find?_cons, e2, decide_true, Option.map_some, Option.some.injEq] at hd
      subst hd
      exact ⟨p.2.2, by simp [nAt, e], h.2.2.2.2⟩
    · have e2 : ¬ q.1 = k := fun z => e (h.1.trans z)
      have ih := kd_at t k
      simpa [nAt, dAtS, e, e2] using ih
theorem kd_len : ∀ {ps : List NE} {qs : List (NestedKey × D)}, KD K F ρ ps qs → ps.length = qs.length
  | _, _, .nil => rfl
  | _, _, .cons _ t => by simp [kd_len t]
theorem kd_vals : ∀ {ps : List NE} {qs : List (NestedKey × D)}, KD K F ρ ps qs → DrL K F ρ (ps.map (·.2.2)) (qs.map (·.2))
  | _, _, .nil => .nil
  | _, _, .cons h t => .cons h.2.2.2.2 (kd_vals t)
theorem kd_map {k : NestedKey} {v : V} {d : D} (r : Dr K F ρ v d) : ∀ {ps : List NE} {qs : List (NestedKey × D)}, KD K F ρ ps qs → KD K F ρ (ps.map fun x => if x.1 = k then (x.1, x.2.1, v) else x) (qs.map fun x => if x.1 = k then (x.1, d) else x)
  | _, _, .nil => .nil
  | _, _, .cons (a := p) (b := q) h t => by
    refine .cons ?_ (kd_map r t)
    by_cases e : p.1 = k
    · have e2 : q.1 = k := h.1 ▸ e
      simp only [if_pos e, if_pos e2]
      exact ⟨h.1, h.2.1, h.2.2.1, h.2.2.2.1, r⟩
    · have e2 : ¬ q.1 = k := fun z => e (h.1.trans z)
      simp only [if_neg e, if_neg e2]
      exact h
theorem kd_snoc {p : NE} {q : NestedKey × D} (r : p.1 = q.1 ∧ NKey K F p.1 (.ref p.2.1) ∧ p.1.depth ≤ 8 ∧ nNum p.1 = true ∧ Dr K F ρ p.2.2 q.2) : ∀ {ps : List NE} {qs : List (NestedKey × D)}, KD K F ρ ps qs → KD K F ρ (ps ++ [p]) (qs ++ [q])
  | _, _, .nil => .cons r .nil
  | _, _, .cons h t => .cons h (kd_snoc r t)
theorem kd_put {ps : List NE} {qs : List (NestedKey × D)} {k : NestedKey} {b : Addr} {v : V} {d : D} (h : KD K F ρ ps qs) (kk : NKey K F k (.ref b)) (k8 : k.depth ≤ 8) (kn : nNum k = true) (r : Dr K F ρ v d) : KD K F ρ (nPut ps k b v) (dPutS qs k d) := by
  unfold nPut dPutS
  rw [(kd_at h k).1]
  split
  · exact kd_map r h
  · exact kd_snoc ⟨rfl, kk, k8, kn, r⟩ h
end
section
variable {C : MC} {Φ : FnS} {Γ : GlS} {k : Nat} {X : Cx} {sc : Scope}
theorem s_chain {a b c : E} {x y z : Expr} {op op' : CmpOp} {p : Pos} (G : CG C Φ Γ k X sc) (hm : lastMarks [op, op'] [y, z] = false) (ha : PE X x (tE X.K Φ Γ a)) (hb : PE X y (tE X.K Φ Γ b)) (hc : PE X z (tE X.K Φ Γ c)) : PE X (.Compare x [op, op'] [y, z] p) (tE X.K Φ Γ (.chain op op' a b c)) := by
  refine PE.imp (pe_chain (cmp_of X (by have := G.room.un; omega) op) (cmp_of X (by have := G.room.un; omega) op') ha hb hc hm) fun σ H Q q => ?_
  obtain ⟨B, F, ρ, env, μ, d, μ', S, he, q⟩ := q
  rw [ev] at he
  obtain ⟨⟨dx, μ1⟩, h1, h2⟩ := Option.bind_eq_some_iff.mp he
  obtain ⟨⟨dy, μ2⟩, h3, h4⟩ := Option.bind_eq_some_iff.mp h2
  obtain ⟨d', h5, h6⟩ := Option.bind_eq_some_iff.mp h4
  refine RE.go S h1 fun v F1 H1 ρ1 e1 S1 r1 => RE.go S1 h3 fun w F2 H2 ρ2 e2 S2 r2 => ?_
  refine cmpS_ok op S2.fh (r1.ext e2) r2 h5 ⟨d', rfl, ?_⟩
  cases d' with
  | true =>
    rw [if_pos rfl] at h6 ⊢
    obtain ⟨⟨dz, μ3⟩, h7, h8⟩ := Option.bind_eq_some_iff.mp h6
    obtain ⟨d2, h9, h10⟩ := Option.map_eq_some_iff.mp h8
    cases h10
    refine RE.go S2 h7 fun u F3 H3 ρ3 e3 S3 r3 => ?_
    exact cmpS_ok op' S3.fh (r2.ext e3) r3 h9 (q _ F3 H3 ρ3 ((e1.trans e2).trans e3) S3.fh S3.cells (.bl _))
  | false =>
    rw [if_neg Bool.false_ne_true] at h6 ⊢
    cases h6
    exact q _ F2 H2 ρ2 (e1.trans e2) S2.fh S2.cells (.bl _)
theorem sT_chain {a b c : E} {x y z : Expr} {op op' : CmpOp} {p : Pos} (G : CG C Φ Γ k X sc) (hm : lastMarks [op, op'] [y, z] = false) (ha : PE X x (tE X.K Φ Γ a)) (hb : PE X y (tE X.K Φ Γ b)) (hc : PE X z (tE X.K Φ Γ c)) : PT X (.Compare x [op, op'] [y, z] p) (tT X.K Φ Γ (.chain op op' a b c)) := by
  refine PT.imp (pt_chain (cmp_of X (by have := G.room.un; omega) op) (cmp_of X (by have := G.room.un; omega) op') ha hb hc hm) fun σ H Q q => ?_
  obtain ⟨B, F, ρ, env, μ, d, μ', S, he, q⟩ := q
  rw [evT] at he
  obtain ⟨⟨dx, μ1⟩, h1, h2⟩ := Option.bind_eq_some_iff.mp he
  obtain ⟨⟨dy, μ2⟩, h3, h4⟩ := Option.bind_eq_some_iff.mp h2
  obtain ⟨d', h5, h6⟩ := Option.bind_eq_some_iff.mp h4
  refine RE.go S h1 fun v F1 H1 ρ1 e1 S1 r1 => RE.go S1 h3 fun w F2 H2 ρ2 e2 S2 r2 => ?_
  refine cmpS_ok op S2.fh (r1.ext e2) r2 h5 ⟨d', rfl, ?_⟩
  cases d' with
  | true =>
    rw [if_pos rfl] at h6 ⊢
    obtain ⟨⟨dz, μ3⟩, h7, h8⟩ := Option.bind_eq_some_iff.mp h6
    obtain ⟨d2, h9, h10⟩ := Option.map_eq_some_iff.mp h8
    cases h10
    refine RE.go S2 h7 fun u F3 H3 ρ3 e3 S3 r3 => ?_
    exact cmpS_ok op' S3.fh (r2.ext e3) r3 h9 ⟨_, rfl, q _ F3 H3 ρ3 ((e1.trans e2).trans e3) S3.fh S3.cells rfl⟩
  | false =>
    rw [if_neg Bool.false_ne_true] at h6 ⊢
    cases h6
    exact ⟨_, rfl, q _ F2 H2 ρ2 (e1.trans e2) S2.fh S2.cells rfl⟩
/-- the dict at a slot -/
theorem dct_at {B F H : Hp} {ρ : List Addr} {σ : L2.St} {env : Env} {μ : Store} {i : Nat} {kvs : List (NestedKey × D)} (S : SR X.K B F H ρ σ env μ) (h : getD' env i = some kvs) :
    ∃ a nes, σ[i]? = some (some (.ref a)) ∧ H a = some (dnO X.prog X.w a nes) ∧ NOk X.K H nes ∧ KD X.K F ρ nes kvs ∧ F a = none ∧ a ∉ ρ ∧ B a = none := by
  obtain ⟨v, h1, a, nes, P, w, rfl, h2, h3, h4, h5, h6⟩ := S.env.at_ _ _ (getD_eq h)
  exact ⟨a, nes, h1, by rw [h2, dnO_eq (P' := X.prog) (w' := X.w) h3.num], h3.ok S.fh, h3, h4, h5, h6⟩
theorem s_dAt {i : Nat} {a : E} {y : Str} {x : Expr} {p2 p : Pos} (G : CG C Φ Γ k X sc) (h1 : C.N[i]? = some y) (h2 : visB sc y = true) (h3 : okName y = true) (hs : sliceB x = false) (ha : PE X x (tE X.K Φ Γ a)) : PE X (.Subscript (.Name y p2) x p) (tE X.K Φ Γ (.dAt i a)) := by
  have hv : PE X (.Name y p2) (tVar i) := pe_var (by rw [G.hN]; exact h1) (G.vis h2) (okName_1 h3) (okName_2 h3)
  refine PE.imp (pe_nget (by have := G.room.un; omega) hv ha (by cases x <;> first | exact fun _ _ => rfl | cases hs)) fun σ H Q q => ?_
  obtain ⟨B, F, ρ, env, μ, d, μ', S, he, q⟩ := q
  rw [ev] at he
  obtain ⟨⟨dx, μ1⟩, g1, g2⟩ := Option.bind_eq_some_iff.mp he
  obtain ⟨kvs, g3, g4⟩ := Option.bind_eq_some_iff.mp g2
  obtain ⟨kk, g5, g6⟩ := Option.bind_eq_some_iff.mp g4
  obtain ⟨dv, g7, g8⟩ := Option.map_eq_some_iff.mp g6
  cases g8
  obtain ⟨a0, nes0, j1, _⟩ := dct_at S g3
  refine ⟨_, j1, RE.go S g1 fun v F1 H1 ρ1 e1 S1 r1 => ?_⟩
  obtain ⟨a1, nes, k1, k2, k3, k4, _⟩ := dct_at S1 g3
  rw [j1] at k1; cases k1
  obtain ⟨b, rfl, m1, m2, m3⟩ := keyS_ok r1 g5
  obtain ⟨vv, m4, m5⟩ := (kd_at k4 kk).2 _ g7
  exact ⟨_, b, nes, kk, vv, _, _, rfl, rfl, rfl, rfl, k2, k3, NKey.mono S1.fh _ _ m1, m2, m4, q vv F1 H1 ρ1 e1 S1.fh S1.cells m5⟩
theorem s_dIn {neg : Bool} {i : Nat} {a : E} {y : Str} {x : Expr} {p2 p : Pos} (G : CG C Φ Γ k X sc) (h1 : C.N[i]? = some y) (h2 : visB sc y = true) (h3 : okName y = true) (ha : PE X x (tE X.K Φ Γ a)) : PE X (.Compare x [if neg then .NotIn else .In] [.Name y p2] p) (tE X.K Φ Γ (.dIn neg i a)) := by
  have hv : PE X (.Name y p2) (tVar i) := pe_var (by rw [G.hN]; exact h1) (G.vis h2) (okName_1 h3) (okName_2 h3)
  have hc : PC X (if neg then .NotIn else .In) x (.Name y p2) (tNIn (X := X) (fun b => if neg then !b else b) (tE X.K Φ Γ a) (tVar i)) := by
    cases neg with
    | true => exact pc_nnotin (by have := G.room.un; omega) ha hv
    | false => exact pc_nin (by have := G.room.un; omega) ha hv
  refine PE.imp (pe_cmp hc (by cases neg <;> rfl)) fun σ H Q q => ?_
  obtain ⟨B, F, ρ, env, μ, d, μ', S, he, q⟩ := q
  rw [ev] at he
  obtain ⟨⟨dx, μ1⟩, g1, g2⟩ := Option.bind_eq_some_iff.mp he
  obtain ⟨kvs, g3, g4⟩ := Option.bind_eq_some_iff.mp g2
  obtain ⟨kk, g5, g6⟩ := Option.map_eq_some_iff.mp g4
  cases g6
  refine RE.go S g1 fun v F1 H1 ρ1 e1 S1 r1 => ?_
  obtain ⟨a1, nes, k1, k2, k3, k4, _⟩ := dct_at S1 g3
  obtain ⟨b, rfl, m1, m2, m3⟩ := keyS_ok r1 g5
  refine ⟨_, k1, _, b, nes, kk, _, _, rfl, rfl, rfl, rfl, k2, k3, NKey.mono S1.fh _ _ m1, m2, ?_⟩
  rw [(kd_at k4 kk).1]
  exact q _ F1 H1 ρ1 e1 S1.fh S1.cells (.bl _)
theorem sT_dIn {neg : Bool} {i : Nat} {a : E} {y : Str} {x : Expr} {p2 p : Pos} (G : CG C Φ Γ k X sc) (h1 : C.N[i]? = some y) (h2 : visB sc y = true) (h3 : okName y = true) (ha : PE X x (tE X.K Φ Γ a)) : PT X (.Compare x [if neg then .NotIn else .In] [.Name y p2] p) (tT X.K Φ Γ (.dIn neg i a)) := by
  have hv : PE X (.Name y p2) (tVar i) := pe_var (by rw [G.hN]; exact h1) (G.vis h2) (okName_1 h3) (okName_2 h3)
  have hc : PC X (if neg then .NotIn else .In) x (.Name y p2) (tNIn (X := X) (fun b => if neg then !b else b) (tE X.K Φ Γ a) (tVar i)) := by
    cases neg with
    | true => exact pc_nnotin (by have := G.room.un; omega) ha hv
    | false => exact pc_nin (by have := G.room.un; omega) ha hv
  refine PT.imp (pt_cmp hc (by cases neg <;> rfl)) fun σ H Q q => ?_
  obtain ⟨B, F, ρ, env, μ, d, μ', S, he, q⟩ := q
  rw [evT] at he
  obtain ⟨⟨dx, μ1⟩, g1, g2⟩ := Option.bind_eq_some_iff.mp he
  obtain ⟨kvs, g3, g4⟩ := Option.bind_eq_some_iff.mp g2
  obtain ⟨kk, g5, g6⟩ := Option.map_eq_some_iff.mp g4
  cases g6
  refine RE.go S g1 fun v F1 H1 ρ1 e1 S1 r1 => ?_
  obtain ⟨a1, nes, k1, k2, k3, k4, _⟩ := dct_at S1 g3
  obtain ⟨b, rfl, m1, m2, m3⟩ := keyS_ok r1 g5
  refine ⟨_, k1, _, b, nes, kk, _, _, rfl, rfl, rfl, rfl, k2, k3, NKey.mono S1.fh _ _ m1, m2, _, rfl, ?_⟩
  rw [(kd_at k4 kk).1]
  exact q _ F1 H1 ρ1 e1 S1.fh S1.cells rfl
theorem s_dVals {i : Nat} {y : Str} {p2 p3 ap cp p : Pos} (G : CG C Φ Γ k X sc) (hg : gloB sc "list" = true) (h1 : C.N[i]? = some y) (h2 : visB sc y = true) (h3 : okName y = true) (hl : (ap.endLine == cp.line) = true) : PE X (.Call (.Name "list" p2) [.Call (.Attribute (.Name y p3) "values" ap) [] [] cp] [] p) (tE X.K Φ Γ (.dVals i)) := by
  have hv : PE X (.Name y p3) (tVar i) := pe_var (by rw [G.hN]; exact h1) (G.vis h2) (okName_1 h3) (okName_2 h3)
  have hw := pe_nvals (cpos := cp) hv rfl hl
  refine PE.imp (pe_callTy (call_listN G.calm) (G.gl hg) (G.bi (by decide +kernel)) rfl (pa_cons hw pa_nil rfl)) fun σ H Q q => ?_
  obtain ⟨B, F, ρ, env, μ, d, μ', S, he, q⟩ := q
  rw [ev] at he
  obtain ⟨kvs, g3, g4⟩ := Option.map_eq_some_iff.mp he
  cases g4
  obtain ⟨a1, nes, k1, k2, k3, k4, k5, k6, k7⟩ := dct_at S g3
  refine ⟨_, k1, a1, nes, _, _, rfl, rfl, rfl, k2, k3, fun r hr => ?_⟩
  have na : a1 ≠ r := ne_of_none k2 hr
  refine ⟨r, a1, nes, _, _, rfl, rfl, rfl, upd_same, by rw [upd_ne na]; exact k2, ⟨fun x hx => NKey.mono (same_upd' hr) _ _ (k3.1 x hx), k3.2⟩, fun p' hp' => ?_⟩
  have P1 := PX.new_ (o := nvO r a1) S.fh hr
  exact new_lst P1.fh (DrL.mono P1.ff (fun _ _ h => h) _ _ (kd_vals k4)) (fin_px q P1.ext (S.cells.px P1)) p' hp'
theorem rngS_eq {lo hi : Int} {ds : List D} (h : rngS lo hi = some ds) : (-(2 ^ 62) ≤ lo ∧ lo < 2 ^ 62 ∧ -(2 ^ 62) ≤ hi ∧ hi < 2 ^ 62) ∧ (hi - lo).toNat ≤ SZ ∧ ds = rangeD lo (hi - lo).toNat := by
  unfold rngS at h
  split at h
  · rename_i q
    cases h
    simp only [Bool.and_eq_true, decide_eq_true_eq] at q
    exact ⟨⟨by omega, by omega, by omega, by omega⟩, q.2, rfl⟩
  · cases h
theorem asInt_eq {d : D} {i : Int} (h : asInt d = some i) : d = .int i := by
  unfold asInt at h
  split at h
  · cases h; rfl
  · cases h
theorem rgV_dr {K : PySem.W.Frag} {F : Hp} {ρ : List Addr} {lo hi : Int} : DrL K F ρ (rgV lo hi) (rangeD lo (hi - lo).toNat) := by
  unfold rgV rangeD
  generalize List.range (hi - lo).toNat = l
  induction l with
  | nil => exact .nil
  | cons x xs ih => exact .cons (.int _) ih
theorem s_rngL {a : E} {x : Expr} {p2 p3 p4 p : Pos} (G : CG C Φ Γ k X sc) (hg : gloB sc "list" = true) (hr : gloB sc "range" = true) (ha : PE X x (tE X.K Φ Γ a)) (n1 : ∀ v p, x ≠ .Starred v p) : PE X (.Call (.Name "list" p2) [.Call (.Name "range" p3) [x] [] p4] [] p) (tE X.K Φ Γ (.rngL a)) := by
  refine PE.imp (pe_listRg G.calm (G.gl hg) (G.bi (by decide +kernel)) (prg_1 (G.gl hr) (G.bi (by decide +kernel)) ha (starEach_cons n1)) rfl) fun σ H Q q => ?_
  obtain ⟨B, F, ρ, env, μ, d, μ', S, he, q⟩ := q
  rw [ev] at he
  obtain ⟨⟨dx, μ1⟩, h1, h2⟩ := Option.bind_eq_some_iff.mp he
  obtain ⟨j, h3, h4⟩ := Option.bind_eq_some_iff.mp h2
  obtain ⟨es, h5, h6⟩ := Option.map_eq_some_iff.mp h4
  cases h6
  refine RE.go S h1 fun v F1 H1 ρ1 e1 S1 r1 => ?_
  have e0 := asInt_eq h3
  subst e0
  cases r1
  obtain ⟨⟨b1, b2, b3, b4⟩, b5, e2⟩ := rngS_eq h5
  subst e2
  refine ⟨j, rfl, ⟨b1, b2, b3, b4, by have : SZ = 2 ^ 24 := rfl; omega⟩, ?_⟩
  exact new_lst S1.fh rgV_dr (fin_px q e1 S1.cells)
theorem s_rngL2 {a b : E} {x y : Expr} {p2 p3 p4 p : Pos} (G : CG C Φ Γ k X sc) (hg : gloB sc "list" = true) (hr : gloB sc "range" = true) (ha : PE X x (tE X.K Φ Γ a)) (hb : PE X y (tE X.K Φ Γ b)) (n1 : ∀ v p, x ≠ .Starred v p) (n2 : ∀ v p, y ≠ .Starred v p) : PE X (.Call (.Name "list" p2) [.Call (.Name "range" p3) [x, y] [] p4] [] p) (tE X.K Φ Γ (.rngL2 a b)) := by
  refine PE.imp (pe_listRg G.calm (G.gl hg) (G.bi (by decide +kernel)) (prg_2 (G.gl hr) (G.bi (by decide +kernel)) ha hb (starEach_cons n1) (starEach_cons n2) (by rw [starEach_cons n2]; rfl)) rfl) fun σ H Q q => ?_
  obtain ⟨B, F, ρ, env, μ, d, μ', S, he, q⟩ := q
  rw [ev] at he
  obtain ⟨⟨dx, μ1⟩, h1, h2⟩ := Option.bind_eq_some_iff.mp he
  obtain ⟨⟨dy, μ2⟩, h1', h2'⟩ := Option.bind_eq_some_iff.mp h2
  obtain ⟨i, h3, h4⟩ := Option.bind_eq_some_iff.mp h2'
  obtain ⟨j, h3', h4'⟩ := Option.bind_eq_some_iff.mp h4
  obtain ⟨es, h5, h6⟩ := Option.map_eq_some_iff.mp h4'
  cases h6
  refine RE.go S h1 fun v F1 H1 ρ1 e1 S1 r1 => RE.go S1 h1' fun w F2 H2 ρ2 e2 S2 r2 => ?_
  have e0 := asInt_eq h3
  subst e0
  have e0' := asInt_eq h3'
  subst e0'
  cases r1
  cases r2
  obtain ⟨⟨b1, b2, b3, b4⟩, b5, e3⟩ := rngS_eq h5
  subst e3
  refine ⟨i, j, rfl, rfl, ⟨b1, b2, b3, b4, by have : SZ = 2 ^ 24 := rfl; omega⟩, ?_⟩
  exact new_lst S2.fh rgV_dr (fin_px q (e1.trans e2) S2.cells)
/-- a range that is held, walked -/
theorem pi_rg {tg l : Expr} {tl : TE} (hl : PE X l tl) : PI X tg l (fun σ H R => tl σ H fun x H1 => ∃ a lo hi, x = .ref a ∧ H1 a = some (.rng lo hi) ∧ (-(2 ^ 62) ≤ lo ∧ lo < 2 ^ 62 ∧ -(2 ^ 62) ≤ hi ∧ hi < 2 ^ 62) ∧ R (Itr lo (hi - lo).toNat) H1) := by
  refine ⟨fun pins s σ H R I h => ?_⟩
  refine thn (hl.run pins s σ H _ I h) fun v s1 ⟨x, H1, I1, r1, q1⟩ => ?_
  obtain ⟨a, lo, hi, e, ha, ⟨h1, h2, h3, h4⟩, q⟩ := q1
  subst e
  cases r1
  obtain ⟨t, u, w, hg⟩ := I1.hok _ _ ha
  refine wpAny_pyIter_range hg (small_one h1 h2 h3 h4) ?_
  refine ⟨s1.heap.objs.size, [s1.heap.objs.size], _, _, H1, rfl, I1.kept (t' := s1.toks) fun b o e => Heap.get?_push_of_some _ e, turn_range _ lo (hi - lo).toNat, ?_, fun b hb => ?_, q⟩
  · have e1 : lo + ((0 : Nat) : Int) * 1 = lo := by simp
    have e2 : (((hi - lo).toNat : Nat) : Int) - ((0 : Nat) : Int) = Builtin.Range.rangeSize lo hi 1 := by rw [rangeSize_one]; split <;> omega
    show IsRangeIter _ _ (lo + ((0 : Nat) : Int) * 1) ((((hi - lo).toNat : Nat) : Int) - ((0 : Nat) : Int)) 1
    rw [e1, e2]
    exact Heap.get?_push_size _ rfl
  · have e : b = s1.heap.objs.size := by simpa using hb
    subst e
    exact I1.fpOk (Nat.le_refl _) (I1.hok.fresh (Nat.le_refl _))
theorem drl_rev {K : PySem.W.Frag} {F : Hp} {ρ : List Addr} : ∀ {xs : List V} {ds : List D}, DrL K F ρ xs ds → DrL K F ρ xs.reverse ds.reverse
  | _, _, .nil => .nil
  | _, _, .cons h t => by
    rw [List.reverse_cons, List.reverse_cons]
    exact (drl_rev t).append (.cons h .nil)
theorem s_rev {a : E} {x : Expr} {n : Nat} {p1 p2 p3 p : Pos} (ha : PE X x (tE X.K Φ Γ a)) : PE X (.Subscript x (.Slice none none (some (.UnaryOp .USub (.Constant (.int 1) n p1) p2)) p3) p) (tE X.K Φ Γ (.rev a)) := by
  refine PE.imp (pe_revL ha) fun σ H Q q => ?_
  obtain ⟨B, F, ρ, env, μ, d, μ', S, he, q⟩ := q
  rw [ev] at he
  obtain ⟨⟨dx, μ1⟩, h1, h2⟩ := Option.bind_eq_some_iff.mp he
  refine RE.go S h1 fun v F1 H1 ρ1 e1 S1 r1 => ?_
  dsimp only at h2
  split at h2
  · cases h2
    cases r1 with
    | lst u1 u2 => exact ⟨_, _, rfl, .inl (.inl (S1.fh _ _ u1)), new_lst S1.fh (drl_rev u2) (fin_px q e1 S1.cells)⟩
  · cases h2
    cases r1 with
    | scr u1 u2 => exact ⟨_, _, rfl, S1.fh.seq u1, new_lst S1.fh (drl_rev u2) (fin_px q e1 S1.cells)⟩
  · cases h2
end
end Py
end
section
set_option Elab.async false
set_option linter.all false
set_option maxRecDepth 100000
namespace Py
open PySem L2 RZ
/-! ### and, or -/
def tAnd (K : PySem.W.Frag) (Φ : FnS) (Γ : GlS) (a : E) (r : Es) : TE := RE (fun F ρ v d => Dr K F ρ v d) K (fun env μ => (ev Φ Γ a env μ).bind fun p => evAnd Φ Γ p.1 r env p.2)
def tOr (K : PySem.W.Frag) (Φ : FnS) (Γ : GlS) (a : E) (r : Es) : TE := RE (fun F ρ v d => Dr K F ρ v d) K (fun env μ => (ev Φ Γ a env μ).bind fun p => evOr Φ Γ p.1 r env p.2)
def tTAnd (K : PySem.W.Frag) (Φ : FnS) (Γ : GlS) (a : E) (r : Es) : TT := RE (fun _ _ (a b : Bool) => a = b) K (fun env μ => (evT Φ Γ a env μ).bind fun p => if p.1 then evTAnd Φ Γ r env p.2 else some (false, p.2))
def tTOr (K : PySem.W.Frag) (Φ : FnS) (Γ : GlS) (a : E) (r : Es) : TT := RE (fun _ _ (a b : Bool) => a = b) K (fun env μ => (evT Φ Γ a env μ).bind fun p => if p.1 then some (true, p.2) else evTOr Φ Γ r env p.2)
section
variable {C : MC} {Φ : FnS} {Γ : GlS} {k : Nat} {X : Cx} {sc : Scope} {a b : E} {r : Es} {x y : Expr} {ys : List Expr} {p : Pos}
theorem s_and1 (ha : PE X x (tE X.K Φ Γ a)) : PE X (.BoolOp .And [x] p) (tAnd X.K Φ Γ a .nil) := by
  refine PE.imp (pe_one ha) fun σ H Q q => ?_
  obtain ⟨B, F, ρ, env, μ, d, μ', S, he, q⟩ := q
  obtain ⟨⟨dx, μ1⟩, h1, h2⟩ := Option.bind_eq_some_iff.mp he
  simp only [evAnd] at h2
  cases h2
  exact ⟨B, F, ρ, env, μ, _, _, S, h1, q⟩
theorem s_and2 (ha : PE X x (tE X.K Φ Γ a)) (hb : PE X (.BoolOp .And (y :: ys) p) (tAnd X.K Φ Γ b r)) : PE X (.BoolOp .And (x :: y :: ys) p) (tAnd X.K Φ Γ a (.cons b r)) := by
  refine PE.imp (pe_and ha hb) fun σ H Q q => ?_
  obtain ⟨B, F, ρ, env, μ, d, μ', S, he, q⟩ := q
  obtain ⟨⟨dx, μ1⟩, h1, h2⟩ := Option.bind_eq_some_iff.mp he
  refine RE.go S h1 fun v F1 H1 ρ1 e1 S1 r1 => ?_
  dsimp only at h2
  unfold evAnd at h2
  split at h2
  · contradiction
  · rename_i _ _ _ _ _ _ q1
    cases q1
    cases r1
    obtain ⟨⟨dy, μ2⟩, h3, h4⟩ := Option.bind_eq_some_iff.mp h2
    refine ⟨true, rfl, iteT ⟨B, F1, ρ1, _, _, d, μ', S1, ?_, fun w F2 H2 ρ2 e2 s2 c2 r2 => q w F2 H2 ρ2 (e1.trans e2) s2 c2 r2⟩⟩
    dsimp only; rw [h3]; exact h4
  · cases h2
    cases r1
    exact ⟨false, rfl, iteF (q _ F1 H1 ρ1 e1 S1.fh S1.cells (.bl _))⟩
  · cases h2
theorem s_or1 (ha : PE X x (tE X.K Φ Γ a)) : PE X (.BoolOp .Or [x] p) (tOr X.K Φ Γ a .nil) := by
  refine PE.imp (pe_one ha) fun σ H Q q => ?_
  obtain ⟨B, F, ρ, env, μ, d, μ', S, he, q⟩ := q
  obtain ⟨⟨dx, μ1⟩, h1, h2⟩ := Option.bind_eq_some_iff.mp he
  simp only [evOr] at h2
  cases h2
  exact ⟨B, F, ρ, env, μ, _, _, S, h1, q⟩
theorem s_or2 (ha : PE X x (tE X.K Φ Γ a)) (hb : PE X (.BoolOp .Or (y :: ys) p) (tOr X.K Φ Γ b r)) : PE X (.BoolOp .Or (x :: y :: ys) p) (tOr X.K Φ Γ a (.cons b r)) := by
  refine PE.imp (pe_or ha hb) fun σ H Q q => ?_
  obtain ⟨B, F, ρ, env, μ, d, μ', S, he, q⟩ := q
  obtain ⟨⟨dx, μ1⟩, h1, h2⟩ := Option.bind_eq_some_iff.mp he
  refine RE.go S h1 fun v F1 H1 ρ1 e1 S1 r1 => ?_
  dsimp only at h2
  unfold evOr at h2
  split at h2
  · contradiction
  · rename_i _ _ _ _ _ _ q1
    cases q1
    cases r1
    obtain ⟨⟨dy, μ2⟩, h3, h4⟩ := Option.bind_eq_some_iff.mp h2
    refine ⟨false, rfl, iteF ⟨B, F1, ρ1, _, _, d, μ', S1, ?_, fun w F2 H2 ρ2 e2 s2 c2 r2 => q w F2 H2 ρ2 (e1.trans e2) s2 c2 r2⟩⟩
    dsimp only; rw [h3]; exact h4
  · cases h2
    cases r1
    exact ⟨true, rfl, iteT (q _ F1 H1 ρ1 e1 S1.fh S1.cells (.bl _))⟩
  · cases h2
theorem sT_and1 (ha : PT X x (tT X.K Φ Γ a)) : PW X (.BoolOp .And [x] p) (tTAnd X.K Φ Γ a .nil) := by
  refine PW.imp (pw_and1 ha) fun σ H Q q => ?_
  obtain ⟨B, F, ρ, env, μ, d, μ', S, he, q⟩ := q
  obtain ⟨⟨dx, μ1⟩, h1, h2⟩ := Option.bind_eq_some_iff.mp he
  refine ⟨B, F, ρ, env, μ, _, _, S, h1, fun w F2 H2 ρ2 e2 s2 c2 r2 => ?_⟩
  dsimp only at h2
  cases dx with
  | true => rw [if_pos rfl, evTAnd] at h2; cases h2; exact q w F2 H2 ρ2 e2 s2 c2 r2
  | false => rw [if_neg Bool.false_ne_true] at h2; cases h2; exact q w F2 H2 ρ2 e2 s2 c2 r2
theorem sT_and2 (ha : PT X x (tT X.K Φ Γ a)) (hb : PW X (.BoolOp .And (y :: ys) p) (tTAnd X.K Φ Γ b r)) : PW X (.BoolOp .And (x :: y :: ys) p) (tTAnd X.K Φ Γ a (.cons b r)) := by
  refine PW.imp (pw_and ha hb) fun σ H Q q => ?_
  obtain ⟨B, F, ρ, env, μ, d, μ', S, he, q⟩ := q
  obtain ⟨⟨dx, μ1⟩, h1, h2⟩ := Option.bind_eq_some_iff.mp he
  refine RE.go S h1 fun v F1 H1 ρ1 e1 S1 r1 => ?_
  cases r1
  dsimp only at h2
  cases dx with
  | true =>
    rw [if_pos rfl, evTAnd] at h2
    exact iteT ⟨B, F1, ρ1, env, μ1, d, μ', S1, h2, fun w F2 H2 ρ2 e2 s2 c2 r2 => q w F2 H2 ρ2 (e1.trans e2) s2 c2 r2⟩
  | false =>
    rw [if_neg Bool.false_ne_true] at h2; cases h2
    exact iteF (q _ F1 H1 ρ1 e1 S1.fh S1.cells rfl)
theorem sT_or1 (ha : PT X x (tT X.K Φ Γ a)) : PW X (.BoolOp .Or [x] p) (tTOr X.K Φ Γ a .nil) := by
  refine PW.imp (pw_or1 ha) fun σ H Q q => ?_
  obtain ⟨B, F, ρ, env, μ, d, μ', S, he, q⟩ := q
  obtain ⟨⟨dx, μ1⟩, h1, h2⟩ := Option.bind_eq_some_iff.mp he
  refine ⟨B, F, ρ, env, μ, _, _, S, h1, fun w F2 H2 ρ2 e2 s2 c2 r2 => ?_⟩
  dsimp only at h2
  cases dx with
  | true => rw [if_pos rfl] at h2; cases h2; exact q w F2 H2 ρ2 e2 s2 c2 r2
  | false => rw [if_neg Bool.false_ne_true, evTOr] at h2; cases h2; exact q w F2 H2 ρ2 e2 s2 c2 r2
theorem sT_or2 (ha : PT X x (tT X.K Φ Γ a)) (hb : PW X (.BoolOp .Or (y :: ys) p) (tTOr X.K Φ Γ b r)) : PW X (.BoolOp .Or (x :: y :: ys) p) (tTOr X.K Φ Γ a (.cons b r)) := by
  refine PW.imp (pw_or ha hb) fun σ H Q q => ?_
  obtain ⟨B, F, ρ, env, μ, d, μ', S, he, q⟩ := q
  obtain ⟨⟨dx, μ1⟩, h1, h2⟩ := Option.bind_eq_some_iff.mp he
  refine RE.go S h1 fun v F1 H1 ρ1 e1 S1 r1 => ?_
  cases r1
  dsimp only at h2
  cases dx with
  | false =>
    rw [if_neg Bool.false_ne_true, evTOr] at h2
    exact iteF ⟨B, F1, ρ1, env, μ1, d, μ', S1, h2, fun w F2 H2 ρ2 e2 s2 c2 r2 => q w F2 H2 ρ2 (e1.trans e2) s2 c2 r2⟩
  | true =>
    rw [if_pos rfl] at h2; cases h2
    exact iteT (q _ F1 H1 ρ1 e1 S1.fh S1.cells rfl)
/-! ### walks -/
theorem s_seq {tg : Expr} (ha : PE X x (tE X.K Φ Γ a)) : PI X tg x (tI X.K Φ Γ (.seq a)) := by
  refine ⟨fun pins s σ H R I q => ?_⟩
  obtain ⟨B, F, ρ, env, μ, ds, μ', S, he, q⟩ := q
  rw [evI] at he
  obtain ⟨⟨dx, μ1⟩, h1, h2⟩ := Option.bind_eq_some_iff.mp he
  dsimp only at h2
  split at h2
  · cases h2
    refine (pi_tup ha).run pins s σ H R I (RE.go S h1 fun v F1 H1 ρ1 e1 S1 r1 => ?_)
    cases r1 with
    | tup r1 r2 => exact ⟨_, rfl, ⟨_, same_t S1.fh r1⟩, q _ F1 H1 ρ1 e1 S1.fh S1.cells (src_tup r1 r2)⟩
  · cases h2
    refine (pi_list ha).run pins s σ H R I (RE.go S h1 fun v F1 H1 ρ1 e1 S1 r1 => ?_)
    cases r1 with
    | lst r1 r2 => exact ⟨_, rfl, ⟨_, .inl (.inl (S1.fh _ _ r1))⟩, q _ F1 H1 ρ1 e1 S1.fh S1.cells (src_list (.inl (.inl r1)) r2)⟩
  · cases h2
    refine (pi_list ha).run pins s σ H R I (RE.go S h1 fun v F1 H1 ρ1 e1 S1 r1 => ?_)
    cases r1 with
    | scr r1 r2 => exact ⟨_, rfl, ⟨_, S1.fh.seq r1⟩, q _ F1 H1 ρ1 e1 S1.fh S1.cells (src_list r1 r2)⟩
  · obtain ⟨es, h5, h6⟩ := Option.map_eq_some_iff.mp h2
    cases h6
    obtain ⟨⟨b1, b2, b3, b4⟩, b5, e3⟩ := rngS_eq h5
    subst e3
    refine (pi_rg ha).run pins s σ H R I (RE.go S h1 fun v F1 H1 ρ1 e1 S1 r1 => ?_)
    cases r1 with
    | rg r1 => exact ⟨_, _, _, rfl, S1.fh _ _ r1, ⟨b1, b2, b3, b4⟩, q _ F1 H1 ρ1 e1 S1.fh S1.cells src_range⟩
  · cases h2
theorem s_rng1 {tg : Expr} {p2 : Pos} (G : CG C Φ Γ k X sc) (hg : gloB sc "range" = true) (ha : PE X x (tE X.K Φ Γ a)) (n1 : ∀ v p, x ≠ .Starred v p) : PI X tg (.Call (.Name "range" p2) [x] [] p) (tI X.K Φ Γ (.rng1 a)) := by
  refine PI.imp (pi_range1 (G.gl hg) (G.bi (by decide +kernel)) (pa_cons ha pa_nil (starEach_cons n1)) (starEach_cons n1)) fun σ H R q => ?_
  obtain ⟨B, F, ρ, env, μ, ds, μ', S, he, q⟩ := q
  rw [evI] at he
  obtain ⟨⟨dx, μ1⟩, h1, h2⟩ := Option.bind_eq_some_iff.mp he
  obtain ⟨j, h3, h4⟩ := Option.bind_eq_some_iff.mp h2
  obtain ⟨es, h5, h6⟩ := Option.map_eq_some_iff.mp h4
  cases h6
  refine RE.go S h1 fun v F1 H1 ρ1 e1 S1 r1 => ?_
  have e0 := asInt_eq h3
  subst e0
  cases r1
  obtain ⟨⟨b1, b2, b3, b4⟩, _, e2⟩ := rngS_eq h5
  subst e2
  rw [show j - 0 = j by omega] at *
  exact ⟨j, rfl, b3, b4, q _ F1 H1 ρ1 e1 S1.fh S1.cells src_range⟩
theorem s_rng2 {tg : Expr} {p2 : Pos} (G : CG C Φ Γ k X sc) (hg : gloB sc "range" = true) (ha : PE X x (tE X.K Φ Γ a)) (hb : PE X y (tE X.K Φ Γ b)) (n1 : ∀ v p, x ≠ .Starred v p) (n2 : ∀ v p, y ≠ .Starred v p) : PI X tg (.Call (.Name "range" p2) [x, y] [] p) (tI X.K Φ Γ (.rng2 a b)) := by
  refine PI.imp (pi_range2 (G.gl hg) (G.bi (by decide +kernel)) (pa_cons ha (pa_cons hb pa_nil (starEach_cons n2)) (starEach_cons n1)) (by rw [starEach_cons n1, starEach_cons n2]; rfl) (starEach_cons n2)) fun σ H R q => ?_
  obtain ⟨B, F, ρ, env, μ, ds, μ', S, he, q⟩ := q
  rw [evI] at he
  obtain ⟨⟨dx, μ1⟩, h1, h2⟩ := Option.bind_eq_some_iff.mp he
  obtain ⟨⟨dy, μ2⟩, h1', h2'⟩ := Option.bind_eq_some_iff.mp h2
  obtain ⟨i, h3, h4⟩ := Option.bind_eq_some_iff.mp h2'
  obtain ⟨j, h3', h4'⟩ := Option.bind_eq_some_iff.mp h4
  obtain ⟨es, h5, h6⟩ := Option.map_eq_some_iff.mp h4'
  cases h6
  refine RE.go S h1 fun v F1 H1 ρ1 e1 S1 r1 => RE.go S1 h1' fun w F2 H2 ρ2 e2 S2 r2 => ?_
  have e0 := asInt_eq h3
  subst e0
  have e0' := asInt_eq h3'
  subst e0'
  cases r1
  cases r2
  obtain ⟨b1, _, e3⟩ := rngS_eq h5
  subst e3
  exact ⟨i, j, rfl, b1, q _ F2 H2 ρ2 (e1.trans e2) S2.fh S2.cells src_range⟩
theorem s_zip {tg : Expr} {p2 : Pos} (G : CG C Φ Γ k X sc) (hg : gloB sc "zip" = true) (hk : isTup tg = true) (ha : PE X x (tE X.K Φ Γ a)) (hb : PE X y (tE X.K Φ Γ b)) (n1 : ∀ v p, x ≠ .Starred v p) (n2 : ∀ v p, y ≠ .Starred v p) : PI X tg (.Call (.Name "zip" p2) [x, y] [] p) (tI X.K Φ Γ (.zip a b)) := by
  cases tg with
  | Tuple elts kk tpos =>
    have hA := pi_zipA (tpos := tpos) (elts := elts) (kk := kk) (pos := p) (p := p2) (G.gl hg) (G.bi (by decide +kernel)) (pa_cons ha (pa_cons hb pa_nil (starEach_cons n2)) (starEach_cons n1)) (starEach_cons n1) (by rw [starEach_cons n2]; rfl)
    have hM := pi_zipM (tpos := tpos) (elts := elts) (kk := kk) (pos := p) (p := p2) (G.gl hg) (G.bi (by decide +kernel)) (pa_cons ha (pa_cons hb pa_nil (starEach_cons n2)) (starEach_cons n1)) (starEach_cons n1) (by rw [starEach_cons n2]; rfl)
    refine ⟨fun pins s σ H R I q => ?_⟩
    obtain ⟨B, F, ρ, env, μ, ds, μ', S, he, q⟩ := q
    rw [evI] at he
    obtain ⟨⟨dx, μ1⟩, h1, h2⟩ := Option.bind_eq_some_iff.mp he
    obtain ⟨⟨dy, μ2⟩, h1', h2'⟩ := Option.bind_eq_some_iff.mp h2
    dsimp only at h2'
    split at h2'
    · cases h2'
      refine hA.run pins s σ H R I (RE.go S h1 fun v F1 H1 ρ1 e1 S1 r1 => RE.go S1 h1' fun w F2 H2 ρ2 e2 S2 r2 => ?_)
      cases r1 with
      | tup u1 u2 =>
        cases r2 with
        | tup w1 w2 =>
          have v1 := same_t e2.ff u1
          exact ⟨_, _, _, _, rfl, .inr ⟨same_t S2.fh v1, same_t S2.fh w1, q _ F2 H2 ρ2 (e1.trans e2) S2.fh S2.cells (src_zipT v1 w1 (u2.ext e2) w2)⟩⟩
    · cases h2'
      refine hA.run pins s σ H R I (RE.go S h1 fun v F1 H1 ρ1 e1 S1 r1 => RE.go S1 h1' fun w F2 H2 ρ2 e2 S2 r2 => ?_)
      cases r1 with
      | lst u1 u2 =>
        cases r2 with
        | lst w1 w2 =>
          have v1 := e2.ff _ _ u1
          exact ⟨_, _, _, _, rfl, .inl ⟨.inl (.inl (S2.fh _ _ v1)), .inl (.inl (S2.fh _ _ w1)), q _ F2 H2 ρ2 (e1.trans e2) S2.fh S2.cells (src_zipL (.inl (.inl v1)) (.inl (.inl w1)) (u2.ext e2) w2)⟩⟩
    · cases h2'
      refine hM.run pins s σ H R I (RE.go S h1 fun v F1 H1 ρ1 e1 S1 r1 => RE.go S1 h1' fun w F2 H2 ρ2 e2 S2 r2 => ?_)
      cases r1 with
      | tup u1 u2 =>
        cases r2 with
        | lst w1 w2 =>
          have v1 := same_t e2.ff u1
          exact ⟨_, _, _, _, rfl, same_t S2.fh v1, .inl (.inl (S2.fh _ _ w1)), q _ F2 H2 ρ2 (e1.trans e2) S2.fh S2.cells (src_zipM v1 (.inl (.inl w1)) (u2.ext e2) w2)⟩
    · cases h2'
  | _ => cases hk
theorem s_enum {tg : Expr} {p2 : Pos} (G : CG C Φ Γ k X sc) (hg : gloB sc "enumerate" = true) (hk : isTup tg = true) (ha : PE X x (tE X.K Φ Γ a)) (n1 : ∀ v p, x ≠ .Starred v p) : PI X tg (.Call (.Name "enumerate" p2) [x] [] p) (tI X.K Φ Γ (.enum a)) := by
  cases tg with
  | Tuple elts kk tpos =>
    refine PI.imp (pi_enumT (G.gl hg) (G.bi (by decide +kernel)) (pa_cons ha pa_nil (starEach_cons n1)) (starEach_cons n1)) fun σ H R q => ?_
    obtain ⟨B, F, ρ, env, μ, ds, μ', S, he, q⟩ := q
    rw [evI] at he
    obtain ⟨⟨dx, μ1⟩, h1, h2⟩ := Option.bind_eq_some_iff.mp he
    refine RE.go S h1 fun v F1 H1 ρ1 e1 S1 r1 => ?_
    dsimp only at h2
    split at h2
    · cases h2
      cases r1 with
      | lst u1 u2 => exact ⟨_, _, rfl, .inl ⟨.inl (.inl (S1.fh _ _ u1)), q _ F1 H1 ρ1 e1 S1.fh S1.cells (src_enum (.inl (.inl u1)) u2)⟩⟩
    · cases h2
      cases r1 with
      | tup u1 u2 => exact ⟨_, _, rfl, .inr ⟨same_t S1.fh u1, q _ F1 H1 ρ1 e1 S1.fh S1.cells (src_enumT u1 u2)⟩⟩
    · cases h2
  | _ => cases hk
theorem s_rngD {tg : Expr} {n1 n2 : Nat} {p2 p3 p4 p5 p6 : Pos} (G : CG C Φ Γ k X sc) (hg : gloB sc "range" = true) (ha : PE X x (tE X.K Φ Γ a)) (n1' : ∀ v p, x ≠ .Starred v p) : PI X tg (.Call (.Name "range" p2) [x, .UnaryOp .USub (.Constant (.int 1) n1 p3) p4, .UnaryOp .USub (.Constant (.int 1) n2 p5) p6] [] p) (tI X.K Φ Γ (.rngD a)) := by
  have hm : ∀ (n : Nat) (q1 q2 : Pos), PE X (.UnaryOp .USub (.Constant (.int 1) n q1) q2) (tE X.K Φ Γ (.neg (.int 1))) := fun n q1 q2 => s_neg s_int
  refine PI.imp (pi_range3 (G.gl hg) (G.bi (by decide +kernel)) (pa_cons ha (pa_cons (hm n1 p3 p4) (pa_cons (hm n2 p5 p6) pa_nil rfl) rfl) (starEach_cons n1')) (starEach_cons n1') rfl) fun σ H R q => ?_
  obtain ⟨B, F, ρ, env, μ, ds, μ', S, he, q⟩ := q
  rw [evI] at he
  obtain ⟨⟨dx, μ1⟩, h1, h2⟩ := Option.bind_eq_some_iff.mp he
  obtain ⟨j, h3, h4⟩ := Option.bind_eq_some_iff.mp h2
  obtain ⟨es, h5, h6⟩ := Option.map_eq_some_iff.mp h4
  cases h6
  have hv : ∀ μ, ev Φ Γ (.neg (.int 1)) env μ = some (.int (-1), μ) := fun μ => by rw [ev, ev]; rfl
  refine RE.go S h1 fun v F1 H1 ρ1 e1 S1 r1 => RE.go S1 (hv _) fun w F2 H2 ρ2 e2 S2 r2 => RE.go S2 (hv _) fun w3 F3 H3 ρ3 e3 S3 r3 => ?_
  have e0 := asInt_eq h3
  subst e0
  cases r1
  cases r2
  cases r3
  unfold rngDS at h5
  split at h5
  case isFalse => cases h5
  rename_i hb
  cases h5
  simp only [Bool.and_eq_true, decide_eq_true_eq] at hb
  exact ⟨j, -1, -1, (j - -1).toNat, rfl, RgC.neg (by omega) (by omega) (by omega) (by omega), q _ F3 H3 ρ3 ((e1.trans e2).trans e3) S3.fh S3.cells src_rngD⟩
end
end Py
end
section
set_option Elab.async false
set_option linter.all false
set_option maxRecDepth 100000
namespace Py
open PySem L2 RZ
section
variable {K : PySem.W.Frag} {B F H F' H' : Hp} {ρ ρ' : List Addr} {μ : Store} {p : Addr} {o : HO}
theorem write_ok (e : Ext F H ρ F' H' ρ') (fh : Same F' H') (c : Cells K F' H' ρ' μ) (hH : H p = none) (hF : F' p = none) (hρ : p ∉ ρ') : Ext F H ρ F' (upd H' p o) ρ' ∧ Same F' (upd H' p o) ∧ Cells K F' (upd H' p o) ρ' μ := by
  refine ⟨⟨e.ff, fun a u h n => ?_, fun a h => ?_, e.new, e.rr, e.rn⟩, fun a u h => ?_, ⟨c.len, c.nd, fun i a ds h1 h2 => ?_⟩⟩
  · rw [upd_ne (ne_of_none h hH)]; exact e.hh a u h n
  · by_cases q : a = p
    · subst q; exact absurd hH h
    · rw [upd_ne q]; exact e.dm a h
  · rw [upd_ne (ne_of_none h hF)]; exact fh a u h
  · obtain ⟨z1, ys, z2, z3⟩ := c.at_ i a ds h1 h2
    refine ⟨z1, ys, ?_, z3⟩
    rw [upd_ne (fun z => hρ (by rw [← z]; exact List.mem_of_getElem? h1))]
    exact z2
theorem frz_ok (e : Ext F H ρ F' H' ρ') (fh : Same F' H') (c : Cells K F' H' ρ' μ) (hH : H p = none) (h' : H' p = some o) (hF : F' p = none) (hρ : p ∉ ρ') : Ext F H ρ (upd F' p o) H' ρ' ∧ Same (upd F' p o) H' ∧ Cells K (upd F' p o) H' ρ' μ := by
  refine ⟨⟨e.ff.trans (same_upd' hF), e.hh, e.dm, fun a h1 h2 => ?_, e.rr, e.rn⟩, fun a u h => ?_, ⟨c.len, c.nd, fun i a ds h1 h2 => ?_⟩⟩
  · by_cases q : a = p
    · subst q; exact hH
    · rw [upd_ne q] at h2; exact e.new a h1 h2
  · by_cases q : a = p
    · subst q; rw [upd_same] at h; rw [h']; exact h
    · rw [upd_ne q] at h; exact fh a u h
  · obtain ⟨z1, ys, z2, z3⟩ := c.at_ i a ds h1 h2
    refine ⟨?_, ys, z2, DrL.mono (same_upd' hF) (fun _ _ h => h) _ _ z3⟩
    rw [upd_ne (fun z => hρ (by rw [← z]; exact List.mem_of_getElem? h1))]
    exact z1
end
/-- a new list, not yet frozen -/
def tN (K : PySem.W.Frag) (f : Env → Store → Option (List D × Store)) : TE := fun σ H Q => ∃ B F ρ env μ ds μ', SR K B F H ρ σ env μ ∧ f env μ = some (ds, μ') ∧
  ∀ p F' H' ρ' xs, Ext F H ρ F' H' ρ' → Same F' H' → Cells K F' H' ρ' μ' → H' p = some (.lst xs) → H p = none → F' p = none → p ∉ ρ' → DrL K F' ρ' xs ds → Q (.ref p) H'
def lcF (Φ : FnS) (Γ : GlS) (a : E) (t : T) (it : I) (c : Eo) (vs : List Nat) : Env → Store → Option (List D × Store) := fun env μ => (evI Φ Γ it env μ).bind fun (ds, μ1) => if ds.length ≤ SZ then lcS t (fun env' μ' => evc Φ Γ c env' μ') (fun env' μ' => ev Φ Γ a env' μ') (wipeE env vs) ds μ1 else none
theorem tN_freeze {K : PySem.W.Frag} {f : Env → Store → Option (List D × Store)} {g : Env → Store → Option (D × Store)} (hg : ∀ env μ r, g env μ = some r → ∃ ds, r.1 = .lst ds ∧ f env μ = some (ds, r.2)) : ∀ σ H Q, RE (fun F ρ v d => Dr K F ρ v d) K g σ H Q → tN K f σ H Q := by
  intro σ H Q q
  obtain ⟨B, F, ρ, env, μ, d, μ', S, h0, q⟩ := q
  obtain ⟨ds, h1, h2⟩ := hg env μ _ h0
  dsimp only at h1 h2
  subst h1
  refine ⟨B, F, ρ, env, μ, ds, μ', S, h2, fun p F' H' ρ' xs e s c h3 h4 h5 h6 r => ?_⟩
  obtain ⟨w1, w2, w3⟩ := frz_ok e s c h4 h3 h5 h6
  exact q _ _ H' ρ' w1 w2 w3 (.lst upd_same (DrL.mono (same_upd' h5) (fun _ _ h => h) _ _ r))
section
variable {C : MC} {Φ : FnS} {Γ : GlS} {k : Nat} {X : Cx} {sc : Scope}
theorem s_lc {a : E} {t : T} {it : I} {c : Eo} {vs : List Nat} {x tg iter : Expr} {ifs : List Expr} {scope : Scope} {p : Pos} (G : CG C Φ Γ k X sc) (hb : blkC C.N sc scope (vs.map fun i => (C.N.getD i "", i)) = true) (hsub : ∀ j ∈ tgS t, j ∈ vs)
    (hset : ∀ x, foldedSetIterable iter X.env x = pure x) (hi : PI X tg iter (tI X.K Φ Γ it))
    (hg : ∀ (s : Shared) (H : Hp) (Cc : Addr) (cl : List (Str × Addr)) (fp : List Addr), PG (X.blk s H scope (compEnvC scope cl Cc X.env) fp) tg (gT X.K t))
    (ht : ∀ (s : Shared) (H : Hp) (Cc : Addr) (cl : List (Str × Addr)) (fp : List Addr), PTs (X.blk s H scope (compEnvC scope cl Cc X.env) fp) ifs (tC X.K Φ Γ c))
    (he : ∀ (s : Shared) (H : Hp) (Cc : Addr) (cl : List (Str × Addr)) (fp : List Addr), PE (X.blk s H scope (compEnvC scope cl Cc X.env) fp) x (tE X.K Φ Γ a)) :
    (PE X (.ListComp x [⟨tg, iter, ifs, 0⟩] scope p) (tE X.K Φ Γ (.lc a t it c vs)) ∧ PE X (.ListComp x [⟨tg, iter, ifs, 0⟩] scope p) (tN X.K (lcF Φ Γ a t it c vs))) ∧ (∀ σ H Q, tE X.K Φ Γ (.lc a t it c vs) σ H Q → tN X.K (lcF Φ Γ a t it c vs) σ H Q) ∧
      ∀ σ H Q, tN X.K (lcF Φ Γ a t it c vs) σ H Q → tLc (tI X.K Φ Γ it) (gT X.K t) (tC X.K Φ Γ c) (tE X.K Φ Γ a) ((vs.map fun i => (C.N.getD i "", i)).map (·.2)) σ H Q := by
  have fz : ∀ σ H Q, tE X.K Φ Γ (.lc a t it c vs) σ H Q → tN X.K (lcF Φ Γ a t it c vs) σ H Q := by
    refine tN_freeze fun env μ r hr => ?_
    rw [ev] at hr
    obtain ⟨⟨ds, μ1⟩, h1, h2⟩ := Option.bind_eq_some_iff.mp hr
    dsimp only at h2
    split at h2
    case isFalse => cases h2
    rename_i hz
    obtain ⟨⟨xs, μe⟩, h3, h4⟩ := Option.map_eq_some_iff.mp h2
    cases h4
    refine ⟨xs, rfl, ?_⟩
    unfold lcF
    rw [h1]
    dsimp only [Option.bind_some]
    rw [if_pos hz]
    exact h3
  have key : ∀ σ H Q, tN X.K (lcF Φ Γ a t it c vs) σ H Q → tLc (tI X.K Φ Γ it) (gT X.K t) (tC X.K Φ Γ c) (tE X.K Φ Γ a) ((vs.map fun i => (C.N.getD i "", i)).map (·.2)) σ H Q := by
    intro σ H Q q
    have evs_eq : (vs.map fun i => (C.N.getD i "", i)).map (·.2) = vs := by
      rw [List.map_map]
      exact List.map_id _
    rw [evs_eq]
    obtain ⟨B, F, ρ, env, μ, xs, μe, S, h0, q⟩ := q
    unfold lcF at h0
    obtain ⟨⟨ds, μ1⟩, h1, h2⟩ := Option.bind_eq_some_iff.mp h0
    dsimp only at h2
    split at h2
    case isFalse => cases h2
    rename_i hz
    have h3 := h2
    refine RE.go S h1 fun J F1 H1 ρ1 e1 S1 r1 D0 hD => ?_
    obtain ⟨G', Y, W, hG, hY⟩ := r1
    have fD : F1 D0 = none := S1.fh.free hD
    have nD : D0 ∉ ρ1 := fun z => by
      obtain ⟨i, hi, e⟩ := List.getElem_of_mem z
      have hi' := hi
      rw [S1.cells.len] at hi'
      obtain ⟨_, ys, z2, _⟩ := S1.cells.at_ i D0 _ (by rw [List.getElem?_eq_getElem hi, e]) (List.getElem?_eq_getElem hi')
      rw [hD] at z2; cases z2
    have w0 := write_ok (o := .lst []) (Ext.refl (F := F1) (H := H1) (ρ := ρ1)) S1.fh S1.cells hD fD nD
    refine lc_it W (fun i H2 => ∃ F2 ρ2 μ2 acc accd rest, Ext F1 H1 ρ1 F2 H2 ρ2 ∧ Same F2 H2 ∧ Cells X.K F2 H2 ρ2 μ2 ∧ H2 D0 = some (.lst acc) ∧ F2 D0 = none ∧ D0 ∉ ρ2 ∧ DrL X.K F2 ρ2 acc accd ∧ acc.length ≤ i ∧
      lcS t (fun env' μ' => evc Φ Γ c env' μ') (fun env' μ' => ev Φ Γ a env' μ') (wipeE env vs) (ds.drop i) μ2 = some (rest, μe) ∧ accd ++ rest = xs) ?_ ?_ ?_ ?_
    · exact ⟨F1, ρ1, μ1, [], [], xs, w0.1, w0.2.1, w0.2.2, upd_same, fD, nD, .nil, Nat.le_refl _, h3, rfl⟩
    · rintro i H2 _ ⟨F2, ρ2, μ2, acc, accd, rest, e2, s2, _⟩
      exact hG F2 H2 e2.ff s2
    · rintro i y H2 H2' hi ⟨F2, ρ2, μ2, acc, accd, rest, e2, s2, c2, d2, f2, n2, r2, l2, q2, q3⟩ hy
      obtain ⟨F3, dx, P, g1, g2⟩ := hY i y H2 H2' F2 hi e2.ff s2 hy
      have hdrop : ds.drop i = dx :: ds.drop (i + 1) := by
        have hlt : i < ds.length := hi
        rw [List.drop_eq_getElem_cons hlt]
        rw [List.getElem?_eq_getElem hlt] at g1
        cases g1
        rfl
      rw [hdrop, lcS] at q2
      obtain ⟨env', u1, u2⟩ := Option.bind_eq_some_iff.mp q2
      obtain ⟨⟨b, μ3⟩, u3, u4⟩ := Option.bind_eq_some_iff.mp u2
      have S2 : SR X.K B F2 H2 ρ2 σ env μ2 := S1.step e2 s2 c2
      have S3 := (S2.px P).wipe vs
      have dD : H2' D0 = some (.lst acc) := P.hh _ _ d2
      have f3 : F3 D0 = none := by
        by_cases z : F3 D0 = none
        · exact z
        · have := P.new D0 f2 z
          rw [d2] at this; cases this
      refine ⟨B, F3, ρ2, wipeE env vs, μ2, dx, env', S3, g2 ρ2 e2.rr, u1, fun σ2 S4 hl hj => ⟨?_, ?_⟩⟩
      · rw [wipe_same hl fun j hj' => hj j fun z => hj' (hsub j z), wipe_idem]
      · refine RE.go S4 u3 fun b' F4 H4 ρ4 e4 S5 r => ?_
        cases r
        have d4 : H4 D0 = some (.lst acc) := e4.hh _ _ dD n2
        have f4 : F4 D0 = none := by
          by_cases z : F4 D0 = none
          · exact z
          · have := e4.new D0 f3 z
            rw [dD] at this; cases this
        have n4 : D0 ∉ ρ4 := fun z => (e4.rn D0 z).elim n2 fun z => by rw [dD] at z; cases z
        dsimp only at u4
        cases b with
        | true =>
          rw [if_pos rfl] at u4
          obtain ⟨⟨dy, μ4⟩, u5, u6⟩ := Option.bind_eq_some_iff.mp u4
          obtain ⟨⟨rest', μ5⟩, u7, u8⟩ := Option.map_eq_some_iff.mp u6
          cases u8
          refine iteT (RE.go S5 u5 fun w F5 H5 ρ5 e5 S6 r5 => ?_)
          have d5 : H5 D0 = some (.lst acc) := e5.hh _ _ d4 n4
          have f5 : F5 D0 = none := by
            by_cases z : F5 D0 = none
            · exact z
            · have := e5.new D0 f4 z
              rw [d4] at this; cases this
          have n5 : D0 ∉ ρ5 := fun z => (e5.rn D0 z).elim n4 fun z => by rw [d4] at z; cases z
          have hsz : acc.length < sizeLine := by rw [sz]; omega
          have eA := ((e2.trans P.ext).trans e4).trans e5
          obtain ⟨w1, w2, w3⟩ := write_ok (o := .lst (acc ++ [w])) eA S6.fh S6.cells hD f5 n5
          refine ⟨acc, d5, hsz, F5, ρ5, μ4, acc ++ [w], accd ++ [dy], rest', w1, w2, w3, upd_same, f5, n5, ((((r2.ext P.ext).ext e4).ext e5).append (.cons r5 .nil)), by simp; omega, u7, ?_⟩
          rw [List.append_assoc]
          exact q3
        | false =>
          rw [if_neg Bool.false_ne_true] at u4
          exact iteF ⟨F4, ρ4, μ3, acc, accd, rest, (e2.trans P.ext).trans e4, S5.fh, S5.cells, d4, f4, n4, (r2.ext P.ext).ext e4, by omega, u4, q3⟩
    · rintro H2 ⟨F2, ρ2, μ2, acc, accd, rest, e2, s2, c2, d2, f2, n2, r2, l2, q2, q3⟩
      rw [List.drop_length, lcS] at q2
      cases q2
      rw [List.append_nil] at q3
      subst q3
      have hn : H D0 = none := by
        by_cases z : H D0 = none
        · exact z
        · exact absurd hD (e1.dm D0 z)
      exact q D0 F2 H2 ρ2 acc (e1.trans e2) s2 c2 d2 hn f2 n2 r2
  have pn := PE.imp (pe_lc (pos := p) G.calm G.nd hi (G.blkOk hb) hg ht he hset) key
  exact ⟨⟨PE.imp pn fz, pn⟩, fz, key⟩
/-! ### an own list lent -/
theorem flat_dr {K : PySem.W.Frag} {F F' : Hp} {ρ ρ' : List Addr} {v : V} {d : D} (h : Dr K F ρ v d) (f : flat d = true) : Dr K F' ρ' v d := by
  cases h <;> first | exact .non | exact .bl _ | exact .int _ | exact .str _ | cases f
theorem flat_drL {K : PySem.W.Frag} {F F' : Hp} {ρ ρ' : List Addr} : ∀ {v : List V} {d : List D}, DrL K F ρ v d → d.all flat = true → DrL K F' ρ' v d
  | _, _, .nil, _ => .nil
  | _, _, .cons a b, f => by
    rw [List.all_cons, Bool.and_eq_true] at f
    exact .cons (flat_dr a f.1) (flat_drL b f.2)
theorem scalS_at : ∀ {μ : Store} {i : Nat} {ds : List D}, scalS μ = true → μ[i]? = some ds → ds.all flat = true
  | [], _, _, _, h => by simp at h
  | es :: r, 0, _, h, e => by
    rw [scalS, Bool.and_eq_true] at h
    simp at e; subst e; exact h.1
  | es :: r, i + 1, _, h, e => by
    rw [scalS, Bool.and_eq_true] at h
    exact scalS_at h.2 (by simpa using e)
theorem sqt_keep {K : PySem.W.Frag} {F F' : Hp} {b : Addr} {xs : List V} (k : ∀ c o, F c = some o → (∀ ys, o ≠ .lst ys) → F' c = some o) (h : SqT K F b xs) : SqT K F' b xs := by
  rcases h with (h | ⟨o, h⟩) | h
  · exact .inl (.inl (k _ _ h (fun ys z => by cases z)))
  · exact .inl (.inr ⟨o, k _ _ h (fun ys z => by cases z)⟩)
  · exact .inr h
section
variable {K : PySem.W.Frag} {F F' : Hp} {ρ ρ' : List Addr}
mutual
theorem noL_dr (k : ∀ c o, F c = some o → (∀ ys, o ≠ .lst ys) → F' c = some o) : ∀ (d : D) (v : V), Dr K F ρ v d → noL d = true → Dr K F' ρ' v d
  | .non, _, h, _ => by cases h; exact .non
  | .bl _, _, h, _ => by cases h; exact .bl _
  | .int _, _, h, _ => by cases h; exact .int _
  | .str _, _, h, _ => by cases h; exact .str _
  | .tup ds, _, h, e => by
    cases h with
    | tup a b => exact .tup (sqt_keep k a) (noL_drs k ds _ b (by rw [noL] at e; exact e))
  | .lst _, _, _, e => by rw [noL] at e; cases e
  | .scr _, _, _, e => by rw [noL] at e; cases e
  | .mr _, _, _, e => by rw [noL] at e; cases e
  | .rg _ _, _, _, e => by rw [noL] at e; cases e
theorem noL_drs (k : ∀ c o, F c = some o → (∀ ys, o ≠ .lst ys) → F' c = some o) : ∀ (ds : List D) (vs : List V), DrL K F ρ vs ds → noLs ds = true → DrL K F' ρ' vs ds
  | [], _, h, _ => by cases h; exact .nil
  | d :: ds, _, h, e => by
    rw [noLs, Bool.and_eq_true] at e
    cases h with
    | cons a b => exact .cons (noL_dr k d _ a e.1) (noL_drs k ds _ b e.2)
end
end
theorem lend {K : PySem.W.Frag} {B F H : Hp} {ρ : List Addr} {σ : L2.St} {env : Env} {μ : Store} {i : Nat} {ds : List D} (S : SR K B F H ρ σ env μ) (h : getO env i = some ds) :
    ∃ F1, SR K B F1 H ρ σ (env.set i (some (.val (.lst ds)))) μ ∧ ∀ F' H' ρ' μ', Ext F1 H ρ F' H' ρ' → Same F' H' → Cells K F' H' ρ' μ' → scalS μ' = true → ∃ F2, (∀ c o, F' c = some o → (∀ ys, o ≠ .lst ys) → F2 c = some o) ∧ Ext F H ρ F2 H' ρ' ∧ Same F2 H' ∧ Cells K F2 H' ρ' μ' := by
  have he := getO_eq h
  obtain ⟨v, h1, a, xs, rfl, h2, h3, h4, h5, h6⟩ := S.env.at_ _ _ he
  have hi : i < env.length := (List.getElem?_eq_some_iff.mp he).1
  have hz : ∀ a', F a' = none → upd F a (.lst xs) a' ≠ none → a' = a := fun a' h7 h8 => by
    by_cases q : a' = a
    · exact q
    · rw [upd_ne q] at h8; exact absurd h7 h8
  refine ⟨upd F a (.lst xs), ⟨fun b o e => ?_, ⟨S.cells.len, S.cells.nd, fun j b es g1 g2 => ?_⟩, ⟨by rw [List.length_set]; exact S.env.len, fun j sv g => ?_, fun j l es fs b g1 g2 g3 g4 => ?_, fun j l es fs b g1 g2 g3 g4 => ?_⟩⟩, ?_⟩
  · by_cases q : b = a
    · subst q; rw [upd_same] at e; rw [h2]; exact e
    · rw [upd_ne q] at e; exact S.fh b o e
  · obtain ⟨z1, ys, z2, z3⟩ := S.cells.at_ j b es g1 g2
    refine ⟨?_, ys, z2, DrL.mono (same_upd' h4) (fun _ _ h => h) _ _ z3⟩
    rw [upd_ne (fun z => h5 (by rw [← z]; exact List.mem_of_getElem? g1))]
    exact z1
  · by_cases q : i = j
    · subst q
      rw [List.getElem?_set_self hi] at g
      cases g
      exact ⟨_, h1, .lst upd_same (DrL.mono (same_upd' h4) (fun _ _ h => h) _ _ h3)⟩
    · rw [List.getElem?_set_ne q] at g
      obtain ⟨w, w1, w2⟩ := S.env.at_ j sv g
      refine ⟨w, w1, ?_⟩
      cases sv with
      | val d => exact Dr.mono (same_upd' h4) (fun _ _ h => h) _ _ w2
      | own es =>
        obtain ⟨b, ys, rfl, k2, k3, k4, k5, k6⟩ := w2
        have nb : b ≠ a := fun z => q (S.env.apart i j ds es a he g h1 (by rw [← z]; exact w1))
        exact ⟨b, ys, rfl, k2, DrL.mono (same_upd' h4) (fun _ _ h => h) _ _ k3, by rw [upd_ne nb]; exact k4, k5, k6⟩
      | dct es =>
        obtain ⟨b, nes, P, w, rfl, k2, k3, k4, k5, k6⟩ := w2
        have nb : b ≠ a := fun z => by rw [z, h2] at k2; cases k2
        exact ⟨b, nes, P, w, rfl, k2, KD.mono (same_upd' h4) (fun _ _ h => h) k3, by rw [upd_ne nb]; exact k4, k5, k6⟩
  · have own_ne : ∀ {j : Nat} {es : List D}, (env.set i (some (.val (.lst ds))))[j]? = some (some (.own es)) → i ≠ j := fun {j es} h q => by
      subst q
      rw [List.getElem?_set_self hi] at h; cases h
    rw [List.getElem?_set_ne (own_ne g1)] at g1
    rw [List.getElem?_set_ne (own_ne g2)] at g2
    exact S.env.apart j l es fs b g1 g2 g3 g4
  · have own_ne : ∀ {j : Nat} {es : List (NestedKey × D)}, (env.set i (some (.val (.lst ds))))[j]? = some (some (.dct es)) → i ≠ j := fun {j es} h q => by
      subst q
      rw [List.getElem?_set_self hi] at h; cases h
    rw [List.getElem?_set_ne (own_ne g1)] at g1
    rw [List.getElem?_set_ne (own_ne g2)] at g2
    exact S.env.apd j l es fs b g1 g2 g3 g4
  · intro F' H' ρ' μ' e s c hs
    have na : ∀ b, b ∈ ρ' → b ≠ a := fun b hb z => by
      subst z
      rcases e.rn b hb with z | z
      · exact h5 z
      · rw [h2] at z; cases z
    refine ⟨fun b => if b = a then none else F' b, fun b o g1 g2 => ?_, ⟨fun b o g => ?_, e.hh, e.dm, fun b g1 g2 => ?_, e.rr, e.rn⟩, fun b o g => ?_, ⟨c.len, c.nd, fun j b es g1 g2 => ?_⟩⟩
    · have nb : b ≠ a := fun z => by
        subst z
        have := e.ff b (.lst xs) upd_same
        rw [this] at g1
        cases g1
        exact g2 xs rfl
      dsimp only
      rw [if_neg nb]
      exact g1
    · have nb : b ≠ a := ne_of_none g h4
      rw [if_neg nb]
      exact e.ff b o (by rw [upd_ne nb]; exact g)
    · by_cases q : b = a
      · rw [if_pos q] at g2; exact absurd rfl g2
      · rw [if_neg q] at g2
        exact e.new b (by rw [upd_ne q]; exact g1) g2
    · dsimp only at g
      by_cases q : b = a
      · rw [if_pos q] at g; cases g
      · rw [if_neg q] at g; exact s b o g
    · obtain ⟨z1, ys, z2, z3⟩ := c.at_ j b es g1 g2
      refine ⟨?_, ys, z2, flat_drL z3 (scalS_at hs g2)⟩
      rw [if_neg (na b (List.mem_of_getElem? g1))]
      exact z1
theorem s_bor {i : Nat} {a : E} {x : Expr} (ha : PE X x (tE X.K Φ Γ a)) : PE X x (tE X.K Φ Γ (.bor i a)) := by
  refine PE.imp ha fun σ H Q q => ?_
  obtain ⟨B, F, ρ, env, μ, d, μ', S, he, q⟩ := q
  rw [ev] at he
  obtain ⟨ds, h1, h2⟩ := Option.bind_eq_some_iff.mp he
  obtain ⟨⟨d', μ1⟩, h3, h4⟩ := Option.bind_eq_some_iff.mp h2
  dsimp only at h4
  split at h4
  case isFalse => cases h4
  rename_i hf
  cases h4
  rw [Bool.and_eq_true] at hf
  obtain ⟨F1, S1, k1⟩ := lend S h1
  refine ⟨B, F1, ρ, _, μ, _, _, S1, h3, fun v F' H' ρ' e s c r => ?_⟩
  obtain ⟨F2, w0, w1, w2, w3⟩ := k1 F' H' ρ' _ e s c hf.2
  exact q v F2 H' ρ' w1 w2 w3 (noL_dr w0 _ _ r hf.1)
theorem sT_bor {i : Nat} {a : E} {x : Expr} (ha : PT X x (tT X.K Φ Γ a)) : PT X x (tT X.K Φ Γ (.bor i a)) := by
  refine PT.imp ha fun σ H Q q => ?_
  obtain ⟨B, F, ρ, env, μ, d, μ', S, he, q⟩ := q
  rw [evT] at he
  obtain ⟨ds, h1, h2⟩ := Option.bind_eq_some_iff.mp he
  obtain ⟨⟨d', μ1⟩, h3, h4⟩ := Option.bind_eq_some_iff.mp h2
  dsimp only at h4
  split at h4
  case isFalse => cases h4
  rename_i hf
  cases h4
  obtain ⟨F1, S1, k1⟩ := lend S h1
  refine ⟨B, F1, ρ, _, μ, _, _, S1, h3, fun v F' H' ρ' e s c r => ?_⟩
  obtain ⟨F2, _, w1, w2, w3⟩ := k1 F' H' ρ' _ e s c hf
  exact q v F2 H' ρ' w1 w2 w3 r
end
end Py
end
section
set_option Elab.async false
set_option linter.all false
set_option maxRecDepth 100000
set_option maxHeartbeats 4000000
namespace Py
open PySem L2 RZ
theorem mE_noset {C : MC} {sc : Scope} : ∀ {m : E} {e : Expr}, mE C sc m e = true → ∀ l n p, e ≠ .Set l n p := by
  intro m
  induction m using E.rec (motive_2 := fun _ => True) (motive_3 := fun _ => True) (motive_4 := fun _ => True) with
  | bor i e ih => intro x h; rw [mE] at h; exact ih h
  | nil => trivial
  | cons => trivial
  | none => trivial
  | some => trivial
  | seq => trivial
  | rng1 => trivial
  | rng2 => trivial
  | zip => trivial
  | enum => trivial
  | rngD => trivial
  | _ =>
    intro x h v n p z
    subst z
    rw [mE] at h <;> first | cases h | (intros; contradiction)
theorem marks_of {e : Expr} {op : CmpOp} (h : ∀ l n p, e ≠ .Set l n p) : behindInMarks op e = false := by
  cases e <;> first | rfl | exact absurd rfl (h _ _ _)
theorem folded_of {e : Expr} {env : PySem.Env} (h : ∀ l n p, e ≠ .Set l n p) : ∀ x, foldedSetIterable e env x = pure x := by
  cases e <;> first | exact fun _ => rfl | exact absurd rfl (h _ _ _)
theorem mI_noset {C : MC} {sc : Scope} {it : I} {e : Expr} {k : Bool} (h : mI C sc it e k = true) : ∀ l n p, e ≠ .Set l n p := by
  cases it with
  | seq a => exact mE_noset (mI_seq h)
  | rng1 a => obtain ⟨_, _, _, _, rfl, _⟩ := mI_rng1 h; exact fun _ _ _ z => nomatch z
  | rng2 a b => obtain ⟨_, _, _, _, _, rfl, _⟩ := mI_rng2 h; exact fun _ _ _ z => nomatch z
  | rngD a => obtain ⟨_, _, _, _, _, _, _, _, _, _, rfl, _⟩ := mI_rngD h; exact fun _ _ _ z => nomatch z
  | zip a b => obtain ⟨_, _, _, _, _, rfl, _⟩ := mI_zip h; exact fun _ _ _ z => nomatch z
  | enum a => obtain ⟨_, _, _, _, rfl, _⟩ := mI_enum h; exact fun _ _ _ z => nomatch z
theorem blk_kind {N : List Str} {sc scope : Scope} {own : List (Str × Nat)} (h : blkC N sc scope own = true) : scope.kind = .function := (blkOk_by h).kind
section
variable {C : MC} {Φ : FnS} {Γ : GlS} {k : Nat}
theorem sT_none {X : Cx} {m : E} {e : Expr} (h : ∀ env μ, evT Φ Γ m env μ = none) : PT X e (tT X.K Φ Γ m) := ⟨fun pins s σ H Q I q => by
  obtain ⟨B, F, ρ, env, μ, d, μ', S, he, q⟩ := q
  rw [h] at he; cases he⟩
theorem bool_of_map {α : Type} {f : α → Bool → Bool} {x : Option (D × Store)} {g : D → Option Bool} {r : Bool × Store} (h : (x.bind fun p => (g p.1).map fun k => (k, p.2)) = some r) : ∃ d, x = some (d, r.2) ∧ g d = some r.1 := by
  obtain ⟨⟨d, μ⟩, h1, h2⟩ := Option.bind_eq_some_iff.mp h
  obtain ⟨b, h3, h4⟩ := Option.map_eq_some_iff.mp h2
  cases h4
  exact ⟨d, h1, h3⟩
theorem pa_two {Φ : FnS} {Γ : GlS} {X : Cx} {m : E} {ms : Es} {y : Expr} {ys : List Expr} (h1 : PE X y (tE X.K Φ Γ m)) (n : ∀ v p, y ≠ .Starred v p) (h2 : PA X ys (tEs X.K Φ Γ ms)) : PA X (y :: ys) (tEs X.K Φ Γ (.cons m ms)) := by
  refine PA.imp (pa_cons h1 h2 (starEach_cons n)) fun σ H Q q => ?_
  obtain ⟨B, F, ρ, env, μ, d, μ', S, he, q⟩ := q
  rw [evs] at he
  obtain ⟨⟨dx, μ1⟩, h1, h2⟩ := Option.bind_eq_some_iff.mp he
  obtain ⟨⟨dl, μ2⟩, h3, h4⟩ := Option.map_eq_some_iff.mp h2
  cases h4
  exact RE.go S h1 fun v F1 H1 ρ1 e1 S1 r1 => RE.go S1 h3 fun w F2 H2 ρ2 e2 S2 r2 => q _ F2 H2 ρ2 (e1.trans e2) S2.fh S2.cells (.cons (r1.ext e2) r2)
theorem pa_nil' {Φ : FnS} {Γ : GlS} {X : Cx} : PA X [] (tEs X.K Φ Γ .nil) := PA.imp pa_nil fun σ H Q q => by
  obtain ⟨B, F, ρ, env, μ, d, μ', S, he, q⟩ := q
  rw [evs] at he
  cases he
  exact q _ F H ρ .refl S.fh S.cells .nil
theorem po_none' {Φ : FnS} {Γ : GlS} {X : Cx} : PO X none (tO X.K Φ Γ .none) := PO.imp po_none fun σ H Q q => by
  obtain ⟨B, F, ρ, env, μ, d, μ', S, he, q⟩ := q
  rw [evo] at he
  cases he
  exact q _ F H ρ .refl S.fh S.cells rfl
theorem po_some' {Φ : FnS} {Γ : GlS} {X : Cx} {m : E} {e : Expr} (h : PE X e (tE X.K Φ Γ m)) : PO X (some e) (tO X.K Φ Γ (.some m)) := PO.imp (po_some h) fun σ H Q q => by
  obtain ⟨B, F, ρ, env, μ, d, μ', S, he, q⟩ := q
  rw [evo] at he
  obtain ⟨⟨dx, μ1⟩, h1, h2⟩ := Option.bind_eq_some_iff.mp he
  obtain ⟨i, h3, h4⟩ := Option.map_eq_some_iff.mp h2
  cases h4
  refine RE.go S h1 fun v F1 H1 ρ1 e1 S1 r1 => ?_
  have e0 := asInt_eq h3
  subst e0
  cases r1
  exact ⟨_, rfl, q _ F1 H1 ρ1 e1 S1.fh S1.cells rfl⟩
theorem pc_none' {Φ : FnS} {Γ : GlS} {X : Cx} : PTs X [] (tC X.K Φ Γ .none) := PTs.imp pts_nil fun σ H Q q => by
  obtain ⟨B, F, ρ, env, μ, d, μ', S, he, q⟩ := q
  rw [evc] at he
  cases he
  exact q _ F H ρ .refl S.fh S.cells rfl
theorem pc_some' {Φ : FnS} {Γ : GlS} {X : Cx} {m : E} {e : Expr} (h : PT X e (tT X.K Φ Γ m)) : PTs X [e] (tC X.K Φ Γ (.some m)) := PTs.imp (pts_one h) fun σ H Q q => by
  obtain ⟨B, F, ρ, env, μ, d, μ', S, he, q⟩ := q
  rw [evc] at he
  exact ⟨B, F, ρ, env, μ, d, μ', S, he, q⟩
mutual
theorem peE : ∀ (m : E) (X : Cx) (sc : Scope) (e : Expr), CG C Φ Γ k X sc → mE C sc m e = true → PE X e (tE X.K Φ Γ m)
  | .slot i, X, sc, e, G, h => by obtain ⟨x, p, rfl, ⟨h1, h2⟩, h3⟩ := mE_slot h; exact s_slot G h1 h2 h3
  | .glob i, X, sc, e, G, h => by obtain ⟨x, p, rfl, ⟨h1, h2⟩, h3⟩ := mE_glob h; exact s_glob G h1 h2 h3
  | .int i, X, sc, e, G, h => by obtain ⟨j, n, p, rfl, rfl⟩ := mE_int h; exact s_int
  | .bl i, X, sc, e, G, h => by obtain ⟨j, n, p, rfl, rfl⟩ := mE_bl h; exact s_bl
  | .non, X, sc, e, G, h => by obtain ⟨n, p, rfl⟩ := mE_non h; exact s_non
  | .str i, X, sc, e, G, h => by obtain ⟨j, n, p, rfl, rfl⟩ := mE_str h; exact s_str
  | .bin op a b, X, sc, e, G, h => by
    obtain ⟨x, o, y, p, rfl, ⟨rfl, h1⟩, h2⟩ := mE_bin h
    exact s_bin (peE a X sc x G h1) (peE b X sc y G h2)
  | .neg a, X, sc, e, G, h => by
    obtain ⟨x, p, rfl, h1⟩ := mE_neg h
    exact s_neg (peE a X sc x G h1)
  | .not a, X, sc, e, G, h => by
    obtain ⟨x, p, rfl, h1⟩ := mE_not h
    exact s_not (peE a X sc x G h1)
  | .cmp op a b, X, sc, e, G, h => by
    obtain ⟨x, o, y, p, rfl, ⟨rfl, h1⟩, h2⟩ := mE_cmp h
    exact s_cmp G (marks_of (mE_noset h2)) (peE a X sc x G h1) (peE b X sc y G h2)
  | .isN a, X, sc, e, G, h => by
    obtain ⟨x, n, p2, p, rfl, h1⟩ := mE_isN h
    exact s_isN (peE a X sc x G h1)
  | .notN a, X, sc, e, G, h => by
    obtain ⟨x, n, p2, p, rfl, h1⟩ := mE_notN h
    exact s_notN (peE a X sc x G h1)
  | .and a r, X, sc, e, G, h => by
    obtain ⟨x, xs, p, rfl, h1, h2⟩ := mE_and h
    refine PE.imp (pAnd r X sc xs a x p G (peE a X sc x G h1) h2) fun σ H Q q => ?_
    obtain ⟨B, F, ρ, env, μ, d, μ', S, he, q⟩ := q
    rw [ev] at he
    exact ⟨B, F, ρ, env, μ, d, μ', S, he, q⟩
  | .or a r, X, sc, e, G, h => by
    obtain ⟨x, xs, p, rfl, h1, h2⟩ := mE_or h
    refine PE.imp (pOr r X sc xs a x p G (peE a X sc x G h1) h2) fun σ H Q q => ?_
    obtain ⟨B, F, ρ, env, μ, d, μ', S, he, q⟩ := q
    rw [ev] at he
    exact ⟨B, F, ρ, env, μ, d, μ', S, he, q⟩
  | .ite c a b, X, sc, e, G, h => by
    obtain ⟨z, x, y, p, rfl, ⟨h1, h2⟩, h3⟩ := mE_ite h
    exact s_ite (ptE c X sc z G h1) (peE a X sc x G h2) (peE b X sc y G h3)
  | .tup es, X, sc, e, G, h => by
    obtain ⟨xs, n, p, rfl, h1⟩ := mE_tup h
    exact s_tup (paEs es X sc xs G h1)
  | .lst es, X, sc, e, G, h => by
    obtain ⟨xs, p, rfl, h1⟩ := mE_lst h
    exact s_lst (paEs es X sc xs G h1)
  | .mlst es, X, sc, e, G, h => by
    obtain ⟨xs, p, rfl, h1⟩ := mE_mlst h
    exact s_mlst (paEs es X sc xs G h1)
  | .ix a b, X, sc, e, G, h => by
    obtain ⟨x, y, p, rfl, h1, h2⟩ := mE_ix h
    exact s_ix (mE_nostar h2).2 (peE a X sc x G h1) (peE b X sc y G h2)
  | .slc a lo hi, X, sc, e, G, h => by
    obtain ⟨x, l, u, p2, p, rfl, ⟨h1, h2⟩, h3⟩ := mE_slc h
    exact s_slc (peE a X sc x G h1) (poEo lo X sc l G h2) (poEo hi X sc u G h3)
  | .call f a es, X, sc, e, G, h => by
    obtain ⟨x, p2, y, ys, p, rfl, ⟨⟨⟨h1, h2⟩, h3⟩, h4⟩, h5⟩ := mE_call h
    exact s_call G h1 h2 h3 (pa_two (peE a X sc y G h4) (mE_nostar h4).1 (paEs es X sc ys G h5)) (mE_nostar h4).1 (mEs_nostar h5)
  | .bi b a es, X, sc, e, G, h => by
    obtain ⟨x, p2, y, ys, p, rfl, ⟨⟨rfl, h2⟩, h4⟩, h5⟩ := mE_bi h
    exact s_bi G h2 (pa_two (peE a X sc y G h4) (mE_nostar h4).1 (paEs es X sc ys G h5)) (mE_nostar h4).1 (mEs_nostar h5)
  | .isi a t, X, sc, e, G, h => by
    obtain ⟨x, p2, y, z, p3, p, rfl, ⟨⟨⟨rfl, h1⟩, h2⟩, rfl⟩, h3⟩ := mE_isi h
    exact s_isi G h1 h3 (peE a X sc y G h2) (mE_nostar h2).1
  | .lc a t it c vs, X, sc, e, G, h => by
    obtain ⟨x, tg, iter, ifs, n, scope, p, rfl, ⟨⟨⟨⟨⟨rfl, h1⟩, h2⟩, h3⟩, h4⟩, h5⟩, h6⟩ := mE_lc h
    exact (s_lc G h1 (fun j hj => by have := List.all_eq_true.mp h2 j hj; simpa using this) (folded_of (mI_noset h3)) (piI it X sc iter tg G h3)
      (fun s H Cc cl fp => pgT (G.blk (blk_kind h1) s H Cc cl fp) t tg h4) (fun s H Cc cl fp => pcEo c _ scope ifs (G.blk (blk_kind h1) s H Cc cl fp) h5) (fun s H Cc cl fp => peE a _ scope x (G.blk (blk_kind h1) s H Cc cl fp) h6)).1.1
  | .bor i a, X, sc, e, G, h => s_bor (peE a X sc e G (mE_bor h))
  | .dIn neg i a, X, sc, e, G, h => by
    obtain ⟨x, o, y, p2, p, rfl, ⟨⟨⟨rfl, h1⟩, h2⟩, h3⟩, h4⟩ := mE_dIn h
    exact s_dIn G h1 h2 h3 (peE a X sc x G h4)
  | .dAt i a, X, sc, e, G, h => by
    obtain ⟨y, p2, x, p, rfl, ⟨⟨h1, h2⟩, h3⟩, h4⟩ := mE_dAt h
    exact s_dAt G h1 h2 h3 (mE_nostar h4).2 (peE a X sc x G h4)
  | .dVals i, X, sc, e, G, h => by
    obtain ⟨f, p2, y, p3, m, ap, cp, p, rfl, ⟨⟨⟨⟨⟨rfl, h1⟩, h2⟩, h3⟩, h4⟩, rfl⟩, h5⟩ := mE_dVals h
    exact s_dVals G h1 h2 h3 h4 h5
  | .rngL a, X, sc, e, G, h => by
    obtain ⟨f, p2, g, p3, x, p4, p, rfl, ⟨⟨⟨rfl, h1⟩, rfl⟩, h2⟩, h3⟩ := mE_rngL h
    exact s_rngL G h1 h2 (peE a X sc x G h3) (mE_nostar h3).1
  | .rngL2 a b, X, sc, e, G, h => by
    obtain ⟨f, p2, g, p3, x, y, p4, p, rfl, ⟨⟨⟨⟨rfl, h1⟩, rfl⟩, h2⟩, h3⟩, h4⟩ := mE_rngL2 h
    exact s_rngL2 G h1 h2 (peE a X sc x G h3) (peE b X sc y G h4) (mE_nostar h3).1 (mE_nostar h4).1
  | .rev a, X, sc, e, G, h => by
    obtain ⟨x, k, p1, p2, p3, p, rfl, h1⟩ := mE_rev h
    exact s_rev (peE a X sc x G h1)
  | .chain op op2 a b c, X, sc, e, G, h => by
    obtain ⟨x, o, o2, y, z, p, rfl, ⟨⟨⟨rfl, rfl⟩, h1⟩, h2⟩, h3⟩ := mE_chain h
    exact s_chain G (marks_of (mE_noset h3)) (peE a X sc x G h1) (peE b X sc y G h2) (peE c X sc z G h3)
theorem ptE : ∀ (m : E) (X : Cx) (sc : Scope) (e : Expr), CG C Φ Γ k X sc → mE C sc m e = true → PT X e (tT X.K Φ Γ m)
  | .slot i, X, sc, e, G, h => by
    have hp := peE (.slot i) X sc e G h
    obtain ⟨x, p, rfl, _⟩ := mE_slot h
    refine sT_tru hp (fun _ => rfl) fun env μ r hr => ?_
    rw [evT] at hr
    obtain ⟨d, h1, h2⟩ := Option.bind_eq_some_iff.mp hr
    obtain ⟨b, h3, h4⟩ := Option.map_eq_some_iff.mp h2
    cases h4
    exact ⟨d, by rw [ev, h1]; rfl, h3⟩
  | .ix a b, X, sc, e, G, h => by
    have hp := peE (.ix a b) X sc e G h
    obtain ⟨x, y, p, rfl, _⟩ := mE_ix h
    refine sT_tru hp (fun _ => rfl) fun env μ r hr => ?_
    rw [evT] at hr
    obtain ⟨⟨d, μ1⟩, h1, h2⟩ := Option.bind_eq_some_iff.mp hr
    obtain ⟨⟨d2, μ2⟩, h3, h4⟩ := Option.bind_eq_some_iff.mp h2
    obtain ⟨d3, h5, h6⟩ := Option.bind_eq_some_iff.mp h4
    obtain ⟨b, h7, h8⟩ := Option.map_eq_some_iff.mp h6
    cases h8
    refine ⟨d3, ?_, h7⟩
    rw [ev, h1]
    show Option.bind (ev _ _ _ _ _) _ = _
    rw [h3]
    show Option.map _ (ixS _ _ _) = _
    rw [h5]; rfl
  | .call f a es, X, sc, e, G, h => by
    have hp := peE (.call f a es) X sc e G h
    obtain ⟨x, p2, y, ys, p, rfl, _⟩ := mE_call h
    refine sT_tru hp (fun _ => rfl) fun env μ r hr => ?_
    rw [evT] at hr
    obtain ⟨⟨d, μ1⟩, h1, h2⟩ := Option.bind_eq_some_iff.mp hr
    obtain ⟨⟨d2, μ2⟩, h3, h4⟩ := Option.bind_eq_some_iff.mp h2
    obtain ⟨⟨d3, μ3⟩, h5, h6⟩ := Option.bind_eq_some_iff.mp h4
    obtain ⟨b, h7, h8⟩ := Option.map_eq_some_iff.mp h6
    cases h8
    refine ⟨d3, ?_, h7⟩
    rw [ev, h1]
    show Option.bind (evs _ _ _ _ _) _ = _
    rw [h3]
    exact h5
  | .bi b a es, X, sc, e, G, h => by
    have hp := peE (.bi b a es) X sc e G h
    obtain ⟨x, p2, y, ys, p, rfl, _⟩ := mE_bi h
    refine sT_tru hp (fun _ => rfl) fun env μ r hr => ?_
    rw [evT] at hr
    obtain ⟨⟨d, μ1⟩, h1, h2⟩ := Option.bind_eq_some_iff.mp hr
    obtain ⟨⟨d2, μ2⟩, h3, h4⟩ := Option.bind_eq_some_iff.mp h2
    obtain ⟨d3, h5, h6⟩ := Option.bind_eq_some_iff.mp h4
    obtain ⟨b, h7, h8⟩ := Option.map_eq_some_iff.mp h6
    cases h8
    refine ⟨d3, ?_, h7⟩
    rw [ev, h1]
    show Option.bind (evs _ _ _ _ _) _ = _
    rw [h3]
    show Option.map _ (biS _ _ _) = _
    rw [h5]; rfl
  | .isi a t, X, sc, e, G, h => by
    have hp := peE (.isi a t) X sc e G h
    obtain ⟨x, p2, y, z, p3, p, rfl, _⟩ := mE_isi h
    refine sT_tru hp (fun _ => rfl) fun env μ r hr => ?_
    rw [evT] at hr
    obtain ⟨⟨d, μ1⟩, h1, h2⟩ := Option.bind_eq_some_iff.mp hr
    obtain ⟨b, h7, h8⟩ := Option.map_eq_some_iff.mp h2
    cases h8
    refine ⟨.bl b, ?_, rfl⟩
    rw [ev, h1]
    show Option.map _ (isiS _ _) = _
    rw [h7]; rfl
  | .dIn neg i a, X, sc, e, G, h => by
    obtain ⟨x, o, y, p2, p, rfl, ⟨⟨⟨rfl, h1⟩, h2⟩, h3⟩, h4⟩ := mE_dIn h
    exact sT_dIn G h1 h2 h3 (peE a X sc x G h4)
  | .chain op op2 a b c, X, sc, e, G, h => by
    obtain ⟨x, o, o2, y, z, p, rfl, ⟨⟨⟨rfl, rfl⟩, h1⟩, h2⟩, h3⟩ := mE_chain h
    exact sT_chain G (marks_of (mE_noset h3)) (peE a X sc x G h1) (peE b X sc y G h2) (peE c X sc z G h3)
  | .dAt i a, X, sc, e, G, h => sT_none fun env μ => by rw [evT] <;> (intros; contradiction)
  | .dVals i, X, sc, e, G, h => sT_none fun env μ => by rw [evT] <;> (intros; contradiction)
  | .rngL2 _ _, X, sc, e, G, h => sT_none fun env μ => by rw [evT] <;> (intros; contradiction)
  | .rngL _, X, sc, e, G, h => sT_none fun env μ => by rw [evT] <;> (intros; contradiction)
  | .rev _, X, sc, e, G, h => sT_none fun env μ => by rw [evT] <;> (intros; contradiction)
  | .cmp op a b, X, sc, e, G, h => by
    obtain ⟨x, o, y, p, rfl, ⟨rfl, h1⟩, h2⟩ := mE_cmp h
    exact sT_cmp G (marks_of (mE_noset h2)) (peE a X sc x G h1) (peE b X sc y G h2)
  | .isN a, X, sc, e, G, h => by
    obtain ⟨x, n, p2, p, rfl, h1⟩ := mE_isN h
    exact sT_isN (peE a X sc x G h1)
  | .notN a, X, sc, e, G, h => by
    obtain ⟨x, n, p2, p, rfl, h1⟩ := mE_notN h
    exact sT_notN (peE a X sc x G h1)
  | .not a, X, sc, e, G, h => by
    obtain ⟨x, p, rfl, h1⟩ := mE_not h
    refine PT.imp (pt_not (ptE a X sc x G h1)) fun σ H Q q => ?_
    obtain ⟨B, F, ρ, env, μ, d, μ', S, he, q⟩ := q
    rw [evT] at he
    obtain ⟨⟨b, μ1⟩, h2, h3⟩ := Option.map_eq_some_iff.mp he
    cases h3
    exact RE.go S h2 fun v F1 H1 ρ1 e1 S1 r1 => q _ F1 H1 ρ1 e1 S1.fh S1.cells (by rw [r1])
  | .and a r, X, sc, e, G, h => by
    obtain ⟨x, xs, p, rfl, h1, h2⟩ := mE_and h
    refine PT.imp (PW.pt (ptAnd r X sc xs a x p G (ptE a X sc x G h1) h2)) fun σ H Q q => ?_
    obtain ⟨B, F, ρ, env, μ, d, μ', S, he, q⟩ := q
    rw [evT] at he
    exact ⟨B, F, ρ, env, μ, d, μ', S, he, q⟩
  | .or a r, X, sc, e, G, h => by
    obtain ⟨x, xs, p, rfl, h1, h2⟩ := mE_or h
    refine PT.imp (PW.pt (ptOr r X sc xs a x p G (ptE a X sc x G h1) h2)) fun σ H Q q => ?_
    obtain ⟨B, F, ρ, env, μ, d, μ', S, he, q⟩ := q
    rw [evT] at he
    exact ⟨B, F, ρ, env, μ, d, μ', S, he, q⟩
  | .bor i a, X, sc, e, G, h => sT_bor (ptE a X sc e G (mE_bor h))
  | .ite _ _ _, X, sc, e, G, h => sT_none fun _ _ => by rw [evT]
  | .glob _, X, sc, e, G, h => sT_none fun _ _ => by rw [evT] <;> (intros; contradiction)
  | .int _, X, sc, e, G, h => sT_none fun _ _ => by rw [evT] <;> (intros; contradiction)
  | .bl _, X, sc, e, G, h => sT_none fun _ _ => by rw [evT] <;> (intros; contradiction)
  | .non, X, sc, e, G, h => sT_none fun _ _ => by rw [evT] <;> (intros; contradiction)
  | .str _, X, sc, e, G, h => sT_none fun _ _ => by rw [evT] <;> (intros; contradiction)
  | .bin _ _ _, X, sc, e, G, h => sT_none fun _ _ => by rw [evT] <;> (intros; contradiction)
  | .neg _, X, sc, e, G, h => sT_none fun _ _ => by rw [evT] <;> (intros; contradiction)
  | .tup _, X, sc, e, G, h => sT_none fun _ _ => by rw [evT] <;> (intros; contradiction)
  | .lst _, X, sc, e, G, h => sT_none fun _ _ => by rw [evT] <;> (intros; contradiction)
  | .mlst _, X, sc, e, G, h => sT_none fun _ _ => by rw [evT] <;> (intros; contradiction)
  | .slc _ _ _, X, sc, e, G, h => sT_none fun _ _ => by rw [evT] <;> (intros; contradiction)
  | .lc _ _ _ _ _, X, sc, e, G, h => sT_none fun _ _ => by rw [evT] <;> (intros; contradiction)
theorem pAnd : ∀ (r : Es) (X : Cx) (sc : Scope) (xs : List Expr) (a : E) (x : Expr) (p : Pos), CG C Φ Γ k X sc → PE X x (tE X.K Φ Γ a) → mEs C sc r xs = true → PE X (.BoolOp .And (x :: xs) p) (tAnd X.K Φ Γ a r)
  | .nil, X, sc, xs, a, x, p, G, ha, h => by rw [mEs_nil h]; exact s_and1 ha
  | .cons b r, X, sc, xs, a, x, p, G, ha, h => by
    obtain ⟨y, ys, rfl, h1, h2⟩ := mEs_cons h
    exact s_and2 ha (pAnd r X sc ys b y p G (peE b X sc y G h1) h2)
theorem pOr : ∀ (r : Es) (X : Cx) (sc : Scope) (xs : List Expr) (a : E) (x : Expr) (p : Pos), CG C Φ Γ k X sc → PE X x (tE X.K Φ Γ a) → mEs C sc r xs = true → PE X (.BoolOp .Or (x :: xs) p) (tOr X.K Φ Γ a r)
  | .nil, X, sc, xs, a, x, p, G, ha, h => by rw [mEs_nil h]; exact s_or1 ha
  | .cons b r, X, sc, xs, a, x, p, G, ha, h => by
    obtain ⟨y, ys, rfl, h1, h2⟩ := mEs_cons h
    exact s_or2 ha (pOr r X sc ys b y p G (peE b X sc y G h1) h2)
theorem ptAnd : ∀ (r : Es) (X : Cx) (sc : Scope) (xs : List Expr) (a : E) (x : Expr) (p : Pos), CG C Φ Γ k X sc → PT X x (tT X.K Φ Γ a) → mEs C sc r xs = true → PW X (.BoolOp .And (x :: xs) p) (tTAnd X.K Φ Γ a r)
  | .nil, X, sc, xs, a, x, p, G, ha, h => by rw [mEs_nil h]; exact sT_and1 ha
  | .cons b r, X, sc, xs, a, x, p, G, ha, h => by
    obtain ⟨y, ys, rfl, h1, h2⟩ := mEs_cons h
    exact sT_and2 ha (ptAnd r X sc ys b y p G (ptE b X sc y G h1) h2)
theorem ptOr : ∀ (r : Es) (X : Cx) (sc : Scope) (xs : List Expr) (a : E) (x : Expr) (p : Pos), CG C Φ Γ k X sc → PT X x (tT X.K Φ Γ a) → mEs C sc r xs = true → PW X (.BoolOp .Or (x :: xs) p) (tTOr X.K Φ Γ a r)
  | .nil, X, sc, xs, a, x, p, G, ha, h => by rw [mEs_nil h]; exact sT_or1 ha
  | .cons b r, X, sc, xs, a, x, p, G, ha, h => by
    obtain ⟨y, ys, rfl, h1, h2⟩ := mEs_cons h
    exact sT_or2 ha (ptOr r X sc ys b y p G (ptE b X sc y G h1) h2)
theorem paEs : ∀ (ms : Es) (X : Cx) (sc : Scope) (es : List Expr), CG C Φ Γ k X sc → mEs C sc ms es = true → PA X es (tEs X.K Φ Γ ms)
  | .nil, X, sc, es, G, h => by rw [mEs_nil h]; exact pa_nil'
  | .cons m ms, X, sc, es, G, h => by
    obtain ⟨y, ys, rfl, h1, h2⟩ := mEs_cons h
    exact pa_two (peE m X sc y G h1) (mE_nostar h1).1 (paEs ms X sc ys G h2)
theorem poEo : ∀ (m : Eo) (X : Cx) (sc : Scope) (e : Option Expr), CG C Φ Γ k X sc → mEo C sc m e = true → PO X e (tO X.K Φ Γ m)
  | .none, X, sc, e, G, h => by rw [mEo_none h]; exact po_none'
  | .some m, X, sc, e, G, h => by
    obtain ⟨y, rfl, h1⟩ := mEo_some h
    exact po_some' (peE m X sc y G h1)
theorem pcEo : ∀ (m : Eo) (X : Cx) (sc : Scope) (e : List Expr), CG C Φ Γ k X sc → mEc C sc m e = true → PTs X e (tC X.K Φ Γ m)
  | .none, X, sc, e, G, h => by rw [mEc_none h]; exact pc_none'
  | .some m, X, sc, e, G, h => by
    obtain ⟨y, rfl, h1⟩ := mEc_some h
    exact pc_some' (ptE m X sc y G h1)
theorem piI : ∀ (it : I) (X : Cx) (sc : Scope) (e tg : Expr), CG C Φ Γ k X sc → mI C sc it e (isTup tg) = true → PI X tg e (tI X.K Φ Γ it)
  | .seq a, X, sc, e, tg, G, h => s_seq (peE a X sc e G (mI_seq h))
  | .rng1 a, X, sc, e, tg, G, h => by
    obtain ⟨f, p2, y, p, rfl, ⟨rfl, h1⟩, h2⟩ := mI_rng1 h
    exact s_rng1 G h1 (peE a X sc y G h2) (mE_nostar h2).1
  | .rngD a, X, sc, e, tg, G, h => by
    obtain ⟨f, p2, y, k1, p3, p4, k2, p5, p6, p, rfl, ⟨rfl, h1⟩, h2⟩ := mI_rngD h
    exact s_rngD G h1 (peE a X sc y G h2) (mE_nostar h2).1
  | .rng2 a b, X, sc, e, tg, G, h => by
    obtain ⟨f, p2, y, z, p, rfl, ⟨⟨rfl, h1⟩, h2⟩, h3⟩ := mI_rng2 h
    exact s_rng2 G h1 (peE a X sc y G h2) (peE b X sc z G h3) (mE_nostar h2).1 (mE_nostar h3).1
  | .zip a b, X, sc, e, tg, G, h => by
    obtain ⟨f, p2, y, z, p, rfl, ⟨⟨⟨hk, rfl⟩, h1⟩, h2⟩, h3⟩ := mI_zip h
    exact s_zip G h1 hk (peE a X sc y G h2) (peE b X sc z G h3) (mE_nostar h2).1 (mE_nostar h3).1
  | .enum a, X, sc, e, tg, G, h => by
    obtain ⟨f, p2, y, p, rfl, ⟨⟨hk, rfl⟩, h1⟩, h2⟩ := mI_enum h
    exact s_enum G h1 hk (peE a X sc y G h2) (mE_nostar h2).1
end
end
end Py
end
section
set_option Elab.async false
set_option linter.all false
set_option maxRecDepth 100000
set_option maxHeartbeats 4000000
namespace Py
open PySem L2 RZ
def asgOk (tg x : Expr) : Bool := match x with
  | .ListComp .. => (match tg with | .Name .. => true | .Tuple .. => true | _ => false)
  | .SetComp .. => false
  | .DictComp .. => false
  | .Tuple .. => (match tg with | .Tuple .. => false | .List .. => false | _ => true)
  | _ => true
def isLc : Expr → Bool
  | .ListComp .. => true | _ => false
def isCall : Expr → Bool
  | .Call .. => true | _ => false
def isSub : Expr → Bool
  | .Subscript .. => true | _ => false
def isNew : E → Bool
  | .lst _ => true | .lc .. => true | .bi .list _ _ => true
  | .ite _ (.lst _) (.lst _) => true
  | _ => false
def lclB (sc : Scope) (x : Str) : Bool := match sc.names.lookup x with
  | some .local => true | _ => false
mutual
def mS (C : MC) (sc : Scope) : S → Stmt → Bool
  | .app i e, .Expr (.Call (.Attribute (.Name x _) m p2) [y] [] p3) _ => decide (C.N[i]? = some x) && visB sc x && okName x && decide (m = ("append" : Str)) && (p2.endLine == p3.line) && mE C sc e y
  | .expr e, .Expr x _ => isCall x && mE C sc e x
  | .asg t e, .Assign [tg] x _ => mT C sc t tg && mE C sc e x && asgOk tg x
  | .asgN i e, .Assign [.Name y py] x _ => mT C sc (.nm i) (.Name y py) && mE C sc e x && isNew e
  | .par i j a b, .Assign [.Tuple [.Name x px, .Name y py] _ _] (.Tuple [u, v] _ _) _ => decide (C.N[i]? = some x) && decide (C.N[j]? = some y) && decide (i ≠ j) && lclB sc x && lclB sc y && decide (px.line = py.line) && mE C sc a u && mE C sc b v && !(foldedForSure 8 u && foldedForSure 8 v) && !(constantsAlone 8 u && constantsAlone 8 v)
  | .aug i op e, .AugAssign (.Name x _) op' y _ => decide (C.N[i]? = some x) && locB sc x && decide (op = op') && mE C sc e y
  | .setm o i e, .Assign [.Subscript x y _] z _ => mE C sc o x && mE C sc i y && mE C sc e z && !sliceB y && asgOk (.Name "" ⟨0, 0, 0, 0⟩) z && !isLc z
  | .ret e, .Return (some x) _ => mE C sc e x
  | .retN, .Return none _ => true
  | .iff c a b, .If x ys zs _ => mE C sc c x && mSs C sc a ys && mSs C sc b zs
  | .wh c b, .While x ys [] _ => mE C sc c x && mSs C sc b ys
  | .for t it b, .For tg x ys [] _ => mT C sc t tg && mI C sc it x (isTup tg) && mSs C sc b ys
  | .brk, .Break _ => true
  | .cont, .Continue _ => true
  | .pass, .Pass _ => true
  | .frz _ s, x => mS C sc s x
  | .ext i e, .Expr (.Call (.Attribute (.Name x _) m p2) [y] [] p3) _ => decide (C.N[i]? = some x) && visB sc x && okName x && decide (m = ("extend" : Str)) && (p2.endLine == p3.line) && mE C sc e y
  | .dNew i, .Assign [.Name y py] (.Dict [] [] _) _ => mT C sc (.nm i) (.Name y py)
  | .setO i a e, .Assign [.Subscript (.Name y _) u _] z _ => decide (C.N[i]? = some y) && visB sc y && okName y && mE C sc a u && mE C sc e z && !sliceB u && asgOk (.Name "" ⟨0, 0, 0, 0⟩) z && !isLc z
  | .dPut i a e, .Assign [.Subscript (.Name y _) u _] z _ => decide (C.N[i]? = some y) && visB sc y && okName y && mE C sc a u && mE C sc e z && !sliceB u && asgOk (.Name "" ⟨0, 0, 0, 0⟩) z && !isLc z
  | _, _ => false
def mSs (C : MC) (sc : Scope) : List S → List Stmt → Bool
  | [], [] => true
  | s :: r, x :: xs => mS C sc s x && mSs C sc r xs
  | _, _ => false
end
section
variable {C : MC} {sc : Scope} {e : Stmt}
theorem mS_app {i : Nat} {a : E} (h : mS C sc (.app i a) e = true) : ∃ x p1 m p2 y p3 p, e = .Expr (.Call (.Attribute (.Name x p1) m p2) [y] [] p3) p ∧ ((((C.N[i]? = some x ∧ visB sc x = true) ∧ okName x = true) ∧ m = ("append" : Str)) ∧ (p2.endLine == p3.line) = true) ∧ mE C sc a y = true := by
  unfold mS at h
  split at h <;> first | contradiction | skip
  rename_i q; cases q
  simp only [Bool.and_eq_true, decide_eq_true_eq] at h
  exact ⟨_, _, _, _, _, _, _, rfl, h⟩
theorem mS_ext {i : Nat} {a : E} (h : mS C sc (.ext i a) e = true) : ∃ x p1 m p2 y p3 p, e = .Expr (.Call (.Attribute (.Name x p1) m p2) [y] [] p3) p ∧ ((((C.N[i]? = some x ∧ visB sc x = true) ∧ okName x = true) ∧ m = ("extend" : Str)) ∧ (p2.endLine == p3.line) = true) ∧ mE C sc a y = true := by
  unfold mS at h
  split at h <;> first | contradiction | skip
  rename_i q; cases q
  simp only [Bool.and_eq_true, decide_eq_true_eq] at h
  exact ⟨_, _, _, _, _, _, _, rfl, h⟩
theorem mS_expr {a : E} (h : mS C sc (.expr a) e = true) : ∃ x p, e = .Expr x p ∧ isCall x = true ∧ mE C sc a x = true := by
  unfold mS at h
  split at h <;> first | contradiction | skip
  rename_i q; cases q
  simp only [Bool.and_eq_true, decide_eq_true_eq] at h
  exact ⟨_, _, rfl, h⟩
theorem mS_asg {t : T} {a : E} (h : mS C sc (.asg t a) e = true) : ∃ tg x p, e = .Assign [tg] x p ∧ (mT C sc t tg = true ∧ mE C sc a x = true) ∧ asgOk tg x = true := by
  unfold mS at h
  split at h <;> first | contradiction | skip
  rename_i q; cases q
  simp only [Bool.and_eq_true, decide_eq_true_eq] at h
  exact ⟨_, _, _, rfl, h⟩
theorem mS_asgN {i : Nat} {a : E} (h : mS C sc (.asgN i a) e = true) : ∃ y py x p, e = .Assign [.Name y py] x p ∧ (mT C sc (.nm i) (.Name y py) = true ∧ mE C sc a x = true) ∧ isNew a = true := by
  unfold mS at h
  split at h <;> first | contradiction | skip
  rename_i q; cases q
  simp only [Bool.and_eq_true, decide_eq_true_eq] at h
  exact ⟨_, _, _, _, rfl, h⟩
theorem mS_par {i j : Nat} {a b : E} (h : mS C sc (.par i j a b) e = true) : ∃ x px y py k1 p1 u v k2 p2 p, e = .Assign [.Tuple [.Name x px, .Name y py] k1 p1] (.Tuple [u, v] k2 p2) p ∧
    ((((((((C.N[i]? = some x ∧ C.N[j]? = some y) ∧ i ≠ j) ∧ lclB sc x = true) ∧ lclB sc y = true) ∧ px.line = py.line) ∧ mE C sc a u = true) ∧ mE C sc b v = true) ∧ (foldedForSure 8 u && foldedForSure 8 v) = false) ∧ (constantsAlone 8 u && constantsAlone 8 v) = false := by
  unfold mS at h
  split at h <;> first | contradiction | skip
  rename_i q; cases q
  rw [Bool.and_eq_true, Bool.and_eq_true, Bool.not_eq_true', Bool.not_eq_true'] at h
  obtain ⟨⟨h, h1⟩, h2⟩ := h
  simp only [Bool.and_eq_true, decide_eq_true_eq] at h
  exact ⟨_, _, _, _, _, _, _, _, _, _, _, rfl, ⟨h, h1⟩, h2⟩
theorem mS_aug {i : Nat} {op : Operator} {a : E} (h : mS C sc (.aug i op a) e = true) : ∃ x p1 o y p, e = .AugAssign (.Name x p1) o y p ∧ ((C.N[i]? = some x ∧ locB sc x = true) ∧ op = o) ∧ mE C sc a y = true := by
  unfold mS at h
  split at h <;> first | contradiction | skip
  rename_i q; cases q
  simp only [Bool.and_eq_true, decide_eq_true_eq] at h
  exact ⟨_, _, _, _, _, rfl, h⟩
theorem mS_setm {o i a : E} (h : mS C sc (.setm o i a) e = true) : ∃ x y p1 z p, e = .Assign [.Subscript x y p1] z p ∧ ((((mE C sc o x = true ∧ mE C sc i y = true) ∧ mE C sc a z = true) ∧ sliceB y = false) ∧ asgOk (.Name "" ⟨0, 0, 0, 0⟩) z = true) ∧ isLc z = false := by
  unfold mS at h
  split at h <;> first | contradiction | skip
  rename_i q; cases q
  simp only [Bool.and_eq_true, Bool.not_eq_true'] at h
  exact ⟨_, _, _, _, _, rfl, h⟩
theorem mS_dNew {i : Nat} (h : mS C sc (.dNew i) e = true) : ∃ y py p1 p, e = .Assign [.Name y py] (.Dict [] [] p1) p ∧ mT C sc (.nm i) (.Name y py) = true := by
  unfold mS at h
  split at h <;> first | contradiction | skip
  rename_i q; cases q
  exact ⟨_, _, _, _, rfl, h⟩
theorem mS_setO {i : Nat} {b a : E} (h : mS C sc (.setO i b a) e = true) : ∃ y p2 u p1 z p, e = .Assign [.Subscript (.Name y p2) u p1] z p ∧ ((((((C.N[i]? = some y ∧ visB sc y = true) ∧ okName y = true) ∧ mE C sc b u = true) ∧ mE C sc a z = true) ∧ sliceB u = false) ∧ asgOk (.Name "" ⟨0, 0, 0, 0⟩) z = true) ∧ isLc z = false := by
  unfold mS at h
  split at h <;> first | contradiction | skip
  rename_i q; cases q
  simp only [Bool.and_eq_true, Bool.not_eq_true', decide_eq_true_eq] at h
  exact ⟨_, _, _, _, _, _, rfl, h⟩
theorem mS_dPut {i : Nat} {b a : E} (h : mS C sc (.dPut i b a) e = true) : ∃ y p2 u p1 z p, e = .Assign [.Subscript (.Name y p2) u p1] z p ∧ ((((((C.N[i]? = some y ∧ visB sc y = true) ∧ okName y = true) ∧ mE C sc b u = true) ∧ mE C sc a z = true) ∧ sliceB u = false) ∧ asgOk (.Name "" ⟨0, 0, 0, 0⟩) z = true) ∧ isLc z = false := by
  unfold mS at h
  split at h <;> first | contradiction | skip
  rename_i q; cases q
  simp only [Bool.and_eq_true, Bool.not_eq_true', decide_eq_true_eq] at h
  exact ⟨_, _, _, _, _, _, rfl, h⟩
theorem mS_ret {a : E} (h : mS C sc (.ret a) e = true) : ∃ x p, e = .Return (some x) p ∧ mE C sc a x = true := by
  unfold mS at h
  split at h <;> first | contradiction | skip
  rename_i q; cases q
  exact ⟨_, _, rfl, h⟩
theorem mS_retN (h : mS C sc .retN e = true) : ∃ p, e = .Return none p := by
  unfold mS at h
  split at h <;> first | contradiction | skip
  exact ⟨_, rfl⟩
theorem mS_iff {c : E} {a b : List S} (h : mS C sc (.iff c a b) e = true) : ∃ x ys zs p, e = .If x ys zs p ∧ (mE C sc c x = true ∧ mSs C sc a ys = true) ∧ mSs C sc b zs = true := by
  unfold mS at h
  split at h <;> first | contradiction | skip
  rename_i q; cases q
  simp only [Bool.and_eq_true] at h
  exact ⟨_, _, _, _, rfl, h⟩
theorem mS_wh {c : E} {b : List S} (h : mS C sc (.wh c b) e = true) : ∃ x ys p, e = .While x ys [] p ∧ mE C sc c x = true ∧ mSs C sc b ys = true := by
  unfold mS at h
  split at h <;> first | contradiction | skip
  rename_i q; cases q
  simp only [Bool.and_eq_true] at h
  exact ⟨_, _, _, rfl, h⟩
theorem mS_for {t : T} {it : I} {b : List S} (h : mS C sc (.for t it b) e = true) : ∃ tg x ys p, e = .For tg x ys [] p ∧ (mT C sc t tg = true ∧ mI C sc it x (isTup tg) = true) ∧ mSs C sc b ys = true := by
  unfold mS at h
  split at h <;> first | contradiction | skip
  rename_i q; cases q
  simp only [Bool.and_eq_true] at h
  exact ⟨_, _, _, _, rfl, h⟩
theorem mS_brk (h : mS C sc .brk e = true) : ∃ p, e = .Break p := by
  unfold mS at h
  split at h <;> first | contradiction | skip
  exact ⟨_, rfl⟩
theorem mS_cont (h : mS C sc .cont e = true) : ∃ p, e = .Continue p := by
  unfold mS at h
  split at h <;> first | contradiction | skip
  exact ⟨_, rfl⟩
theorem mS_pass (h : mS C sc .pass e = true) : ∃ p, e = .Pass p := by
  unfold mS at h
  split at h <;> first | contradiction | skip
  exact ⟨_, rfl⟩
theorem mS_frz {i : Nat} {s : S} (h : mS C sc (.frz i s) e = true) : mS C sc s e = true := by
  rw [mS] at h; exact h
end
/-! ### what becomes of the stores of an assignment -/
theorem blockKind_fn {env : PySem.Env} (h : env.scope.kind = .function) : env.blockKind = .function := by unfold PySem.Env.blockKind; rw [h]; rfl
theorem swap_lc {elt : Expr} {gs : List Comprehension} {scope : Scope} {pos py : Pos} {y : Str} {l : Nat} {env : PySem.Env} (hk : env.scope.kind = .function) :
    swapsWith (.ListComp elt gs scope pos) (some (.Name y py)) l env = pure (env.kindOf y == some .local && py.line == pos.line && !(scope.names.any fun (n, k) => n == y && (k == .local || k == .cell))) := by
  unfold swapsWith
  simp only [blockKind_fn hk, Expr.pos]
  rfl
theorem swap_plain {tg x : Expr} {l : Nat} {env : PySem.Env} (h : asgOk tg x = true) (hn : isLc x = false) : swapsWithSole [tg] x l env = pure false := by
  unfold swapsWithSole swapsWith
  cases x <;> first | rfl | (cases hn; done) | (unfold asgOk at h; cases h)
theorem swap_sub {o i x : Expr} {q : Pos} {l : Nat} {env : PySem.Env} (h : asgOk (.Name "" ⟨0, 0, 0, 0⟩) x = true) (hn : isLc x = false) : swapsWith x (some (.Subscript o i q)) l env = pure false := by
  unfold swapsWith
  cases x <;> first | rfl | (cases hn; done) | (unfold asgOk at h; cases h)
theorem stores_plain {tg x : Expr} {env : PySem.Env} (h : asgOk tg x = true) : swappedStores [tg] x env = pure none := by
  unfold swappedStores
  cases x <;> cases tg <;> first | rfl | (unfold asgOk at h; cases h)
theorem stores_par {x y : Str} {px py p1 p2 : Pos} {k1 k2 : Nat} {u v : Expr} {env : PySem.Env} (hk : env.scope.kind = .function) (hx : env.kindOf x = some .local) (hy : env.kindOf y = some .local) (hne : x ≠ y) (hl : px.line = py.line)
    (n1 : ∀ w p, u ≠ .Starred w p) (n2 : ∀ w p, v ≠ .Starred w p) (h1 : (foldedForSure 8 u && foldedForSure 8 v) = false) (h2 : (constantsAlone 8 u && constantsAlone 8 v) = false) :
    swappedStores [.Tuple [.Name x px, .Name y py] k1 p1] (.Tuple [u, v] k2 p2) env = pure (some [x, y]) := by
  have hs : ([u, v].any fun | .Starred .. => true | _ => false) = false := by
    have f : ∀ w : Expr, (∀ a p, w ≠ .Starred a p) → (match w with | .Starred .. => true | _ => false) = false := fun w hw => by
      cases w <;> first | rfl | exact absurd rfl (hw _ _)
    simp only [List.any_cons, List.any_nil, f u n1, f v n2, Bool.or_false]
  have hf : [u, v].all (foldedForSure 8) = false := by simpa using h1
  have hc : [u, v].all (constantsAlone 8) = false := by simpa using h2
  have hxy : (y == x) = false := by simpa using fun z => hne z.symm
  unfold swappedStores
  simp only [blockKind_fn hk, hs, hf, hc]
  simp [Expr.pos, hx, hy, hl, List.eraseDups, List.eraseDupsBy, List.eraseDupsBy.loop, hxy, hne]
end Py
end
section
set_option Elab.async false
set_option linter.all false
set_option maxRecDepth 100000
set_option maxHeartbeats 4000000
namespace Py
open PySem L2 RZ
/-! ### statements by data; F0, B0, ρ0: the entry -/
structure Gr (F : Hp) (ρ : List Addr) (F' : Hp) (ρ' : List Addr) : Prop where
  ff : Same F F'
  rr : ∀ (i : Nat) (a : Addr), ρ[i]? = some a → ρ'[i]? = some a
theorem Gr.refl {F : Hp} {ρ : List Addr} : Gr F ρ F ρ := ⟨Same.refl _, fun _ _ h => h⟩
theorem Gr.trans {F F' F'' : Hp} {ρ ρ' ρ'' : List Addr} (a : Gr F ρ F' ρ') (b : Gr F' ρ' F'' ρ'') : Gr F ρ F'' ρ'' := ⟨a.ff.trans b.ff, fun i x h => b.rr i x (a.rr i x h)⟩
theorem Ext.gr {F H F' H' : Hp} {ρ ρ' : List Addr} (e : Ext F H ρ F' H' ρ') : Gr F ρ F' ρ' := ⟨e.ff, e.rr⟩
def PostS (K : PySem.W.Frag) (F0 B0 : Hp) (ρ0 : List Addr) (F : Hp) (ρ : List Addr) (D : Ends) : Fl → Prop
  | .nx env' μ' => ∀ σ' F' H' ρ', SR K B0 F' H' ρ' σ' env' μ' → Ext F0 B0 ρ0 F' H' ρ' → Gr F ρ F' ρ' → D.nx σ' H'
  | .bk env' μ' => ∀ σ' F' H' ρ', SR K B0 F' H' ρ' σ' env' μ' → Ext F0 B0 ρ0 F' H' ρ' → Gr F ρ F' ρ' → D.bk σ' H'
  | .ct env' μ' => ∀ σ' F' H' ρ', SR K B0 F' H' ρ' σ' env' μ' → Ext F0 B0 ρ0 F' H' ρ' → Gr F ρ F' ρ' → D.ct σ' H'
  | .rt d μ' => ∀ v F' H' ρ', Ext F0 B0 ρ0 F' H' ρ' → Same F' H' → Cells K F' H' ρ' μ' → Dr K F' ρ' v d → D.rt v H'
def RS (K : PySem.W.Frag) (f : Env → Store → Option Fl) : TS := fun D σ H => ∃ F0 B0 ρ0 F ρ env μ r, SR K B0 F H ρ σ env μ ∧ Ext F0 B0 ρ0 F H ρ ∧ f env μ = some r ∧ PostS K F0 B0 ρ0 F ρ D r
theorem PostS.grow {K : PySem.W.Frag} {F0 B0 : Hp} {ρ0 : List Addr} {F F1 : Hp} {ρ ρ1 : List Addr} {D : Ends} {r : Fl} (q : PostS K F0 B0 ρ0 F ρ D r) (g : Gr F ρ F1 ρ1) : PostS K F0 B0 ρ0 F1 ρ1 D r := by
  cases r with
  | nx e m => exact fun σ' F' H' ρ' S E G => q σ' F' H' ρ' S E (g.trans G)
  | bk e m => exact fun σ' F' H' ρ' S E G => q σ' F' H' ρ' S E (g.trans G)
  | ct e m => exact fun σ' F' H' ρ' S E G => q σ' F' H' ρ' S E (g.trans G)
  | rt d m => exact q
def tS (K : PySem.W.Frag) (Φ : FnS) (Γ : GlS) (s : S) : TS := RS K (ex Φ Γ s)
def tSs (K : PySem.W.Frag) (Φ : FnS) (Γ : GlS) (s : List S) : TS := RS K (exs Φ Γ s)
theorem PS.imp {X : Cx} {e : Stmt} {t t' : TS} (h : PS X e t) (w : ∀ D σ H, t' D σ H → t D σ H) : PS X e t' := ⟨fun pins s σ H D I q => h.run pins s σ H D I (w D σ H q)⟩
theorem PSs.imp {X : Cx} {e : List Stmt} {t t' : TS} (h : PSs X e t) (w : ∀ D σ H, t' D σ H → t D σ H) : PSs X e t' := ⟨fun pins s σ H D I q => h.run pins s σ H D I (w D σ H q)⟩
section
variable {K : PySem.W.Frag} {B F H : Hp} {ρ : List Addr} {σ : L2.St} {env : Env} {μ : Store}
/-- an own list is written -/
theorem SR.own_write (S : SR K B F H ρ σ env μ) {i : Nat} {ds es : List D} {a : Addr} {ys : List V} (he : env[i]? = some (some (.own ds))) (hσ : σ[i]? = some (some (.ref a))) (hF : F a = none) (hρ : a ∉ ρ) (hB : B a = none) (r : DrL K F ρ ys es) :
    SR K B F (upd H a (.lst ys)) ρ σ (env.set i (some (.own es))) μ := by
  have hi : i < env.length := (List.getElem?_eq_some_iff.mp he).1
  have hcase : ∀ {j : Nat} {fs : List D}, (env.set i (some (.own es)))[j]? = some (some (.own fs)) → ∃ gs, env[j]? = some (some (.own gs)) := fun {j fs} h => by
    by_cases q : i = j
    · subst q; exact ⟨ds, he⟩
    · rw [List.getElem?_set_ne q] at h; exact ⟨fs, h⟩
  refine ⟨fun b u h => ?_, ⟨S.cells.len, S.cells.nd, fun j b fs h1 h2 => ?_⟩, ⟨by rw [List.length_set]; exact S.env.len, fun j sv h => ?_, fun j l fs gs b h1 h2 h3 h4 => ?_, fun j l fs gs b h1 h2 h3 h4 => ?_⟩⟩
  · rw [upd_ne (ne_of_none h hF)]; exact S.fh b u h
  · obtain ⟨z1, zs, z2, z3⟩ := S.cells.at_ j b fs h1 h2
    exact ⟨z1, zs, by rw [upd_ne (fun z => hρ (by rw [← z]; exact List.mem_of_getElem? h1))]; exact z2, z3⟩
  · by_cases q : i = j
    · subst q
      rw [List.getElem?_set_self hi] at h
      cases h
      exact ⟨_, hσ, a, ys, rfl, upd_same, r, hF, hρ, hB⟩
    · rw [List.getElem?_set_ne q] at h
      obtain ⟨w, h1, h2⟩ := S.env.at_ j sv h
      refine ⟨w, h1, ?_⟩
      cases sv with
      | val d => exact h2
      | own fs =>
        obtain ⟨b, zs, rfl, k2, k3, k4, k5, k6⟩ := h2
        have nb : b ≠ a := fun z => q (S.env.apart i j ds fs a he h hσ (by rw [← z]; exact h1))
        exact ⟨b, zs, rfl, by rw [upd_ne nb]; exact k2, k3, k4, k5, k6⟩
      | dct fs =>
        obtain ⟨b, nes, P, w, rfl, k2, k3, k4, k5, k6⟩ := h2
        have nb : b ≠ a := fun z => by
          obtain ⟨v, j1, al, ws, e1, j2, _⟩ := S.env.at_ _ _ he
          rw [hσ] at j1
          cases j1
          cases e1
          rw [z, j2] at k2; cases k2
        exact ⟨b, nes, P, w, rfl, by rw [upd_ne nb]; exact k2, k3, k4, k5, k6⟩
  · obtain ⟨fs', g1⟩ := hcase h1
    obtain ⟨gs', g2⟩ := hcase h2
    exact S.env.apart j l fs' gs' b g1 g2 h3 h4
  · have ne : ∀ {j : Nat} {fs : List (NestedKey × D)}, (env.set i (some (.own es)))[j]? = some (some (.dct fs)) → i ≠ j := fun {j fs} h q => by
      subst q
      rw [List.getElem?_set_self hi] at h; cases h
    rw [List.getElem?_set_ne (ne h1)] at h1
    rw [List.getElem?_set_ne (ne h2)] at h2
    exact S.env.apd j l fs gs b h1 h2 h3 h4
/-- a new own list at a slot -/
theorem SR.own_new (S : SR K B F H ρ σ env μ) {i : Nat} {es : List D} {a : Addr} {ys : List V} (hi : i < env.length) (hH : H a = some (.lst ys)) (hF : F a = none) (hρ : a ∉ ρ) (hB : B a = none) (hn : ∀ (j : Nat) (fs : List D), env[j]? = some (some (.own fs)) → σ[j]? ≠ some (some (.ref a))) (r : DrL K F ρ ys es) :
    SR K B F H ρ (σ.set i (some (.ref a))) (env.set i (some (.own es))) μ := by
  have hl : i < σ.length := by rw [S.env.len]; exact hi
  refine ⟨S.fh, S.cells, ⟨by rw [List.length_set, List.length_set]; exact S.env.len, fun j sv h => ?_, fun j l fs gs b h1 h2 h3 h4 => ?_, fun j l fs gs b h1 h2 h3 h4 => ?_⟩⟩
  · by_cases q : i = j
    · subst q
      rw [List.getElem?_set_self hi] at h
      cases h
      exact ⟨_, List.getElem?_set_self hl, a, ys, rfl, hH, r, hF, hρ, hB⟩
    · rw [List.getElem?_set_ne q] at h
      obtain ⟨w, h1, h2⟩ := S.env.at_ j sv h
      exact ⟨w, by rw [List.getElem?_set_ne q]; exact h1, h2⟩
  · by_cases q1 : i = j
    · by_cases q2 : i = l
      · exact q1.symm.trans q2
      · subst q1
        rw [List.getElem?_set_self hl] at h3
        cases h3
        rw [List.getElem?_set_ne q2] at h2 h4
        exact absurd h4 (hn l gs h2)
    · by_cases q2 : i = l
      · subst q2
        rw [List.getElem?_set_self hl] at h4
        cases h4
        rw [List.getElem?_set_ne q1] at h1 h3
        exact absurd h3 (hn j fs h1)
      · rw [List.getElem?_set_ne q1] at h1 h3
        rw [List.getElem?_set_ne q2] at h2 h4
        exact S.env.apart j l fs gs b h1 h2 h3 h4
  · have ne : ∀ {j : Nat} {fs : List (NestedKey × D)}, (env.set i (some (.own es)))[j]? = some (some (.dct fs)) → i ≠ j := fun {j fs} h q => by
      subst q
      rw [List.getElem?_set_self hi] at h; cases h
    have n1 := ne h1
    have n2 := ne h2
    rw [List.getElem?_set_ne n1] at h1 h3
    rw [List.getElem?_set_ne n2] at h2 h4
    exact S.env.apd j l fs gs b h1 h2 h3 h4
/-- a new dict at a slot -/
theorem SR.dct_new (S : SR K B F H ρ σ env μ) {i : Nat} {P : Program} {w : World} {a : Addr} (hi : i < env.length) (hH : H a = some (dnO P w a [])) (hF : F a = none) (hρ : a ∉ ρ) (hB : B a = none) (hn : ∀ (j : Nat) (fs : List (NestedKey × D)), env[j]? = some (some (.dct fs)) → σ[j]? ≠ some (some (.ref a))) :
    SR K B F H ρ (σ.set i (some (.ref a))) (env.set i (some (.dct []))) μ := by
  have hl : i < σ.length := by rw [S.env.len]; exact hi
  refine ⟨S.fh, S.cells, ⟨by rw [List.length_set, List.length_set]; exact S.env.len, fun j sv h => ?_, fun j l fs gs b h1 h2 h3 h4 => ?_, fun j l fs gs b h1 h2 h3 h4 => ?_⟩⟩
  · by_cases q : i = j
    · subst q
      rw [List.getElem?_set_self hi] at h
      cases h
      exact ⟨_, List.getElem?_set_self hl, a, [], P, w, rfl, hH, .nil, hF, hρ, hB⟩
    · rw [List.getElem?_set_ne q] at h
      obtain ⟨w', h1, h2⟩ := S.env.at_ j sv h
      exact ⟨w', by rw [List.getElem?_set_ne q]; exact h1, h2⟩
  · have ne : ∀ {j : Nat} {fs : List D}, (env.set i (some (.dct [])))[j]? = some (some (.own fs)) → i ≠ j := fun {j fs} h q => by
      subst q
      rw [List.getElem?_set_self hi] at h; cases h
    have n1 := ne h1
    have n2 := ne h2
    rw [List.getElem?_set_ne n1] at h1 h3
    rw [List.getElem?_set_ne n2] at h2 h4
    exact S.env.apart j l fs gs b h1 h2 h3 h4
  · by_cases q1 : i = j
    · by_cases q2 : i = l
      · exact q1.symm.trans q2
      · subst q1
        rw [List.getElem?_set_self hl] at h3
        cases h3
        rw [List.getElem?_set_ne q2] at h2 h4
        exact absurd h4 (hn l gs h2)
    · by_cases q2 : i = l
      · subst q2
        rw [List.getElem?_set_self hl] at h4
        cases h4
        rw [List.getElem?_set_ne q1] at h1 h3
        exact absurd h3 (hn j fs h1)
      · rw [List.getElem?_set_ne q1] at h1 h3
        rw [List.getElem?_set_ne q2] at h2 h4
        exact S.env.apd j l fs gs b h1 h2 h3 h4
/-- a dict is written -/
theorem SR.dct_write (S : SR K B F H ρ σ env μ) {i : Nat} {ds es : List (NestedKey × D)} {a : Addr} {nes nes' : List NE} {P : Program} {w : World} (he : env[i]? = some (some (.dct ds))) (hσ : σ[i]? = some (some (.ref a))) (hH : H a = some (dnO P w a nes)) (hF : F a = none) (hρ : a ∉ ρ) (hB : B a = none) (r : KD K F ρ nes' es) :
    SR K B F (upd H a (dnO P w a nes')) ρ σ (env.set i (some (.dct es))) μ := by
  have hi : i < env.length := (List.getElem?_eq_some_iff.mp he).1
  have hcase : ∀ {j : Nat} {fs : List (NestedKey × D)}, (env.set i (some (.dct es)))[j]? = some (some (.dct fs)) → ∃ gs, env[j]? = some (some (.dct gs)) := fun {j fs} h => by
    by_cases q : i = j
    · subst q; exact ⟨ds, he⟩
    · rw [List.getElem?_set_ne q] at h; exact ⟨fs, h⟩
  refine ⟨fun b u h => ?_, ⟨S.cells.len, S.cells.nd, fun j b fs h1 h2 => ?_⟩, ⟨by rw [List.length_set]; exact S.env.len, fun j sv h => ?_, fun j l fs gs b h1 h2 h3 h4 => ?_, fun j l fs gs b h1 h2 h3 h4 => ?_⟩⟩
  · rw [upd_ne (ne_of_none h hF)]; exact S.fh b u h
  · obtain ⟨z1, zs, z2, z3⟩ := S.cells.at_ j b fs h1 h2
    exact ⟨z1, zs, by rw [upd_ne (fun z => hρ (by rw [← z]; exact List.mem_of_getElem? h1))]; exact z2, z3⟩
  · by_cases q : i = j
    · subst q
      rw [List.getElem?_set_self hi] at h
      cases h
      exact ⟨_, hσ, a, nes', P, w, rfl, upd_same, r, hF, hρ, hB⟩
    · rw [List.getElem?_set_ne q] at h
      obtain ⟨w', h1, h2⟩ := S.env.at_ j sv h
      refine ⟨w', h1, ?_⟩
      cases sv with
      | val d => exact h2
      | own fs =>
        obtain ⟨b, zs, rfl, k2, k3, k4, k5, k6⟩ := h2
        have nb : b ≠ a := fun z => by rw [z, hH] at k2; cases k2
        exact ⟨b, zs, rfl, by rw [upd_ne nb]; exact k2, k3, k4, k5, k6⟩
      | dct fs =>
        obtain ⟨b, ms, P', w2, rfl, k2, k3, k4, k5, k6⟩ := h2
        have nb : b ≠ a := fun z => q (S.env.apd i j ds fs a he h hσ (by rw [← z]; exact h1))
        exact ⟨b, ms, P', w2, rfl, by rw [upd_ne nb]; exact k2, k3, k4, k5, k6⟩
  · have ne : ∀ {j : Nat} {fs : List D}, (env.set i (some (.dct es)))[j]? = some (some (.own fs)) → i ≠ j := fun {j fs} h q => by
      subst q
      rw [List.getElem?_set_self hi] at h; cases h
    rw [List.getElem?_set_ne (ne h1)] at h1
    rw [List.getElem?_set_ne (ne h2)] at h2
    exact S.env.apart j l fs gs b h1 h2 h3 h4
  · obtain ⟨fs', g1⟩ := hcase h1
    obtain ⟨gs', g2⟩ := hcase h2
    exact S.env.apd j l fs' gs' b g1 g2 h3 h4
/-- an own list is frozen -/
theorem SR.freeze {F0 : Hp} {ρ0 : List Addr} (S : SR K B F H ρ σ env μ) (E : Ext F0 B ρ0 F H ρ) {i : Nat} {ds : List D} (h : getO env i = some ds) : ∃ F1, SR K B F1 H ρ σ (env.set i (some (.val (.lst ds)))) μ ∧ Ext F0 B ρ0 F1 H ρ ∧ Gr F ρ F1 ρ := by
  have he := getO_eq h
  obtain ⟨v, h1, a, xs, rfl, h2, h3, h4, h5, h6⟩ := S.env.at_ _ _ he
  have hi : i < env.length := (List.getElem?_eq_some_iff.mp he).1
  obtain ⟨w1, w2, w3⟩ := frz_ok E S.fh S.cells h6 h2 h4 h5
  refine ⟨upd F a (.lst xs), ⟨w2, w3, ⟨by rw [List.length_set]; exact S.env.len, fun j sv g => ?_, fun j l es fs b g1 g2 g3 g4 => ?_, fun j l es fs b g1 g2 g3 g4 => ?_⟩⟩, w1, ⟨same_upd' h4, fun _ _ h => h⟩⟩
  · by_cases q : i = j
    · subst q
      rw [List.getElem?_set_self hi] at g
      cases g
      exact ⟨_, h1, .lst upd_same (DrL.mono (same_upd' h4) (fun _ _ h => h) _ _ h3)⟩
    · rw [List.getElem?_set_ne q] at g
      obtain ⟨w, w1, w2⟩ := S.env.at_ j sv g
      refine ⟨w, w1, ?_⟩
      cases sv with
      | val d => exact Dr.mono (same_upd' h4) (fun _ _ h => h) _ _ w2
      | own es =>
        obtain ⟨b, ys, rfl, k2, k3, k4, k5, k6⟩ := w2
        have nb : b ≠ a := fun z => q (S.env.apart i j ds es a he g h1 (by rw [← z]; exact w1))
        exact ⟨b, ys, rfl, k2, DrL.mono (same_upd' h4) (fun _ _ h => h) _ _ k3, by rw [upd_ne nb]; exact k4, k5, k6⟩
      | dct es =>
        obtain ⟨b, nes, P, w', rfl, k2, k3, k4, k5, k6⟩ := w2
        have nb : b ≠ a := fun z => by rw [z, h2] at k2; cases k2
        exact ⟨b, nes, P, w', rfl, k2, KD.mono (same_upd' h4) (fun _ _ h => h) k3, by rw [upd_ne nb]; exact k4, k5, k6⟩
  · have own_ne : ∀ {j : Nat} {es : List D}, (env.set i (some (.val (.lst ds))))[j]? = some (some (.own es)) → i ≠ j := fun {j es} h q => by
      subst q
      rw [List.getElem?_set_self hi] at h; cases h
    rw [List.getElem?_set_ne (own_ne g1)] at g1
    rw [List.getElem?_set_ne (own_ne g2)] at g2
    exact S.env.apart j l es fs b g1 g2 g3 g4
  · have own_ne : ∀ {j : Nat} {es : List (NestedKey × D)}, (env.set i (some (.val (.lst ds))))[j]? = some (some (.dct es)) → i ≠ j := fun {j es} h q => by
      subst q
      rw [List.getElem?_set_self hi] at h; cases h
    rw [List.getElem?_set_ne (own_ne g1)] at g1
    rw [List.getElem?_set_ne (own_ne g2)] at g2
    exact S.env.apd j l es fs b g1 g2 g3 g4
/-- a living list is written -/
theorem SR.cell_write {F0 : Hp} {ρ0 : List Addr} (S : SR K B F H ρ σ env μ) (E : Ext F0 B ρ0 F H ρ) {c : Nat} {a : Addr} {ds es : List D} {ys : List V} (hρ : ρ[c]? = some a) (hμ : μ[c]? = some ds) (r : DrL K F ρ ys es) :
    SR K B F (upd H a (.lst ys)) ρ σ env (μ.set c es) ∧ Ext F0 B ρ0 F (upd H a (.lst ys)) ρ := by
  obtain ⟨fa, zs, ha, _⟩ := S.cells.at_ c a ds hρ hμ
  have hc : c < μ.length := (List.getElem?_eq_some_iff.mp hμ).1
  have ma : a ∈ ρ := List.mem_of_getElem? hρ
  refine ⟨⟨fun b u h => ?_, ⟨by rw [List.length_set]; exact S.cells.len, S.cells.nd, fun j b fs h1 h2 => ?_⟩, ⟨S.env.len, fun j sv h => ?_, S.env.apart, S.env.apd⟩⟩, ⟨E.ff, fun b u h n => ?_, fun b h => ?_, E.new, E.rr, E.rn⟩⟩
  · rw [upd_ne (ne_of_none h fa)]; exact S.fh b u h
  · by_cases q : c = j
    · subst q
      rw [List.getElem?_set_self hc] at h2
      cases h2
      rw [hρ] at h1
      cases h1
      exact ⟨fa, ys, upd_same, r⟩
    · rw [List.getElem?_set_ne q] at h2
      obtain ⟨z1, ws, z2, z3⟩ := S.cells.at_ j b fs h1 h2
      exact ⟨z1, ws, by rw [upd_ne (fun z => q (S.cells.nd c j a hρ (by rw [← z]; exact h1)))]; exact z2, z3⟩
  · obtain ⟨w, h1, h2⟩ := S.env.at_ j sv h
    refine ⟨w, h1, ?_⟩
    cases sv with
    | val d => exact h2
    | own fs =>
      obtain ⟨b, ws, rfl, k2, k3, k4, k5, k6⟩ := h2
      exact ⟨b, ws, rfl, by rw [upd_ne (fun z => k5 (by rw [z]; exact ma))]; exact k2, k3, k4, k5, k6⟩
    | dct fs =>
      obtain ⟨b, nes, P, w', rfl, k2, k3, k4, k5, k6⟩ := h2
      exact ⟨b, nes, P, w', rfl, by rw [upd_ne (fun z => k5 (by rw [z]; exact ma))]; exact k2, k3, k4, k5, k6⟩
  · have nb : b ≠ a := fun z => by
      subst z
      rcases E.rn b ma with z | z
      · exact n z
      · rw [z] at h; cases h
    rw [upd_ne nb]; exact E.hh b u h n
  · by_cases q : b = a
    · subst q; rw [upd_same]; exact fun z => nomatch z
    · rw [upd_ne q]; exact E.dm b h
end
/-! ### loops -/
theorem whN_mono {c : Env → Store → Option (Bool × Store)} {b : Env → Store → Option Fl} : ∀ {n : Nat} {env : Env} {μ : Store} {r : Fl}, whN c b n env μ = some r → whN c b (n + 1) env μ = some r
  | 0, _, _, _, h => by rw [whN] at h; cases h
  | n + 1, env, μ, r, h => by
    rw [whN] at h ⊢
    obtain ⟨⟨k, μ1⟩, h1, h2⟩ := Option.bind_eq_some_iff.mp h
    rw [h1]
    dsimp only [Option.bind_some] at h2 ⊢
    cases k with
    | false => exact h2
    | true =>
      rw [if_pos rfl] at h2 ⊢
      obtain ⟨fl, h3, h4⟩ := Option.bind_eq_some_iff.mp h2
      rw [h3]
      dsimp only [Option.bind_some] at h4 ⊢
      cases fl with
      | nx e m => exact whN_mono h4
      | ct e m => exact whN_mono h4
      | bk e m => exact h4
      | rt d m => exact h4
theorem whN_le {c : Env → Store → Option (Bool × Store)} {b : Env → Store → Option Fl} {n m : Nat} {env : Env} {μ : Store} {r : Fl} (h : whN c b n env μ = some r) (hm : n ≤ m) : whN c b m env μ = some r := by
  induction hm with
  | refl => exact h
  | step _ ih => exact whN_mono ih
theorem whS_some {c : Env → Store → Option (Bool × Store)} {b : Env → Store → Option Fl} {env : Env} {μ : Store} {r : Fl} : whS c b env μ = some r ↔ ∃ n, whN c b n env μ = some r := by
  unfold whS
  constructor
  · intro h
    split at h
    · rename_i q
      cases h
      exact ⟨_, Classical.choose_spec (Classical.choose_spec q)⟩
    · cases h
  · rintro ⟨n, h⟩
    have q : ∃ n r, whN c b n env μ = some r := ⟨n, r, h⟩
    rw [dif_pos q]
    have h2 := Classical.choose_spec (Classical.choose_spec q)
    have a := whN_le h2 (Nat.le_max_left _ n)
    have b' := whN_le h (Nat.le_max_right (Classical.choose q) n)
    rw [a] at b'
    exact b'
end Py
end
section
set_option Elab.async false
set_option linter.all false
set_option maxRecDepth 100000
set_option maxHeartbeats 4000000
namespace Py
open PySem L2 RZ
section
variable {C : MC} {Φ : FnS} {Γ : GlS} {k : Nat} {X : Cx} {sc : Scope}
theorem cells_ne {K : PySem.W.Frag} {F H : Hp} {ρ : List Addr} {μ : Store} (c : Cells K F H ρ μ) {a : Addr} (h : H a = none) : a ∉ ρ := fun z => by
  obtain ⟨i, hi, e⟩ := List.getElem_of_mem z
  have hi' := hi
  rw [c.len] at hi'
  obtain ⟨_, ys, z2, _⟩ := c.at_ i a _ (by rw [List.getElem?_eq_getElem hi, e]) (List.getElem?_eq_getElem hi')
  rw [h] at z2; cases z2
/-- new lists -/
def newF (Φ : FnS) (Γ : GlS) : E → Env → Store → Option (List D × Store)
  | .lst es, env, μ => (evs Φ Γ es env μ).bind fun (ds, μ1) => if ds.length ≤ SZ then some (ds, μ1) else none
  | .lc a t it c vs, env, μ => lcF Φ Γ a t it c vs env μ
  | .bi .list e es, env, μ => (ev Φ Γ e env μ).bind fun (x, μ1) => (evs Φ Γ es env μ1).bind fun (xs, μ2) => match xs with
    | [] => (itsS μ2 x).map fun ds => (ds, μ2)
    | _ => none
  | .ite c (.lst es) (.lst es'), env, μ => (evT Φ Γ c env μ).bind fun (k, μ1) => (evs Φ Γ (if k then es else es') env μ1).bind fun (ds, μ2) => if ds.length ≤ SZ then some (ds, μ2) else none
  | _, _, _ => none
theorem newF_ok {e : E} (hn : isNew e = true) {env : Env} {μ : Store} {r : D × Store} (h : ev Φ Γ e env μ = some r) : ∃ ds, r.1 = .lst ds ∧ newF Φ Γ e env μ = some (ds, r.2) := by
  cases e with
  | lst es =>
    rw [ev] at h
    obtain ⟨⟨ds, μ1⟩, h1, h2⟩ := Option.bind_eq_some_iff.mp h
    dsimp only at h2
    split at h2
    case isFalse => cases h2
    rename_i hz
    cases h2
    exact ⟨ds, rfl, by rw [newF, h1]; dsimp only [Option.bind_some]; rw [if_pos hz]⟩
  | lc a t it c vs =>
    rw [ev] at h
    obtain ⟨⟨ds, μ1⟩, h1, h2⟩ := Option.bind_eq_some_iff.mp h
    dsimp only at h2
    split at h2
    case isFalse => cases h2
    rename_i hz
    obtain ⟨⟨xs, μe⟩, h3, h4⟩ := Option.map_eq_some_iff.mp h2
    cases h4
    refine ⟨xs, rfl, ?_⟩
    rw [newF]
    unfold lcF
    rw [h1]
    dsimp only [Option.bind_some]
    rw [if_pos hz]
    exact h3
  | bi b e es =>
    cases b with
    | list =>
      rw [ev] at h
      obtain ⟨⟨x, μ1⟩, h1, h2⟩ := Option.bind_eq_some_iff.mp h
      obtain ⟨⟨xs, μ2⟩, h3, h4⟩ := Option.bind_eq_some_iff.mp h2
      obtain ⟨d, h5, h6⟩ := Option.map_eq_some_iff.mp h4
      cases h6
      cases xs with
      | nil =>
        unfold biS at h5
        obtain ⟨ds, h7, h8⟩ := Option.map_eq_some_iff.mp h5
        cases h8
        refine ⟨ds, rfl, ?_⟩
        rw [newF, h1]
        dsimp only [Option.bind_some]
        rw [h3]
        dsimp only [Option.bind_some]
        rw [h7]
        rfl
      | cons y ys => unfold biS at h5; cases h5
    | _ => cases hn
  | ite c a b =>
    cases a with
    | lst es =>
      cases b with
      | lst es' =>
        rw [ev] at h
        obtain ⟨⟨kk, μ1⟩, h1, h2⟩ := Option.bind_eq_some_iff.mp h
        dsimp only at h2
        cases kk with
        | true =>
          rw [if_pos rfl, ev] at h2
          obtain ⟨⟨ds, μ2⟩, h3, h4⟩ := Option.bind_eq_some_iff.mp h2
          dsimp only at h4
          split at h4
          case isFalse => cases h4
          rename_i hz
          cases h4
          exact ⟨ds, rfl, by rw [newF, h1]; dsimp only [Option.bind_some]; rw [if_pos rfl, h3]; dsimp only [Option.bind_some]; rw [if_pos hz]⟩
        | false =>
          rw [if_neg Bool.false_ne_true, ev] at h2
          obtain ⟨⟨ds, μ2⟩, h3, h4⟩ := Option.bind_eq_some_iff.mp h2
          dsimp only at h4
          split at h4
          case isFalse => cases h4
          rename_i hz
          cases h4
          exact ⟨ds, rfl, by rw [newF, h1]; dsimp only [Option.bind_some]; rw [if_neg Bool.false_ne_true, h3]; dsimp only [Option.bind_some]; rw [if_pos hz]⟩
      | _ => cases hn
    | _ => cases hn
  | _ => cases hn
theorem peN_lst (es : Es) (e : Expr) (G : CG C Φ Γ k X sc) (h : mE C sc (.lst es) e = true) : PE X e (tN X.K (newF Φ Γ (.lst es))) := by
  obtain ⟨xs, p, rfl, h1⟩ := mE_lst h
  refine PE.imp (pe_lst (paEs es X sc xs G h1)) fun σ H Q q => ?_
  obtain ⟨B, F, ρ, env, μ, ds, μ', S, he, q⟩ := q
  rw [newF] at he
  obtain ⟨⟨ds', μ1⟩, h1, h2⟩ := Option.bind_eq_some_iff.mp he
  dsimp only at h2
  split at h2
  case isFalse => cases h2
  rename_i hz
  cases h2
  refine RE.go S h1 fun v F1 H1 ρ1 e1 S1 r1 => ⟨by rw [sz, r1.length]; exact hz, fun p hp => ?_⟩
  have fp := S1.fh.free hp
  have np := cells_ne S1.cells hp
  have hH : H p = none := by
    by_cases z : H p = none
    · exact z
    · exact absurd hp (e1.dm p z)
  obtain ⟨w1, w2, w3⟩ := write_ok (o := .lst v) e1 S1.fh S1.cells hH fp np
  exact q p F1 _ ρ1 v w1 w2 w3 upd_same hH fp np r1
theorem peN (m : E) (e : Expr) (G : CG C Φ Γ k X sc) (h : mE C sc m e = true) (hn : isNew m = true) : PE X e (tN X.K (newF Φ Γ m)) := by
  cases m with
  | lst es => exact peN_lst es e G h
  | ite c a b =>
    cases a with
    | lst es =>
      cases b with
      | lst es' =>
        obtain ⟨z, x, y, p, rfl, ⟨h1, h2⟩, h3⟩ := mE_ite h
        refine PE.imp (pe_ifExp (ptE c X sc z G h1) (peN_lst es x G h2) (peN_lst es' y G h3)) fun σ H Q q => ?_
        obtain ⟨B, F, ρ, env, μ, ds, μ', S, he, q⟩ := q
        rw [newF] at he
        obtain ⟨⟨kk, μ1⟩, g1, g2⟩ := Option.bind_eq_some_iff.mp he
        refine RE.go S g1 fun v F1 H1 ρ1 e1 S1 r1 => ?_
        cases r1
        cases kk with
        | true => exact iteT ⟨B, F1, ρ1, env, μ1, ds, μ', S1, by rw [newF]; exact g2, fun p F' H' ρ' xs e2 s2 c2 u1 u2 => q p F' H' ρ' xs (e1.trans e2) s2 c2 u1 (Classical.byContradiction fun z => absurd u2 (e1.dm _ z))⟩
        | false => exact iteF ⟨B, F1, ρ1, env, μ1, ds, μ', S1, by rw [newF]; exact g2, fun p F' H' ρ' xs e2 s2 c2 u1 u2 => q p F' H' ρ' xs (e1.trans e2) s2 c2 u1 (Classical.byContradiction fun z => absurd u2 (e1.dm _ z))⟩
      | _ => cases hn
    | _ => cases hn
  | lc a t it c vs =>
    obtain ⟨x, tg, iter, ifs, n, scope, p, rfl, ⟨⟨⟨⟨⟨rfl, h1⟩, h2⟩, h3⟩, h4⟩, h5⟩, h6⟩ := mE_lc h
    refine PE.imp (s_lc G h1 (fun j hj => by have := List.all_eq_true.mp h2 j hj; simpa using this) (folded_of (mI_noset h3)) (piI it X sc iter tg G h3)
      (fun s H Cc cl fp => pgT (G.blk (blk_kind h1) s H Cc cl fp) t tg h4) (fun s H Cc cl fp => pcEo c _ scope ifs (G.blk (blk_kind h1) s H Cc cl fp) h5) (fun s H Cc cl fp => peE a _ scope x (G.blk (blk_kind h1) s H Cc cl fp) h6)).1.2 fun σ H Q q => ?_
    obtain ⟨B, F, ρ, env, μ, ds, μ', S, he, q⟩ := q
    rw [newF] at he
    exact ⟨B, F, ρ, env, μ, ds, μ', S, he, q⟩
  | bi b a es =>
    cases b with
    | list =>
      obtain ⟨x, p2, y, ys, p, rfl, ⟨⟨rfl, h2⟩, h4⟩, h5⟩ := mE_bi h
      have ha := pa_two (peE a X sc y G h4) (mE_nostar h4).1 (paEs es X sc ys G h5)
      refine PE.imp (pe_bi .list (by have := G.room.un; omega) G.calm (G.gl h2) (G.bi (by decide +kernel)) ha (mE_nostar h4).1 (spliced_plain (mEs_nostar h5))) fun σ H Q q => ?_
      obtain ⟨B, F, ρ, env, μ, ds, μ', S, he, q⟩ := q
      rw [newF] at he
      obtain ⟨⟨dx, μ1⟩, g1, g2⟩ := Option.bind_eq_some_iff.mp he
      obtain ⟨⟨dl, μ2⟩, g3, g4⟩ := Option.bind_eq_some_iff.mp g2
      dsimp only at g4
      split at g4
      case h_2 => cases g4
      obtain ⟨es', g5, g6⟩ := Option.map_eq_some_iff.mp g4
      cases g6
      have g7 : evs Φ Γ (.cons a es) env μ = some ([dx], μ') := by
        rw [evs, g1]
        show Option.map _ (evs Φ Γ es env μ1) = _
        rw [g3]
        rfl
      refine RE.go S g7 fun v F1 H1 ρ1 e1 S1 r1 => ?_
      obtain ⟨w, rfl, rw1⟩ := DrL.one r1
      obtain ⟨a', ws, rfl, k3, k4, _⟩ := itsS_ok S1.fh S1.cells rw1 g5
      refine ⟨a', ws, rfl, k3, fun p hp => ?_⟩
      have fp := S1.fh.free hp
      have np := cells_ne S1.cells hp
      have hH : H p = none := by
        by_cases z : H p = none
        · exact z
        · exact absurd hp (e1.dm p z)
      obtain ⟨w1, w2, w3⟩ := write_ok (o := .lst ws) e1 S1.fh S1.cells hH fp np
      exact q p F1 _ ρ1 ws w1 w2 w3 upd_same hH fp np k4
    | _ => cases hn
  | _ => cases hn
/-! ### assignments -/
theorem s_asgLc {i : Nat} {a : E} {t : T} {it : I} {c : Eo} {vs : List Nat} {y : Str} {py p : Pos} {e : Expr} (G : CG C Φ Γ k X sc) (hi : C.N[i]? = some y) (hl : locB sc y = true) (h : mE C sc (.lc a t it c vs) e = true) :
    PS X (.Assign [.Name y py] e p) (tAsg (tN X.K (lcF Φ Γ a t it c vs)) (gName i)) := by
  obtain ⟨x, tg, iter, ifs, n, scope, cp, rfl, ⟨⟨⟨⟨⟨rfl, h1⟩, h2⟩, h3⟩, h4⟩, h5⟩, h6⟩ := mE_lc h
  have hs := folded_of (env := X.env) (mI_noset h3)
  have w1 := piI it X sc iter tg G h3
  have w2 := fun s H Cc cl fp => pgT (G.blk (blk_kind h1) s H Cc cl fp) t tg h4
  have w3 := fun s H Cc cl fp => pcEo c _ scope ifs (G.blk (blk_kind h1) s H Cc cl fp) h5
  have w4 := fun s H Cc cl fp => peE a _ scope x (G.blk (blk_kind h1) s H Cc cl fp) h6
  have L := s_lc (p := cp) G h1 (fun j hj => by have := List.all_eq_true.mp h2 j hj; simpa using this) hs w1 w2 w3 w4
  have e1 := swap_lc (elt := x) (gs := [⟨tg, iter, ifs, 0⟩]) (scope := scope) (pos := cp) (py := py) (y := y) (l := p.line) (env := X.env) G.kind
  obtain ⟨l1, l2⟩ := G.locv hl
  generalize hb : (X.env.kindOf y == some .local && py.line == cp.line && !(scope.names.any fun (n, k) => n == y && (k == .local || k == .cell))) = b at e1
  cases b with
  | true =>
    simp only [Bool.and_eq_true] at hb
    have hloc : X.env.scope.names.lookup y = some .local := (by simpa using hb.1.1 : X.env.kindOf y = some .local)
    exact PS.imp (ps_setLc G.calm G.nd (by rw [G.hN]; exact hi) hloc e1 w1 (G.blkOk h1) w2 w3 w4 hs) fun D σ H q => L.2.2 σ H _ q
  | false => exact ps_set G.nd (by rw [G.hN]; exact hi) l1 L.1.2 e1 l2
theorem lc_or (x : Expr) : (∃ elt gs scope pos, x = .ListComp elt gs scope pos) ∨ isLc x = false := by
  cases x <;> first | exact .inl ⟨_, _, _, _, rfl⟩ | exact .inr rfl
theorem mE_lc_form {m : E} {elt : Expr} {gs : List Comprehension} {scope : Scope} {pos : Pos} (h : mE C sc m (.ListComp elt gs scope pos) = true) : (∃ a t it c vs, m = .lc a t it c vs) ∨ ∃ i m', m = .bor i m' := by
  cases m <;> first | exact .inl ⟨_, _, _, _, _, rfl⟩ | exact .inr ⟨_, _, rfl⟩ | (exfalso; rw [mE] at h <;> first | cases h | (intros; contradiction))
/-- name = value, whatever its form -/
theorem s_asgName {i : Nat} {a : E} {y : Str} {py p : Pos} {x : Expr} (G : CG C Φ Γ k X sc) (hi : C.N[i]? = some y) (hl : locB sc y = true) (ha : mE C sc a x = true) (hk : asgOk (.Name y py) x = true) :
    PS X (.Assign [.Name y py] x p) (tAsg (tE X.K Φ Γ a) (gName i)) := by
  obtain ⟨l1, l2⟩ := G.locv hl
  rcases lc_or x with ⟨elt, gs, scope, pos, rfl⟩ | hx
  · rcases mE_lc_form ha with ⟨b, t, it, c, vs, rfl⟩ | ⟨j, m', rfl⟩
    · obtain ⟨x, tg, iter, ifs, n, scope', cp, e0, ⟨⟨⟨⟨⟨rfl, h1⟩, h2⟩, h3⟩, h4⟩, h5⟩, h6⟩ := mE_lc ha
      cases e0
      have L := s_lc (p := pos) G h1 (fun j hj => by have := List.all_eq_true.mp h2 j hj; simpa using this) (folded_of (mI_noset h3)) (piI it X sc iter tg G h3)
        (fun s H Cc cl fp => pgT (G.blk (blk_kind h1) s H Cc cl fp) t tg h4) (fun s H Cc cl fp => pcEo c _ scope ifs (G.blk (blk_kind h1) s H Cc cl fp) h5) (fun s H Cc cl fp => peE b _ scope elt (G.blk (blk_kind h1) s H Cc cl fp) h6)
      exact PS.imp (s_asgLc G hi hl ha) fun D σ H q => L.2.1 σ H _ q
    · -- a lent list's comprehension hands back a list: never flat
      refine ⟨fun pins s σ H D I q => ?_⟩
      exfalso
      obtain ⟨B, F, ρ, env, μ, d, μ', S, he, q⟩ := q
      have ha' := mE_bor ha
      rw [ev] at he
      obtain ⟨ds, h1, h2⟩ := Option.bind_eq_some_iff.mp he
      obtain ⟨⟨d', μ1⟩, h3, h4⟩ := Option.bind_eq_some_iff.mp h2
      dsimp only at h4
      split at h4
      case isFalse => cases h4
      rename_i hf
      rw [Bool.and_eq_true] at hf
      have key : ∀ (m : E), mE C sc m (.ListComp elt gs scope pos) = true → ∀ env μ r, ev Φ Γ m env μ = some r → noL r.1 = true → False := by
        intro m
        induction m using E.rec (motive_2 := fun _ => True) (motive_3 := fun _ => True) (motive_4 := fun _ => True) with
        | bor i e ih =>
          intro h env μ r hr hf
          rw [ev] at hr
          obtain ⟨ds, h1, h2⟩ := Option.bind_eq_some_iff.mp hr
          obtain ⟨⟨d', μ1⟩, h3, h4⟩ := Option.bind_eq_some_iff.mp h2
          dsimp only at h4
          split at h4
          case isFalse => cases h4
          rename_i hf'
          rw [Bool.and_eq_true] at hf'
          exact ih (mE_bor h) _ _ _ h3 hf'.1
        | lc a t it c vs =>
          intro h env μ r hr hf
          rw [ev] at hr
          obtain ⟨⟨ds, μ1⟩, h1, h2⟩ := Option.bind_eq_some_iff.mp hr
          dsimp only at h2
          split at h2
          case isFalse => cases h2
          obtain ⟨⟨xs, μe⟩, h3, h4⟩ := Option.map_eq_some_iff.mp h2
          cases h4
          cases hf
        | nil => trivial
        | cons => trivial
        | none => trivial
        | some => trivial
        | seq => trivial
        | rng1 => trivial
        | rng2 => trivial
        | zip => trivial
        | enum => trivial
        | rngD => trivial
        | _ => intro h; rw [mE] at h <;> first | cases h | (intros; contradiction)
      exact key m' ha' _ _ _ h3 hf.1
  · exact ps_set G.nd (by rw [G.hN]; exact hi) l1 (peE a X sc x G ha) (by
      have := swap_plain (l := p.line) (env := X.env) hk hx
      exact this) l2
end
end Py
end
section
set_option Elab.async false
set_option linter.all false
set_option maxRecDepth 100000
set_option maxHeartbeats 4000000
namespace Py
open PySem L2 RZ
section
variable {C : MC} {Φ : FnS} {Γ : GlS} {k : Nat} {X : Cx} {sc : Scope}
theorem dm_back {F H F' H' : Hp} {ρ ρ' : List Addr} (e : Ext F H ρ F' H' ρ') {p : Addr} (h : H' p = none) : H p = none := by
  by_cases z : H p = none
  · exact z
  · exact absurd h (e.dm p z)
theorem setV_eq {env env' : Env} {i : Nat} {d : D} (h : setV env i d = some env') : i < env.length ∧ env' = env.set i (some (.val d)) := by
  unfold setV at h
  split at h
  · cases h; exact ⟨‹_›, rfl⟩
  · cases h
theorem q_app {i : Nat} {a : E} {x : Str} {p1 p2 p3 p : Pos} {y : Expr} (G : CG C Φ Γ k X sc) (h1 : C.N[i]? = some x) (h2 : visB sc x = true) (h3 : okName x = true) (hl : (p2.endLine == p3.line) = true) (n1 : ∀ v p, y ≠ .Starred v p) (ha : PE X y (tE X.K Φ Γ a)) :
    PS X (.Expr (.Call (.Attribute (.Name x p1) "append" p2) [y] [] p3) p) (tS X.K Φ Γ (.app i a)) := by
  have hv : PE X (.Name x p1) (tVar i) := pe_var (by rw [G.hN]; exact h1) (G.vis h2) (okName_1 h3) (okName_2 h3)
  have hm := pe_bm (cpos := p3) (apos := p2) PySem.F.plainAttrs_list PySem.F.slot_list_append PySem.F.type_list_append mt_append hv (pa_cons ha pa_nil (starEach_cons n1)) rfl (by rw [starEach_cons n1]; rfl) hl (starEach_cons n1) rfl
  refine PS.imp (ps_expr hm) fun D σ H q => ?_
  obtain ⟨F0, B0, ρ0, F, ρ, env, μ, r, S, E0, he, q⟩ := q
  rw [ex] at he
  obtain ⟨⟨d, μ1⟩, g1, g2⟩ := Option.bind_eq_some_iff.mp he
  obtain ⟨ds, g3, g4⟩ := Option.bind_eq_some_iff.mp g2
  split at g4
  case isFalse => cases g4
  rename_i hz
  cases g4
  have ho := getO_eq g3
  obtain ⟨v, k1, al, xs, rfl, k2, k3, k4, k5, k6⟩ := S.env.at_ _ _ ho
  refine ⟨_, k1, .inl ⟨rfl, _, .inl (.inl k2)⟩, ?_⟩
  refine RE.go S g1 fun w F1 H1 ρ1 e1 S1 r1 => ?_
  obtain ⟨v', k1', al', xs', e0, j2, j3, j4, j5, j6⟩ := S1.env.at_ _ _ ho
  rw [k1] at k1'
  cases k1'
  cases e0
  refine ⟨al, xs', w, rfl, rfl, j2, by rw [sz, j3.length]; exact hz, ?_⟩
  have E1 := E0.trans e1
  have S2 := S1.own_write ho k1 j4 j5 j6 (j3.append (.cons r1 .nil))
  exact q σ F1 _ ρ1 S2 (write_ok E1 S1.fh S1.cells j6 j4 j5).1 e1.gr
theorem q_ext {i : Nat} {a : E} {x : Str} {p1 p2 p3 p : Pos} {y : Expr} (G : CG C Φ Γ k X sc) (h1 : C.N[i]? = some x) (h2 : visB sc x = true) (h3 : okName x = true) (hl : (p2.endLine == p3.line) = true) (n1 : ∀ v p, y ≠ .Starred v p) (ha : PE X y (tE X.K Φ Γ a)) :
    PS X (.Expr (.Call (.Attribute (.Name x p1) "extend" p2) [y] [] p3) p) (tS X.K Φ Γ (.ext i a)) := by
  have hv : PE X (.Name x p1) (tVar i) := pe_var (by rw [G.hN]; exact h1) (G.vis h2) (okName_1 h3) (okName_2 h3)
  have hm := pe_bm (cpos := p3) (apos := p2) PySem.F.plainAttrs_list PySem.F.slot_list_extend PySem.F.type_list_extend mt_extend hv (pa_cons ha pa_nil (starEach_cons n1)) rfl (by rw [starEach_cons n1]; rfl) hl (starEach_cons n1) rfl
  refine PS.imp (ps_expr hm) fun D σ H q => ?_
  obtain ⟨F0, B0, ρ0, F, ρ, env, μ, r, S, E0, he, q⟩ := q
  rw [ex] at he
  obtain ⟨⟨d, μ1⟩, g1, g2⟩ := Option.bind_eq_some_iff.mp he
  obtain ⟨ds, g3, g4⟩ := Option.bind_eq_some_iff.mp g2
  split at g4
  case h_2 => cases g4
  rename_i es
  split at g4
  case isFalse => cases g4
  rename_i hz
  cases g4
  have ho := getO_eq g3
  obtain ⟨v, k1, al, xs, rfl, k2, k3, k4, k5, k6⟩ := S.env.at_ _ _ ho
  refine ⟨_, k1, .inl ⟨rfl, _, .inl (.inl k2)⟩, ?_⟩
  refine RE.go S g1 fun w F1 H1 ρ1 e1 S1 r1 => ?_
  obtain ⟨v', k1', al', xs', e0, j2, j3, j4, j5, j6⟩ := S1.env.at_ _ _ ho
  rw [k1] at k1'
  cases k1'
  cases e0
  cases r1 with
  | lst u1 u2 =>
    rename_i b zs
    refine ⟨al, b, xs', zs, rfl, rfl, j2, S1.fh _ _ u1, by rw [sz, j3.length, u2.length]; exact hz, ?_⟩
    have E1 := E0.trans e1
    have S2 := S1.own_write ho k1 j4 j5 j6 (j3.append u2)
    exact q σ F1 _ ρ1 S2 (write_ok E1 S1.fh S1.cells j6 j4 j5).1 e1.gr
theorem q_expr {a : E} {x : Expr} {p : Pos} (hc : isCall x = true) (ha : PE X x (tE X.K Φ Γ a)) : PS X (.Expr x p) (tS X.K Φ Γ (.expr a)) := by
  refine PS.imp (ps_expr ha (by cases x <;> first | rfl | cases hc)) fun D σ H q => ?_
  obtain ⟨F0, B0, ρ0, F, ρ, env, μ, r, S, E0, he, q⟩ := q
  rw [ex] at he
  obtain ⟨⟨d, μ1⟩, g1, g2⟩ := Option.map_eq_some_iff.mp he
  cases g2
  exact RE.go S g1 fun w F1 H1 ρ1 e1 S1 r1 => q σ F1 H1 ρ1 S1 (E0.trans e1) e1.gr
theorem q_asg {t : T} {a : E} {tg x : Expr} {p : Pos} (G : CG C Φ Γ k X sc) (ht : mT C sc t tg = true) (ha : mE C sc a x = true) (hk : asgOk tg x = true) : PS X (.Assign [tg] x p) (tS X.K Φ Γ (.asg t a)) := by
  rcases lc_or x with ⟨elt, gs, scope, pos, rfl⟩ | hx
  · -- the target is a name
    cases tg with
    | Name y py =>
      unfold mT at ht
      split at ht <;> first | contradiction | skip
      rename_i i _ _ _ q; cases q
      simp only [Bool.and_eq_true, decide_eq_true_eq] at ht
      refine PS.imp (s_asgName G ht.1 ht.2 ha hk) fun D σ H q => ?_
      obtain ⟨F0, B0, ρ0, F, ρ, env, μ, r, S, E0, he, q⟩ := q
      rw [ex] at he
      obtain ⟨⟨d, μ1⟩, g1, g2⟩ := Option.bind_eq_some_iff.mp he
      obtain ⟨env', g3, g4⟩ := Option.map_eq_some_iff.mp g2
      cases g4
      rw [asgT] at g3
      obtain ⟨_, rfl⟩ := setV_eq g3
      exact RE.go S g1 fun w F1 H1 ρ1 e1 S1 r1 => q _ F1 H1 ρ1 (S1.setV r1) (E0.trans e1) e1.gr
    | Tuple es kk pp =>
      refine PS.imp (ps_asg (peE a X sc _ G ha) (pgT G t _ ht) (by rfl) (stores_plain hk) (by rw [assignEach_cons (mT_nostar ht)]; rfl)) fun D σ H q => ?_
      obtain ⟨F0, B0, ρ0, F, ρ, env, μ, r, S, E0, he, q⟩ := q
      rw [ex] at he
      obtain ⟨⟨d, μ1⟩, g1, g2⟩ := Option.bind_eq_some_iff.mp he
      obtain ⟨env', g3, g4⟩ := Option.map_eq_some_iff.mp g2
      cases g4
      exact RE.go S g1 fun w F1 H1 ρ1 e1 S1 r1 => ⟨B0, F1, ρ1, env, μ1, d, env', S1, r1, g3, fun σ' S' _ _ => q σ' F1 H1 ρ1 S' (E0.trans e1) e1.gr⟩
    | _ => unfold asgOk at hk; cases hk
  · refine PS.imp (ps_asg (peE a X sc x G ha) (pgT G t tg ht) (swap_plain hk hx) (stores_plain hk) (by rw [assignEach_cons (mT_nostar ht)]; rfl)) fun D σ H q => ?_
    obtain ⟨F0, B0, ρ0, F, ρ, env, μ, r, S, E0, he, q⟩ := q
    rw [ex] at he
    obtain ⟨⟨d, μ1⟩, g1, g2⟩ := Option.bind_eq_some_iff.mp he
    obtain ⟨env', g3, g4⟩ := Option.map_eq_some_iff.mp g2
    cases g4
    exact RE.go S g1 fun w F1 H1 ρ1 e1 S1 r1 => ⟨B0, F1, ρ1, env, μ1, d, env', S1, r1, g3, fun σ' S' _ _ => q σ' F1 H1 ρ1 S' (E0.trans e1) e1.gr⟩
theorem newS_name {i : Nat} {a : E} {y : Str} {py p : Pos} {x : Expr} (G : CG C Φ Γ k X sc) (hi : C.N[i]? = some y) (hl : locB sc y = true) (ha : mE C sc a x = true) (hn : isNew a = true) :
    PS X (.Assign [.Name y py] x p) (tAsg (tN X.K (newF Φ Γ a)) (gName i)) := by
  obtain ⟨l1, l2⟩ := G.locv hl
  cases a with
  | lc b t it c vs =>
    refine PS.imp (s_asgLc G hi hl ha) fun D σ H q => ?_
    obtain ⟨B, F, ρ, env, μ, ds, μ', S, he, q⟩ := q
    rw [newF] at he
    exact ⟨B, F, ρ, env, μ, ds, μ', S, he, q⟩
  | lst es =>
    have hp := peN (Φ := Φ) (Γ := Γ) (k := k) (.lst es) x G ha hn
    obtain ⟨xs, p, rfl, _⟩ := mE_lst ha
    exact ps_set G.nd (by rw [G.hN]; exact hi) l1 hp rfl l2
  | bi b e es =>
    have hp := peN (Φ := Φ) (Γ := Γ) (k := k) (.bi b e es) x G ha hn
    obtain ⟨x, p2, y, ys, p, rfl, _⟩ := mE_bi ha
    exact ps_set G.nd (by rw [G.hN]; exact hi) l1 hp rfl l2
  | ite c a1 b1 =>
    have hp := peN (Φ := Φ) (Γ := Γ) (k := k) (.ite c a1 b1) x G ha hn
    obtain ⟨z, x, y, p, rfl, _⟩ := mE_ite ha
    exact ps_set G.nd (by rw [G.hN]; exact hi) l1 hp rfl l2
  | _ => cases hn
theorem q_asgN {i : Nat} {a : E} {y : Str} {py p : Pos} {x : Expr} (G : CG C Φ Γ k X sc) (hi : C.N[i]? = some y) (hl : locB sc y = true) (ha : mE C sc a x = true) (hn : isNew a = true) : PS X (.Assign [.Name y py] x p) (tS X.K Φ Γ (.asgN i a)) := by
  refine PS.imp (newS_name G hi hl ha hn) fun D σ H q => ?_
  obtain ⟨F0, B0, ρ0, F, ρ, env, μ, r, S, E0, he, q⟩ := q
  rw [ex] at he
  obtain ⟨⟨d, μ1⟩, g1, g2⟩ := Option.bind_eq_some_iff.mp he
  obtain ⟨ds, k1, k2⟩ := newF_ok hn g1
  dsimp only at k1 k2
  subst k1
  dsimp only at g2
  split at g2
  case isFalse => cases g2
  rename_i hlen
  cases g2
  refine ⟨B0, F, ρ, env, μ, ds, μ1, S, k2, fun p F' H' ρ' xs e s c h3 h4 h5 h6 r => ?_⟩
  have S1 := S.step e s c
  refine q _ F' H' ρ' (S1.own_new hlen h3 h5 h6 (dm_back E0 h4) (fun j fs hj hσ => ?_) r) (E0.trans e) e.gr
  obtain ⟨v, j1, al, ws, rfl, j2, _⟩ := S.env.at_ _ _ hj
  rw [hσ] at j1
  cases j1
  rw [h4] at j2
  cases j2
theorem not_cell {K : PySem.W.Frag} {F H : Hp} {ρ : List Addr} {μ : Store} (c : Cells K F H ρ μ) {p : Addr} (h : H p = none) : p ∉ ρ := fun hp => by
  obtain ⟨i, hi, e⟩ := List.getElem_of_mem hp
  have hi' : i < μ.length := by rw [← c.len]; exact hi
  obtain ⟨_, xs, h2, _⟩ := c.at_ i p μ[i] (by rw [List.getElem?_eq_getElem hi, e]) (List.getElem?_eq_getElem hi')
  rw [h] at h2; cases h2
theorem q_dNew {i : Nat} {y : Str} {py p1 p : Pos} (G : CG C Φ Γ k X sc) (hi : C.N[i]? = some y) (hl : locB sc y = true) : PS X (.Assign [.Name y py] (.Dict [] [] p1) p) (tS X.K Φ Γ (.dNew i)) := by
  obtain ⟨l1, l2⟩ := G.locv hl
  refine PS.imp (ps_set G.nd (by rw [G.hN]; exact hi) l1 (pe_nnew (X := X)) rfl l2) fun D σ H q => ?_
  obtain ⟨F0, B0, ρ0, F, ρ, env, μ, r, S, E0, he, q⟩ := q
  rw [ex] at he
  split at he
  case isFalse => cases he
  rename_i hlen
  cases he
  intro a ha
  have hF := S.fh.free ha
  have hρ := not_cell S.cells ha
  obtain ⟨w1, w2, w3⟩ := write_ok (o := dnO X.prog X.w a []) (Ext.refl (F := F) (H := H) (ρ := ρ)) S.fh S.cells ha hF hρ
  refine q _ F _ ρ ((S.step w1 w2 w3).dct_new hlen upd_same hF hρ (dm_back E0 ha) fun j fs hj hσ => ?_) (E0.trans w1) w1.gr
  obtain ⟨v, j1, al, nes, P, w, rfl, j2, _⟩ := S.env.at_ _ _ hj
  rw [hσ] at j1
  cases j1
  rw [ha] at j2
  cases j2
theorem q_dPut {i : Nat} {b a : E} {y : Str} {u z : Expr} {p2 p1 p : Pos} (G : CG C Φ Γ k X sc) (h1 : C.N[i]? = some y) (h2 : visB sc y = true) (h3 : okName y = true) (hs : sliceB u = false) (hk : asgOk (.Name "" ⟨0, 0, 0, 0⟩) z = true) (hlc : isLc z = false) (hb : PE X u (tE X.K Φ Γ b)) (ha : PE X z (tE X.K Φ Γ a)) :
    PS X (.Assign [.Subscript (.Name y p2) u p1] z p) (tS X.K Φ Γ (.dPut i b a)) := by
  have hv : PE X (.Name y p2) (tVar i) := pe_var (by rw [G.hN]; exact h1) (G.vis h2) (okName_1 h3) (okName_2 h3)
  refine PS.imp (ps_nput (by have := G.room.un; omega) hv hb ha (swap_sub hk hlc)) fun D σ H q => ?_
  obtain ⟨F0, B0, ρ0, F, ρ, env, μ, r, S, E0, he, q⟩ := q
  rw [ex] at he
  obtain ⟨⟨d, μ1⟩, g1, g2⟩ := Option.bind_eq_some_iff.mp he
  obtain ⟨⟨dk, μ2⟩, g3, g4⟩ := Option.bind_eq_some_iff.mp g2
  obtain ⟨kvs, g5, g6⟩ := Option.bind_eq_some_iff.mp g4
  obtain ⟨kk, g7, g8⟩ := Option.bind_eq_some_iff.mp g6
  split at g8
  case isFalse => cases g8
  rename_i hz
  cases g8
  refine RE.go S g1 fun v F1 H1 ρ1 e1 S1 r1 => ?_
  obtain ⟨a0, nes0, j1, _⟩ := dct_at S1 g5
  refine ⟨_, j1, RE.go S1 g3 fun w F2 H2 ρ2 e2 S2 r2 => ?_⟩
  obtain ⟨a1, nes, k1, k2, k3, k4, k5, k6, k7⟩ := dct_at S2 g5
  rw [j1] at k1; cases k1
  obtain ⟨b', rfl, m1, m2, m3⟩ := keyS_ok r2 g7
  refine ⟨_, b', nes, kk, _, _, rfl, rfl, rfl, rfl, k2, k3, NKey.mono S2.fh _ _ m1, m2, by rw [sz, kd_len k4]; exact hz, ?_⟩
  have E2 := (E0.trans e1).trans e2
  have S3 := S2.dct_write (getD_eq g5) j1 k2 k5 k6 k7 (kd_put k4 m1 m2 m3 (r1.ext e2))
  exact q σ F2 _ ρ2 S3 (write_ok E2 S2.fh S2.cells k7 k5 k6).1 (e1.gr.trans e2.gr)
theorem q_par {i j : Nat} {a b : E} {x y : Str} {px py p1 p2 p : Pos} {k1 k2 : Nat} {u v : Expr} (G : CG C Φ Γ k X sc) (hi : C.N[i]? = some x) (hj : C.N[j]? = some y) (hij : i ≠ j) (hx : lclB sc x = true) (hy : lclB sc y = true) (hl : px.line = py.line)
    (h1 : (foldedForSure 8 u && foldedForSure 8 v) = false) (h2 : (constantsAlone 8 u && constantsAlone 8 v) = false) (ha : mE C sc a u = true) (hb : mE C sc b v = true) :
    PS X (.Assign [.Tuple [.Name x px, .Name y py] k1 p1] (.Tuple [u, v] k2 p2) p) (tS X.K Φ Γ (.par i j a b)) := by
  have lx : X.env.scope.names.lookup x = some .local := by
    unfold lclB at hx
    split at hx
    · exact G.loc _ ‹_›
    · cases hx
  have ly : X.env.scope.names.lookup y = some .local := by
    unfold lclB at hy
    split at hy
    · exact G.loc _ ‹_›
    · cases hy
  have hxy : x ≠ y := fun z => hij (by
    have nd := G.nd
    rw [G.hN] at nd
    subst z
    exact nodup_ix nd hi hj)
  have n1 := (mE_nostar ha).1
  have n2 := (mE_nostar hb).1
  have hpa := pa_two (peE a X sc u G ha) n1 (pa_two (peE b X sc v G hb) n2 (pa_nil' (Φ := Φ) (Γ := Γ)))
  refine PS.imp (ps_par G.calm G.nd (by rw [G.hN]; exact hi) (by rw [G.hN]; exact hj) hij lx ly hpa (stores_par G.kind lx ly hxy hl n1 n2 h1 h2)) fun D σ H q => ?_
  obtain ⟨F0, B0, ρ0, F, ρ, env, μ, r, S, E0, he, q⟩ := q
  rw [ex] at he
  obtain ⟨⟨d, μ1⟩, g1, g2⟩ := Option.bind_eq_some_iff.mp he
  obtain ⟨⟨d2, μ2⟩, g3, g4⟩ := Option.bind_eq_some_iff.mp g2
  obtain ⟨env1, g5, g6⟩ := Option.bind_eq_some_iff.mp g4
  obtain ⟨env2, g7, g8⟩ := Option.map_eq_some_iff.mp g6
  cases g8
  obtain ⟨_, rfl⟩ := setV_eq g5
  obtain ⟨_, rfl⟩ := setV_eq g7
  have he2 : evs Φ Γ (.cons a (.cons b .nil)) env μ = some ([d, d2], μ2) := by
    rw [evs, g1]
    show Option.map _ (evs Φ Γ (.cons b .nil) env μ1) = _
    have : evs Φ Γ (.cons b .nil) env μ1 = some ([d2], μ2) := by
      rw [evs]
      simp only [g3, Option.bind_some]
      rw [evs]
      rfl
    rw [this]
    rfl
  refine RE.go S he2 fun ws F1 H1 ρ1 e1 S1 r1 => ?_
  obtain ⟨w1, w2, rfl, r2, r3⟩ := DrL.two r1
  exact ⟨w1, w2, rfl, q _ F1 H1 ρ1 ((S1.setV r2).setV r3) (E0.trans e1) e1.gr⟩
theorem q_aug {i : Nat} {op : Operator} {a : E} {x : Str} {p1 p : Pos} {y : Expr} (G : CG C Φ Γ k X sc) (hi : C.N[i]? = some x) (hl : locB sc x = true) (ha : PE X y (tE X.K Φ Γ a)) : PS X (.AugAssign (.Name x p1) op y p) (tS X.K Φ Γ (.aug i op a)) := by
  obtain ⟨l1, l2⟩ := G.locv hl
  have hi' : X.N[i]? = some x := by rw [G.hN]; exact hi
  cases op with
  | Add =>
    refine PS.imp (ps_aug G.nd hi' l1 ha ip_add l2) fun D σ H q => ?_
    obtain ⟨F0, B0, ρ0, F, ρ, env, μ, r, S, E0, he, q⟩ := q
    rw [ex] at he
    obtain ⟨dx, g1, g2⟩ := Option.bind_eq_some_iff.mp he
    obtain ⟨⟨dy, μ1⟩, g3, g4⟩ := Option.bind_eq_some_iff.mp g2
    dsimp only at g4
    split at g4
    · obtain ⟨env', g5, g6⟩ := Option.map_eq_some_iff.mp g4
      cases g6
      obtain ⟨_, rfl⟩ := setV_eq g5
      obtain ⟨v, k1, k2⟩ := S.env.at_ _ _ (getV_eq g1)
      have k2' : Dr X.K F ρ v (.int _) := k2
      cases k2'
      refine ⟨_, k1, RE.go S g3 fun w F1 H1 ρ1 e1 S1 r1 => ?_⟩
      cases r1
      exact ⟨_, _, rfl, rfl, q _ F1 H1 ρ1 (S1.setV (.int _)) (E0.trans e1) e1.gr⟩
    · contradiction
    · cases g4
  | Sub =>
    refine PS.imp (ps_aug G.nd hi' l1 ha ip_sub l2) fun D σ H q => ?_
    obtain ⟨F0, B0, ρ0, F, ρ, env, μ, r, S, E0, he, q⟩ := q
    rw [ex] at he
    obtain ⟨dx, g1, g2⟩ := Option.bind_eq_some_iff.mp he
    obtain ⟨⟨dy, μ1⟩, g3, g4⟩ := Option.bind_eq_some_iff.mp g2
    dsimp only at g4
    split at g4
    · contradiction
    · obtain ⟨env', g5, g6⟩ := Option.map_eq_some_iff.mp g4
      cases g6
      obtain ⟨_, rfl⟩ := setV_eq g5
      obtain ⟨v, k1, k2⟩ := S.env.at_ _ _ (getV_eq g1)
      have k2' : Dr X.K F ρ v (.int _) := k2
      cases k2'
      refine ⟨_, k1, RE.go S g3 fun w F1 H1 ρ1 e1 S1 r1 => ?_⟩
      cases r1
      exact ⟨_, _, rfl, rfl, q _ F1 H1 ρ1 (S1.setV (.int _)) (E0.trans e1) e1.gr⟩
    · cases g4
  | _ =>
    refine ⟨fun pins s σ H D I q => ?_⟩
    exfalso
    obtain ⟨F0, B0, ρ0, F, ρ, env, μ, r, S, E0, he, q⟩ := q
    rw [ex] at he
    obtain ⟨dx, g1, g2⟩ := Option.bind_eq_some_iff.mp he
    obtain ⟨⟨dy, μ1⟩, g3, g4⟩ := Option.bind_eq_some_iff.mp g2
    cases g4
theorem q_setm {o i a : E} {x y z : Expr} {p1 p : Pos} (G : CG C Φ Γ k X sc) (ho : mE C sc o x = true) (hi : mE C sc i y = true) (ha : mE C sc a z = true) (hs : sliceB y = false) (hk : asgOk (.Name "" ⟨0, 0, 0, 0⟩) z = true) (hlc : isLc z = false) :
    PS X (.Assign [.Subscript x y p1] z p) (tS X.K Φ Γ (.setm o i a)) := by
  have hk' : asgOk (.Subscript x y p1) z = true := by
    cases z <;> first | rfl | (unfold asgOk at hk; cases hk; done) | cases hlc
  have hg : PG X (.Subscript x y p1) (gSub (tE X.K Φ Γ o) (tE X.K Φ Γ i) rSetL) := pg_sub (peE o X sc x G ho) (peE i X sc y G hi) set_list (by cases y <;> first | exact fun _ => rfl | cases hs)
  refine PS.imp (ps_asg (peE a X sc z G ha) hg (swap_plain hk' hlc) (stores_plain hk') rfl) fun D σ H q => ?_
  obtain ⟨F0, B0, ρ0, F, ρ, env, μ, r, S, E0, he, q⟩ := q
  rw [ex] at he
  obtain ⟨⟨d, μ1⟩, g1, g2⟩ := Option.bind_eq_some_iff.mp he
  obtain ⟨⟨dx, μ2⟩, g3, g4⟩ := Option.bind_eq_some_iff.mp g2
  obtain ⟨⟨dy, μ3⟩, g5, g6⟩ := Option.bind_eq_some_iff.mp g4
  dsimp only at g6
  split at g6
  case h_2 => cases g6
  obtain ⟨ds, g7, g8⟩ := Option.bind_eq_some_iff.mp g6
  obtain ⟨j, g9, g10⟩ := Option.map_eq_some_iff.mp g8
  cases g10
  refine RE.go S g1 fun v F1 H1 ρ1 e1 S1 r1 => RE.go S1 g3 fun w F2 H2 ρ2 e2 S2 r2 => RE.go S2 g5 fun w' F3 H3 ρ3 e3 S3 r3 => ?_
  cases r3
  cases r2 with
  | mr hm =>
    have hm3 := e3.rr _ _ hm
    obtain ⟨_, xs, j2, j3⟩ := S3.cells.at_ _ _ _ hm3 g7
    obtain ⟨S4, E4⟩ := S3.cell_write (((E0.trans e1).trans e2).trans e3) hm3 g7 (j3.set j ((r1.ext e2).ext e3))
    exact ⟨_, xs, _, j, rfl, rfl, j2, by rw [j3.length]; exact g9, q σ F3 _ ρ3 S4 E4 ((e1.trans e2).trans e3).gr⟩
theorem q_setO {i : Nat} {o a : E} {nm : Str} {y z : Expr} {pn p1 p : Pos} (G : CG C Φ Γ k X sc) (h1 : C.N[i]? = some nm) (h2 : visB sc nm = true) (h3 : okName nm = true) (hi : mE C sc o y = true) (ha : mE C sc a z = true) (hs : sliceB y = false) (hk : asgOk (.Name "" ⟨0, 0, 0, 0⟩) z = true) (hlc : isLc z = false) :
    PS X (.Assign [.Subscript (.Name nm pn) y p1] z p) (tS X.K Φ Γ (.setO i o a)) := by
  have hk' : asgOk (.Subscript (.Name nm pn) y p1) z = true := by
    cases z <;> first | rfl | (unfold asgOk at hk; cases hk; done) | cases hlc
  have hv : PE X (.Name nm pn) (tVar i) := pe_var (by rw [G.hN]; exact h1) (G.vis h2) (okName_1 h3) (okName_2 h3)
  have hg : PG X (.Subscript (.Name nm pn) y p1) (gSub (tVar i) (tE X.K Φ Γ o) rSetL) := pg_sub hv (peE o X sc y G hi) set_list (by cases y <;> first | exact fun _ => rfl | cases hs)
  refine PS.imp (ps_asg (peE a X sc z G ha) hg (swap_plain hk' hlc) (stores_plain hk') rfl) fun D σ H q => ?_
  obtain ⟨F0, B0, ρ0, F, ρ, env, μ, r, S, E0, he, q⟩ := q
  rw [ex] at he
  obtain ⟨⟨d, μ1⟩, g1, g2⟩ := Option.bind_eq_some_iff.mp he
  obtain ⟨⟨dy, μ2⟩, g3, g4⟩ := Option.bind_eq_some_iff.mp g2
  obtain ⟨ds, g5, g6⟩ := Option.bind_eq_some_iff.mp g4
  obtain ⟨kk, g7, g8⟩ := Option.bind_eq_some_iff.mp g6
  obtain ⟨j, g9, g10⟩ := Option.map_eq_some_iff.mp g8
  cases g10
  have ho := getO_eq g5
  refine RE.go S g1 fun v F1 H1 ρ1 e1 S1 r1 => ?_
  obtain ⟨v1, k1, al, xs, rfl, k2, k3, k4, k5, k6⟩ := S1.env.at_ _ _ ho
  refine ⟨_, k1, RE.go S1 g3 fun w F2 H2 ρ2 e2 S2 r2 => ?_⟩
  obtain ⟨v', k1', al', xs', e0, j2, j3, j4, j5, j6⟩ := S2.env.at_ _ _ ho
  rw [k1] at k1'
  cases k1'
  cases e0
  have e3 := asInt_eq g7
  subst e3
  cases r2
  have E1 := (E0.trans e1).trans e2
  have S3 := S2.own_write ho k1 j4 j5 j6 (j3.set j (r1.ext e2))
  exact ⟨al, xs', _, j, rfl, rfl, j2, by rw [j3.length]; exact g9, q σ F2 _ ρ2 S3 (write_ok E1 S2.fh S2.cells j6 j4 j5).1 (e1.trans e2).gr⟩
theorem q_ret {a : E} {x : Expr} {p : Pos} (ha : PE X x (tE X.K Φ Γ a)) : PS X (.Return (some x) p) (tS X.K Φ Γ (.ret a)) := by
  refine PS.imp (ps_ret ha) fun D σ H q => ?_
  obtain ⟨F0, B0, ρ0, F, ρ, env, μ, r, S, E0, he, q⟩ := q
  rw [ex] at he
  obtain ⟨⟨d, μ1⟩, g1, g2⟩ := Option.map_eq_some_iff.mp he
  cases g2
  exact RE.go S g1 fun w F1 H1 ρ1 e1 S1 r1 => q w F1 H1 ρ1 (E0.trans e1) S1.fh S1.cells r1
theorem q_if {c : E} {a b : List S} {x : Expr} {ys zs : List Stmt} {p : Pos} (hc : PT X x (tT X.K Φ Γ c)) (ha : PSs X ys (tSs X.K Φ Γ a)) (hb : PSs X zs (tSs X.K Φ Γ b)) : PS X (.If x ys zs p) (tS X.K Φ Γ (.iff c a b)) := by
  refine PS.imp (ps_if hc ha hb) fun D σ H q => ?_
  obtain ⟨F0, B0, ρ0, F, ρ, env, μ, r, S, E0, he, q⟩ := q
  rw [ex] at he
  obtain ⟨⟨k, μ1⟩, g1, g2⟩ := Option.bind_eq_some_iff.mp he
  refine RE.go S g1 fun w F1 H1 ρ1 e1 S1 r1 => ?_
  cases r1
  dsimp only at g2
  cases k with
  | true => exact iteT ⟨F0, B0, ρ0, F1, ρ1, env, μ1, r, S1, E0.trans e1, by rw [if_pos rfl] at g2; exact g2, q.grow e1.gr⟩
  | false => exact iteF ⟨F0, B0, ρ0, F1, ρ1, env, μ1, r, S1, E0.trans e1, by rw [if_neg Bool.false_ne_true] at g2; exact g2, q.grow e1.gr⟩
theorem q_while {c : E} {b : List S} {x : Expr} {ys : List Stmt} {p : Pos} (hp : PassesOwn (model X.prog X.w) X.A X.env X.xe) (hc : PT X x (tT X.K Φ Γ c)) (hb : PSs X ys (tSs X.K Φ Γ b)) : PS X (.While x ys [] p) (tS X.K Φ Γ (.wh c b)) := by
  refine PS.imp (ps_while hp hc hb) fun D σ H q => ?_
  obtain ⟨F0, B0, ρ0, F, ρ, env, μ, r, S, E0, he, q⟩ := q
  rw [ex] at he
  obtain ⟨n, hn⟩ := whS_some.mp he
  have Wd : Nat → L2.St → Hp → Prop := fun m σ H => True
  refine ⟨fun m σ H => ∃ F1 ρ1 env μ, SR X.K B0 F1 H ρ1 σ env μ ∧ Ext F0 B0 ρ0 F1 H ρ1 ∧ Gr F ρ F1 ρ1 ∧ whN (fun env' μ' => evT Φ Γ c env' μ') (fun env' μ' => exs Φ Γ b env' μ') m env μ = some r, ⟨n, F, ρ, env, μ, S, E0, .refl, hn⟩, ?_⟩
  rintro m σ H ⟨F', ρ', env, μ, S, E, gr, h⟩
  cases m with
  | zero => rw [whN] at h; cases h
  | succ m =>
    rw [whN] at h
    obtain ⟨⟨k, μ1⟩, g1, g2⟩ := Option.bind_eq_some_iff.mp h
    refine RE.go S g1 fun w F1 H1 ρ1 e1 S1 r1 => ?_
    cases r1
    dsimp only at g2
    have E1 := E.trans e1
    have gr1 := gr.trans e1.gr
    cases k with
    | false =>
      rw [if_neg Bool.false_ne_true] at g2
      cases g2
      exact iteF (q σ F1 H1 ρ1 S1 E1 gr1)
    | true =>
      rw [if_pos rfl] at g2
      obtain ⟨fl, g3, g4⟩ := Option.bind_eq_some_iff.mp g2
      refine iteT ⟨fun σ H => ∃ F1 ρ1 env μ, SR X.K B0 F1 H ρ1 σ env μ ∧ Ext F0 B0 ρ0 F1 H ρ1 ∧ Gr F ρ F1 ρ1 ∧ whN (fun env' μ' => evT Φ Γ c env' μ') (fun env' μ' => exs Φ Γ b env' μ') m env μ = some r, fun σ' H' h' => ⟨m, Nat.lt_succ_self m, h'⟩, F0, B0, ρ0, F1, ρ1, env, μ1, fl, S1, E1, g3, ?_⟩
      cases fl with
      | nx e μ' => exact fun σ' F' H' ρ' S' E' G' => ⟨F', ρ', _, _, S', E', gr1.trans G', g4⟩
      | ct e μ' => exact fun σ' F' H' ρ' S' E' G' => ⟨F', ρ', _, _, S', E', gr1.trans G', g4⟩
      | bk e μ' => cases g4; exact fun σ' F' H' ρ' S' E' G' => q σ' F' H' ρ' S' E' (gr1.trans G')
      | rt d μ' => cases g4; exact fun v F' H' ρ' E' s' c' r' => q v F' H' ρ' E' s' c' r'
theorem q_for {t : T} {it : I} {b : List S} {tg x : Expr} {ys : List Stmt} {p : Pos} (G : CG C Φ Γ k X sc) (hp : PassesOwn (model X.prog X.w) X.A X.env X.xe) (ht : mT C sc t tg = true) (hi : mI C sc it x (isTup tg) = true) (hb : PSs X ys (tSs X.K Φ Γ b)) : PS X (.For tg x ys [] p) (tS X.K Φ Γ (.for t it b)) := by
  refine PS.imp (ps_for hp G.calm (piI it X sc x tg G hi) (pgT G t tg ht) hb (folded_of (mI_noset hi))) fun D σ H q => ?_
  obtain ⟨F0, B0, ρ0, F, ρ, env, μ, r, S, E0, he, q⟩ := q
  rw [ex] at he
  obtain ⟨⟨ds, μ1⟩, g1, g2⟩ := Option.bind_eq_some_iff.mp he
  refine RE.go S g1 fun J F1 H1 ρ1 e1 S1 r1 => ?_
  obtain ⟨G', Y, W, hG, hY⟩ := r1
  refine for_it W (fun i σ H => ∃ F2 ρ2 env2 μ2, SR X.K B0 F2 H ρ2 σ env2 μ2 ∧ Ext F0 B0 ρ0 F2 H ρ2 ∧ Gr F1 ρ1 F2 ρ2 ∧ forS t (fun env' μ' => exs Φ Γ b env' μ') (ds.drop i) env2 μ2 = some r) ?_ ?_ ?_ ?_
  · exact ⟨F1, ρ1, env, μ1, S1, E0.trans e1, .refl, g2⟩
  · rintro i σ H _ ⟨F2, ρ2, env2, μ2, S2, E2, s2, _⟩
    exact hG F2 H s2.ff S2.fh
  · rintro i y σ H H' hi' ⟨F2, ρ2, env2, μ2, S2, E2, gr, hf⟩ hy
    obtain ⟨F3, dx, P, k1, k2⟩ := hY i y H H' F2 hi' gr.ff S2.fh hy
    have hdrop : ds.drop i = dx :: ds.drop (i + 1) := by
      have hlt : i < ds.length := hi'
      rw [List.drop_eq_getElem_cons hlt]
      rw [List.getElem?_eq_getElem hlt] at k1
      cases k1
      rfl
    rw [hdrop, forS] at hf
    obtain ⟨env1, u1, u2⟩ := Option.bind_eq_some_iff.mp hf
    obtain ⟨fl, u3, u4⟩ := Option.bind_eq_some_iff.mp u2
    have S3 := S2.px P
    have E3 := E2.trans (P.ext (ρ := ρ2))
    have gr3 : Gr F1 ρ1 F3 ρ2 := gr.trans ⟨P.ff, fun _ _ h => h⟩
    refine ⟨B0, F3, ρ2, env2, μ2, dx, env1, S3, k2 ρ2 gr.rr, u1, fun σ2 S4 _ _ => ⟨F0, B0, ρ0, F3, ρ2, env1, μ2, fl, S4, E3, u3, ?_⟩⟩
    cases fl with
    | nx e μ' => exact fun σ' F' H' ρ' S' E' G' => ⟨F', ρ', _, _, S', E', gr3.trans G', u4⟩
    | ct e μ' => exact fun σ' F' H' ρ' S' E' G' => ⟨F', ρ', _, _, S', E', gr3.trans G', u4⟩
    | bk e μ' => cases u4; exact fun σ' F' H' ρ' S' E' G' => q σ' F' H' ρ' S' E' ((e1.gr.trans gr3).trans G')
    | rt d μ' => cases u4; exact fun v F' H' ρ' E' s' c' r' => q v F' H' ρ' E' s' c' r'
  · rintro σ H ⟨F2, ρ2, env2, μ2, S2, E2, gr, hf⟩
    rw [List.drop_length, forS] at hf
    cases hf
    exact q σ F2 H ρ2 S2 E2 (e1.gr.trans gr)
/-! ### all statements -/
mutual
theorem psS (G : CG C Φ Γ k X sc) (hp : PassesOwn (model X.prog X.w) X.A X.env X.xe) : ∀ (s : S) (e : Stmt), mS C sc s e = true → PS X e (tS X.K Φ Γ s)
  | .app i a, e, h => by
    obtain ⟨x, p1, m, p2, y, p3, p, rfl, ⟨⟨⟨⟨h1, h2⟩, h3⟩, rfl⟩, h4⟩, h5⟩ := mS_app h
    exact q_app G h1 h2 h3 h4 (mE_nostar h5).1 (peE a X sc y G h5)
  | .expr a, e, h => by
    obtain ⟨x, p, rfl, h1, h2⟩ := mS_expr h
    exact q_expr h1 (peE a X sc x G h2)
  | .asg t a, e, h => by
    obtain ⟨tg, x, p, rfl, ⟨h1, h2⟩, h3⟩ := mS_asg h
    exact q_asg G h1 h2 h3
  | .asgN i a, e, h => by
    obtain ⟨y, py, x, p, rfl, ⟨h1, h2⟩, h3⟩ := mS_asgN h
    unfold mT at h1
    simp only [Bool.and_eq_true, decide_eq_true_eq] at h1
    exact q_asgN G h1.1 h1.2 h2 h3
  | .par i j a b, e, h => by
    obtain ⟨x, px, y, py, k1, p1, u, v, k2, p2, p, rfl, ⟨⟨⟨⟨⟨⟨⟨⟨h1, h2⟩, h3⟩, h4⟩, h5⟩, h6⟩, h7⟩, h8⟩, h9⟩, h10⟩ := mS_par h
    exact q_par G h1 h2 h3 h4 h5 h6 h9 h10 h7 h8
  | .aug i op a, e, h => by
    obtain ⟨x, p1, o, y, p, rfl, ⟨⟨h1, h2⟩, rfl⟩, h3⟩ := mS_aug h
    exact q_aug G h1 h2 (peE a X sc y G h3)
  | .setm o i a, e, h => by
    obtain ⟨x, y, p1, z, p, rfl, ⟨⟨⟨⟨h1, h2⟩, h3⟩, h4⟩, h5⟩, h6⟩ := mS_setm h
    exact q_setm G h1 h2 h3 h4 h5 h6
  | .ext i a, e, h => by
    obtain ⟨x, p1, m, p2, y, p3, p, rfl, ⟨⟨⟨⟨h1, h2⟩, h3⟩, rfl⟩, h4⟩, h5⟩ := mS_ext h
    exact q_ext G h1 h2 h3 h4 (mE_nostar h5).1 (peE a X sc y G h5)
  | .dNew i, e, h => by
    obtain ⟨y, py, p1, p, rfl, h1⟩ := mS_dNew h
    unfold mT at h1
    simp only [Bool.and_eq_true, decide_eq_true_eq] at h1
    exact q_dNew G h1.1 h1.2
  | .setO i o a, e, h => by
    obtain ⟨y, p2, u, p1, z, p, rfl, ⟨⟨⟨⟨⟨⟨h1, h2⟩, h3⟩, h4⟩, h5⟩, h6⟩, h7⟩, h8⟩ := mS_setO h
    exact q_setO G h1 h2 h3 h4 h5 h6 h7 h8
  | .dPut i b a, e, h => by
    obtain ⟨y, p2, u, p1, z, p, rfl, ⟨⟨⟨⟨⟨⟨h1, h2⟩, h3⟩, h4⟩, h5⟩, h6⟩, h7⟩, h8⟩ := mS_dPut h
    exact q_dPut G h1 h2 h3 h6 h7 h8 (peE b X sc u G h4) (peE a X sc z G h5)
  | .ret a, e, h => by
    obtain ⟨x, p, rfl, h1⟩ := mS_ret h
    exact q_ret (peE a X sc x G h1)
  | .retN, e, h => by
    obtain ⟨p, rfl⟩ := mS_retN h
    refine PS.imp ps_retN fun D σ H q => ?_
    obtain ⟨F0, B0, ρ0, F, ρ, env, μ, r, S, E0, he, q⟩ := q
    rw [ex] at he; cases he
    exact q _ F H ρ E0 S.fh S.cells .non
  | .iff c a b, e, h => by
    obtain ⟨x, ys, zs, p, rfl, ⟨h1, h2⟩, h3⟩ := mS_iff h
    exact q_if (ptE c X sc x G h1) (pssS G hp a ys h2) (pssS G hp b zs h3)
  | .wh c b, e, h => by
    obtain ⟨x, ys, p, rfl, h1, h2⟩ := mS_wh h
    exact q_while hp (ptE c X sc x G h1) (pssS G hp b ys h2)
  | .for t it b, e, h => by
    obtain ⟨tg, x, ys, p, rfl, ⟨h1, h2⟩, h3⟩ := mS_for h
    exact q_for G hp h1 h2 (pssS G hp b ys h3)
  | .brk, e, h => by
    obtain ⟨p, rfl⟩ := mS_brk h
    refine PS.imp ps_break fun D σ H q => ?_
    obtain ⟨F0, B0, ρ0, F, ρ, env, μ, r, S, E0, he, q⟩ := q
    rw [ex] at he; cases he
    exact q _ F H ρ S E0 .refl
  | .cont, e, h => by
    obtain ⟨p, rfl⟩ := mS_cont h
    refine PS.imp ps_continue fun D σ H q => ?_
    obtain ⟨F0, B0, ρ0, F, ρ, env, μ, r, S, E0, he, q⟩ := q
    rw [ex] at he; cases he
    exact q _ F H ρ S E0 .refl
  | .pass, e, h => by
    obtain ⟨p, rfl⟩ := mS_pass h
    refine PS.imp ps_pass fun D σ H q => ?_
    obtain ⟨F0, B0, ρ0, F, ρ, env, μ, r, S, E0, he, q⟩ := q
    rw [ex] at he; cases he
    exact q _ F H ρ S E0 .refl
  | .frz i s, e, h => by
    refine PS.imp (psS G hp s e (mS_frz h)) fun D σ H q => ?_
    obtain ⟨F0, B0, ρ0, F, ρ, env, μ, r, S, E0, he, q⟩ := q
    rw [ex] at he
    obtain ⟨ds, h1, h2⟩ := Option.bind_eq_some_iff.mp he
    obtain ⟨F1, S1, E1, g1⟩ := S.freeze E0 h1
    exact ⟨F0, B0, ρ0, F1, ρ, _, μ, r, S1, E1, h2, q.grow g1⟩
theorem pssS (G : CG C Φ Γ k X sc) (hp : PassesOwn (model X.prog X.w) X.A X.env X.xe) : ∀ (s : List S) (e : List Stmt), mSs C sc s e = true → PSs X e (tSs X.K Φ Γ s)
  | [], [], _ => by
    refine PSs.imp pss_nil fun D σ H q => ?_
    obtain ⟨F0, B0, ρ0, F, ρ, env, μ, r, S, E0, he, q⟩ := q
    rw [exs] at he; cases he
    exact q _ F H ρ S E0 .refl
  | s :: ss, e :: es, h => by
    rw [mSs, Bool.and_eq_true] at h
    refine PSs.imp (pss_cons (psS G hp s e h.1) (pssS G hp ss es h.2)) fun D σ H q => ?_
    obtain ⟨F0, B0, ρ0, F, ρ, env, μ, r, S, E0, he, q⟩ := q
    rw [exs] at he
    obtain ⟨fl, g1, g2⟩ := Option.bind_eq_some_iff.mp he
    refine ⟨F0, B0, ρ0, F, ρ, env, μ, fl, S, E0, g1, ?_⟩
    cases fl with
    | nx e' m' => exact fun σ' F' H' ρ' S' E' G' => ⟨F0, B0, ρ0, F', ρ', _, _, r, S', E', g2, q.grow G'⟩
    | bk e' m' => cases g2; exact q
    | ct e' m' => cases g2; exact q
    | rt d m' => cases g2; exact q
  | [], _ :: _, h => by rw [mSs] at h <;> first | cases h | (intros; contradiction)
  | _ :: _, [], h => by rw [mSs] at h <;> first | cases h | (intros; contradiction)
end
end
end Py
end
section
set_option Elab.async false
set_option linter.all false
set_option maxRecDepth 100000
set_option maxHeartbeats 4000000
namespace Py
open PySem L2 RZ
/-- a def of the text: its name, its slots' names (the parameters first), its syntax, its statement -/
structure PF where
  name : Str
  N : List Str
  fn : Fn
  st : Stmt
def PF.ps (p : PF) : List Str := p.N.take p.fn.ar
/-- what is looked at by the kernel -/
def PF.ok (names gls : List Str) (p : PF) : Bool :=
  mSs ⟨p.N, names, gls⟩ (defScope p.st) p.fn.body (defBody p.st) && decide ((defScope p.st).kind = .function) && (defScope p.st).isCoroutine == false && (defScope p.st).isGenerator == false &&
    decide p.N.Nodup && (p.N.take p.fn.ar).all (fun x => locB (defScope p.st) x) && (defScope p.st).names.all (fun y => decide (y.2 ≠ .free)) && decide (p.fn.ar ≤ p.N.length) && decide (p.fn.sl = p.N.length)
theorem PF.scope {names gls : List Str} {p : PF} (h : p.ok names gls = true) : FnScope p.N p.ps (defScope p.st) ∧ mSs ⟨p.N, names, gls⟩ (defScope p.st) p.fn.body (defBody p.st) = true ∧ p.fn.ar ≤ p.N.length ∧ p.fn.sl = p.N.length := by
  unfold PF.ok at h
  simp only [Bool.and_eq_true, decide_eq_true_eq, beq_iff_eq] at h
  obtain ⟨⟨⟨⟨⟨⟨⟨⟨h1, h2⟩, h3⟩, h4⟩, h5⟩, h6⟩, h7⟩, h8⟩, h9⟩ := h
  refine ⟨⟨h2, h3, h4, h5, ?_, fun x hx => ?_, fun y hy => ?_⟩, h1, h8, h9⟩
  · unfold PF.ps
    rw [List.length_take, Nat.min_eq_left h8]
  · have := List.all_eq_true.mp h6 x hx
    unfold locB at this
    split at this
    · exact .inl ‹_›
    · exact .inr ‹_›
    · cases this
  · have := List.all_eq_true.mp h7 y hy
    simpa using this
theorem ps_len {names gls : List Str} {p : PF} (h : p.ok names gls = true) : p.ps.length = p.fn.ar := by
  have := (PF.scope h).2.2.1
  unfold PF.ps
  rw [List.length_take, Nat.min_eq_left this]
section
variable {P : Program} {w : World} {K : PySem.W.Frag} {mg : Str → Option Value} {base : Heap}
/-- where a def stands -/
structure PFact (K : PySem.W.Frag) (mg : Str → Option Value) (p : PF) (fa : Addr) (fd : FuncData) : Prop where
  mgf : mg p.name = some (.ref fa)
  fun_ : FunD K p.name p.name (defArgs p.st) (defBody p.st) (defScope p.st) [] [] fa fd
  bnd : Binds K fd p.ps []
theorem start_env {names gls : List Str} {p : PF} (h : p.ok names gls = true) {F H : Hp} {ρ : List Addr} {μ : Store} {vs : List V} {ds : List D} (fh : Same F H) (c : Cells K F H ρ μ) (r : DrL K F ρ vs ds) (hl : ds.length = p.fn.ar) :
    SR K H F H ρ (L2.start p.N vs) (ds.map (fun d => some (SV.val d)) ++ List.replicate (p.fn.sl - p.fn.ar) none) μ := by
  obtain ⟨_, _, h8, h9⟩ := PF.scope h
  have hv : vs.length = p.fn.ar := r.length.trans hl
  have get : ∀ (i : Nat) (sv : SV), (ds.map (fun d => some (SV.val d)) ++ List.replicate (p.fn.sl - p.fn.ar) none)[i]? = some (some sv) → ∃ d, ds[i]? = some d ∧ sv = .val d := fun i sv g => by
    by_cases hi : i < ds.length
    · rw [List.getElem?_append_left (by simpa using hi), List.getElem?_map, List.getElem?_eq_getElem hi] at g
      cases g
      exact ⟨_, List.getElem?_eq_getElem hi, rfl⟩
    · rw [List.getElem?_append_right (by simpa using hi), List.getElem?_replicate] at g
      split at g <;> cases g
  refine ⟨fh, c, ⟨?_, fun i sv g => ?_, fun i j es fs a g1 g2 _ _ => ?_, fun i j es fs a g1 g2 _ _ => ?_⟩⟩
  · unfold L2.start
    rw [List.length_append, List.length_append, List.length_map, List.length_map, List.length_replicate, List.length_replicate, hv, hl]
    omega
  · obtain ⟨d, g1, rfl⟩ := get i sv g
    obtain ⟨v, g2, g3⟩ := r.get g1
    refine ⟨v, ?_, g3⟩
    unfold L2.start
    have hi : i < vs.length := (List.getElem?_eq_some_iff.mp g2).1
    rw [List.getElem?_append_left (by simpa using hi), List.getElem?_map, g2]
    rfl
  · obtain ⟨d, _, e⟩ := get i _ g1
    cases e
  · obtain ⟨d, _, e⟩ := get i _ g1
    cases e
theorem prog_ok (pfs : List PF) (gls : List Str) (Γ : GlS) (hchk : pfs.all (fun p => p.ok (pfs.map (·.name)) gls) = true) (hf : ∀ p ∈ pfs, ∃ fa fd, PFact K mg p fa fd)
    (hg : ∀ g x d, gls[g]? = some x → Γ g = some d → ∃ v u, mg x = some u ∧ RelV v u ∧ ∀ F ρ, Dr K F ρ v d) (hb : ∀ x ∈ biAll, mg x = none) :
    ∀ (k i : Nat) (p : PF), pfs[i]? = some p → ∀ fa fd, PFact K mg p fa fd → FnOk P w K mg base CX0 k fa fd p.ps (spF K (run (pfs.map (·.fn)) Γ k i))
  | 0, i, p, hi, fa, fd, T => by
    have no : ∀ vs H Q E, ¬ spF K (run (pfs.map (·.fn)) Γ 0 i) vs H Q E := fun vs H Q E ⟨F, ρ, μ, ds, d, μ', _, _, _, h, _⟩ => by rw [run] at h; cases h
    exact ⟨fun vs H Q E h => (no vs H Q E h).elim, fun A outer s H args us vs Q E _ _ _ _ h => (no vs H Q E h).elim⟩
  | k + 1, i, p, hi, fa, fd, T => by
    have ih := prog_ok pfs gls Γ hchk hf hg hb k
    have hp := List.all_eq_true.mp hchk p (List.mem_of_getElem? hi)
    obtain ⟨hS, hm, h8, h9⟩ := PF.scope hp
    have hfn : (pfs.map (·.fn))[i]? = some p.fn := by rw [List.getElem?_map, hi]; rfl
    refine T.fun_.ok hS (fun vs H Q E h => ?_) fun cdv A outer s H vs Q E hr h => ?_
    · obtain ⟨F, ρ, μ, ds, d, μ', _, _, h3, h4, _⟩ := h
      rw [run, hfn] at h4
      dsimp only [Option.bind_some] at h4
      split at h4
      · rename_i hl
        rw [ps_len hp, h3.length, hl]
      · cases h4
    · obtain ⟨F, ρ, μ, ds, d, μ', fh, c, r, h4, q⟩ := h
      rw [run, hfn] at h4
      dsimp only [Option.bind_some] at h4
      split at h4
      case isFalse => cases h4
      rename_i hl
      obtain ⟨fl, h5, h6⟩ := Option.bind_eq_some_iff.mp h4
      have G : CG ⟨p.N, pfs.map (·.name), gls⟩ (run (pfs.map (·.fn)) Γ k) Γ k (cxOf CX0 P w K mg base p.N p.name (defScope p.st) fa cdv A outer s H E).nox (defScope p.st) :=
        { hN := rfl, nd := hS.nd, calm := rfl, room := hr, loc := fun _ h => h, cel := fun _ h => h, fre := fun _ h => .inr h, glo := fun _ h => h, kind := hS.kind, cfn := fun _ _ => rfl
          fns := fun f x hx => by
            rw [List.getElem?_map] at hx
            obtain ⟨pf, h1, h2⟩ := Option.map_eq_some_iff.mp hx
            obtain ⟨fa', fd', T'⟩ := hf pf (List.mem_of_getElem? h1)
            exact ⟨fa', fd', pf.ps, by rw [← h2]; exact T'.mgf, T'.fun_.kp, ih f pf h1 fa' fd' T', T'.bnd⟩
          gls := hg
          bis := hb }
      refine ⟨_, (pssS G PassesOwn.never p.fn.body _ hm).nox, F, H, ρ, F, ρ, _, μ, fl, start_env hp fh c r hl, .refl, h5, ?_⟩
      cases fl with
      | nx e m =>
        cases h6
        exact fun σ' F' H' ρ' S' E' _ => q _ F' H' ρ' E' S'.fh S'.cells .non
      | rt d' m =>
        cases h6
        exact fun v F' H' ρ' E' s' c' r' => q v F' H' ρ' E' s' c' r'
      | bk e m => cases h6
      | ct e m => cases h6
end
end Py
end
section
set_option Elab.async false
set_option linter.all false
set_option maxRecDepth 100000
set_option maxHeartbeats 4000000
namespace Py
open PySem L2 RZ
/-! ### from the head's facts -/
def dOf (p : PF) : He.DefD := ⟨(p.name, none), p.name, p.name, defArgs p.st, defBody p.st, defScope p.st, [], []⟩
def faOf (pfs : List PF) : List He.Fa := pfs.map (fun p => .glo p.name) ++ biAll.map .free
def BindOk (p : PF) : Prop := ∀ (kV doc pm : Value) (an : Option Addr) (cdv ct : Value) (us : List Value), us.length = p.ps.length →
  bindArgs (PySem.W.fnOf p.name p.name (defArgs p.st) (defBody p.st) (defScope p.st) .none kV doc pm an cdv ct) ⟨us, []⟩ = pure (p.ps.zip us)
section
variable {K : PySem.W.Frag} {h : Heap} {mg : Str → Option Value}
theorem facts_of {pfs : List PF} (c : He.SaysD (faOf pfs) (pfs.map dOf) K) (X : K.In h) (G : h.Ns mainGlobals mg) (hb : ∀ p ∈ pfs, BindOk p) :
    (∀ (i : Nat) (p : PF), pfs[i]? = some p → ∃ fd, PFact K mg p (He.ga K p.name) fd) ∧ ∀ x ∈ biAll, mg x = none := by
  constructor
  · intro i p hi
    have h1 : (pfs.map dOf)[i]? = some (dOf p) := by rw [List.getElem?_map, hi]; rfl
    obtain ⟨fd, F⟩ := c.def_ i h1
    have hlt : i < pfs.length := (List.getElem?_eq_some_iff.mp hi).1
    have h2 : (faOf pfs)[i]? = some (.glo p.name) := by
      unfold faOf
      rw [List.getElem?_append_left (by simpa using hlt), List.getElem?_map, hi]
      rfl
    exact ⟨fd, He.glo_ok X G (c.fact i h2), F, FunD.bindsN F (hb p (List.mem_of_getElem? hi))⟩
  · intro x hx
    obtain ⟨j, hj, e⟩ := List.getElem_of_mem hx
    have h2 : (faOf pfs)[pfs.length + j]? = some (.free x) := by
      unfold faOf
      rw [List.getElem?_append_right (by simp), List.length_map, Nat.add_sub_cancel_left, List.getElem?_map, List.getElem?_eq_getElem hj, e]
      rfl
    exact He.free_ok X G (c.fact _ h2)
end
/-- the law's own promise, from the run upon data -/
theorem law_sp {K : PySem.W.Frag} {φ : List D → Store → Option (D × Store)} (hφ : ∀ ns : List Int, ns.length ≤ 63 → ∃ μ', φ [.scr (ns.map D.int)] [] = some (.bl true, μ')) (H : Hp) (a : Addr) (ns : List Int) (hl : ns.length ≤ 63) (hS : SqL K H a (ns.map V.int)) :
    spF K φ [.ref a] H (fun v _ => v = .bl true) (fun _ _ _ => False) := by
  obtain ⟨μ', e⟩ := hφ ns hl
  refine ⟨H, [], [], [.scr (ns.map D.int)], .bl true, μ', Same.refl _, ⟨rfl, fun i j a h => by simp at h, fun i a ds h => by simp at h⟩, .cons (.scr hS (DrL.ints ns)) .nil, e, fun v F' H' ρ' _ _ _ r => ?_⟩
  cases r
  rfl
/-- all of the text, from the head's facts to the law's promise -/
theorem law_ok {P : Program} {w : World} {K : PySem.W.Frag} {h : Heap} {mg : Str → Option Value} {fa : Addr} (pfs : List PF) (gls : List Str) (Γ : GlS) (k i : Nat) (p : PF) (hi : pfs[i]? = some p) (hps : p.ps = [("script" : Str)])
    (hchk : pfs.all (fun p => p.ok (pfs.map (·.name)) gls) = true) (hb : ∀ p ∈ pfs, BindOk p) (hg : ∀ g x d, gls[g]? = some x → Γ g = some d → ∃ v u, mg x = some u ∧ RelV v u ∧ ∀ F ρ, Dr K F ρ v d)
    (X : K.In h) (G : h.Ns mainGlobals mg) (hfa : mg p.name = some (.ref fa)) (c : He.SaysD (faOf pfs) (pfs.map dOf) K) :
    ∃ fd : FuncData, (∀ (s : Shared) (v : Value), BindsTo s fd ⟨[v], []⟩ [("script", v)]) ∧ ∀ base : Heap, K.In base → base.Ns mainGlobals mg → FnOk P w K mg base CX0 k fa fd [("script" : Str)] (spF K (run (pfs.map (·.fn)) Γ k i)) := by
  obtain ⟨f1, f2⟩ := facts_of c X G hb
  obtain ⟨fd, T⟩ := f1 i p hi
  have e := hfa.symm.trans T.mgf
  cases e
  refine ⟨fd, fun s v => ?_, fun base _ _ => ?_⟩
  · have := FunD.bindsA T.fun_ (hb p (List.mem_of_getElem? hi)) s [v] (by rw [hps]; rfl)
    rw [hps] at this
    exact this
  · have := prog_ok (P := P) (w := w) (base := base) pfs gls Γ hchk (fun q hq => by
      obtain ⟨j, hj, e⟩ := List.getElem_of_mem hq
      obtain ⟨fd', T'⟩ := f1 j q (by rw [List.getElem?_eq_getElem hj, e])
      exact ⟨_, fd', T'⟩) hg f2 k i p hi _ fd T
    rw [hps] at this
    exact this

/-! ### the module's constants -/
mutual
/-- the value stands for the data, by what K holds -/
def datB (K : PySem.W.Frag) : D → Value → Bool
  | .non, .none => true
  | .bl b, .bool c => decide (b = c)
  | .int i, .int j _ => decide (i = j)
  | .str x, .str y _ => decide (x = y)
  | .tup ds, .ref a => (match K.lookup a with
    | some ⟨.type c, _, .seq its _, _⟩ => decide (c = "tuple") && (decide (its.size ≤ sizeLine) && datBs K ds its.toList)
    | _ => false)
  | _, _ => false
def datBs (K : PySem.W.Frag) : List D → List Value → Bool
  | [], [] => true
  | d :: ds, u :: us => datB K d u && datBs K ds us
  | _, _ => false
end
mutual
theorem datB_ok {K : PySem.W.Frag} : ∀ (d : D) (u : Value), datB K d u = true → ∃ v, RelV v u ∧ ∀ F ρ, Dr K F ρ v d
  | .non, u, h => by
    unfold datB at h
    split at h <;> first | contradiction | skip
    exact ⟨.non, rfl, fun _ _ => .non⟩
  | .bl b, u, h => by
    cases u with
    | bool c => unfold datB at h; cases of_decide_eq_true h; exact ⟨.bl b, rfl, fun _ _ => .bl b⟩
    | _ => unfold datB at h; cases h
  | .int i, u, h => by
    cases u with
    | int j t => unfold datB at h; cases of_decide_eq_true h; exact ⟨.int i, ⟨t, rfl⟩, fun _ _ => .int i⟩
    | _ => unfold datB at h; cases h
  | .str x, u, h => by
    cases u with
    | str y t => unfold datB at h; cases of_decide_eq_true h; exact ⟨.str x, ⟨t, rfl⟩, fun _ _ => .str x⟩
    | _ => unfold datB at h; cases h
  | .tup ds, u, h => by
    cases u with
    | ref a =>
      unfold datB at h
      cases q : K.lookup a with
      | none => rw [q] at h; cases h
      | some o =>
        obtain ⟨oc, od, dt, osl⟩ := o
        rw [q] at h
        cases oc with
        | type c =>
          cases dt with
          | seq its n =>
            obtain ⟨h1, h2⟩ := Bool.and_eq_true_iff.mp (show (decide (c = "tuple") && (decide (its.size ≤ sizeLine) && datBs K ds its.toList)) = true from h)
            obtain ⟨h3, h4⟩ := Bool.and_eq_true_iff.mp h2
            obtain ⟨vs, h5, h6⟩ := datBs_ok ds its.toList h4
            exact ⟨.ref a, rfl, fun F ρ => .tup (.inr ⟨_, its, n, q, congrArg Value.type (of_decide_eq_true h1), rfl, of_decide_eq_true h3, h5⟩) (h6 F ρ)⟩
          | _ => cases h
        | _ => cases dt <;> cases h
    | _ => unfold datB at h; cases h
  | .lst _, u, h => by unfold datB at h; cases h
  | .scr _, u, h => by unfold datB at h; cases h
  | .mr _, u, h => by unfold datB at h; cases h
  | .rg _ _, u, h => by unfold datB at h; cases h
theorem datBs_ok {K : PySem.W.Frag} : ∀ (ds : List D) (us : List Value), datBs K ds us = true → ∃ vs, Vals vs us ∧ ∀ F ρ, DrL K F ρ vs ds
  | [], [], _ => ⟨[], .nil, fun _ _ => .nil⟩
  | [], _ :: _, h => by unfold datBs at h; cases h
  | _ :: _, [], h => by unfold datBs at h; cases h
  | d :: ds, u :: us, h => by
    rw [datBs, Bool.and_eq_true] at h
    obtain ⟨v, h1, h2⟩ := datB_ok d u h.1
    obtain ⟨vs, h3, h4⟩ := datBs_ok ds us h.2
    exact ⟨v :: vs, .cons h1 h3, fun F ρ => .cons (h2 F ρ) (h4 F ρ)⟩
end
/-- the constants hold in K -/
def conB (cons : List (Str × D)) (K : PySem.W.Frag) : Bool := cons.all fun p => match PySem.W.nsIn K mainGlobals p.1 with
  | some (some u) => datB K p.2 u
  | _ => false
def ΓC (cons : List (Str × D)) : GlS := fun g => (cons[g]?).map (·.2)
theorem hg_of {cons : List (Str × D)} {K : PySem.W.Frag} {h : Heap} {mg : Str → Option Value} (X : K.In h) (G : h.Ns mainGlobals mg) (c : conB cons K = true) :
    ∀ g x d, (cons.map (·.1))[g]? = some x → ΓC cons g = some d → ∃ v u, mg x = some u ∧ RelV v u ∧ ∀ F ρ, Dr K F ρ v d := by
  intro g x d h1 h2
  unfold ΓC at h2
  rw [List.getElem?_map] at h1
  obtain ⟨p, h3, rfl⟩ := Option.map_eq_some_iff.mp h1
  rw [h3] at h2
  cases h2
  have h4 := List.all_eq_true.mp c p (List.mem_of_getElem? h3)
  split at h4
  · rename_i u hu
    obtain ⟨v, h5, h6⟩ := datB_ok p.2 u h4
    exact ⟨v, u, PySem.W.mg_of X G hu, h5, h6⟩
  · cases h4
abbrev AlC : Type := He.AlD × Bool
def obsC (n : Nat) (fa : List He.Fa) (fn : List He.DefD) (ex : PySem.W.Frag → Bool) (g : Addr → Option Obj) : AlC := (He.obsD fa fn (He.frG g (He.asD g n)), ex (He.frG g (He.asD g n)))
def hookC (n : Nat) (fa : List He.Fa) (fn : List He.DefD) (ex : PySem.W.Frag → Bool) : PySem.W.Hook where
  α := AlC
  obs := fun s => obsC n fa fn ex s.heap.get?
  val := fun _ => (He.valD fn, true)
  says := fun _ h => ∃ K : PySem.W.Frag, K.In h ∧ (He.SaysD fa fn K ∧ ex K = true)
  of := fun _ _ e => ⟨_, He.frG_in, congrArg (fun z : AlC => z.1) e, congrArg (fun z : AlC => z.2) e⟩
  keeps := fun _ _ _ ⟨K, hK, c⟩ k => ⟨K, PySem.W.Frag.In.keeps hK k, c⟩
theorem obsC_eq {n : Nat} {fa : List He.Fa} {fn : List He.DefD} {ex : PySem.W.Frag → Bool} {g : Addr → Option Obj} {s : Shared} (h : ∀ a, g a = s.heap.get? a) : obsC n fa fn ex g = (hookC n fa fn ex).obs s := by
  have e : g = s.heap.get? := funext h
  rw [e] <;> rfl
end Py
end
section
set_option Elab.async false
set_option linter.all false
namespace Py
open PySem L2
/-! ### reckoning upon data -/
def fin (r : Option Fl) : Option (D × Store) := r.bind fun
  | .rt d μ' => some (d, μ')
  | .nx _ μ' => some (.non, μ')
  | _ => none
@[simp] theorem fin_rt (d : D) (μ : Store) : fin (some (.rt d μ)) = some (d, μ) := rfl
@[simp] theorem fin_nx (e : Env) (μ : Store) : fin (some (.nx e μ)) = some (.non, μ) := rfl
theorem run_fin {fs : List Fn} {Γ : GlS} {k f : Nat} {fn : Fn} (h : fs[f]? = some fn) {ds : List D} {μ : Store} (hl : ds.length = fn.ar) :
    run fs Γ (k + 1) f ds μ = fin (exs (run fs Γ k) Γ fn.body (ds.map (fun d => some (.val d)) ++ List.replicate (fn.sl - fn.ar) none) μ) := by
  rw [run, h]
  dsimp only [Option.bind_some]
  rw [if_pos hl]
  rfl
section
variable {Φ : FnS} {Γ : GlS} {env : Env} {μ : Store}
/-- one statement, then the others -/
theorem exs_nx {s : S} {r : List S} {env' : Env} {μ' : Store} (h : ex Φ Γ s env μ = some (.nx env' μ')) : exs Φ Γ (s :: r) env μ = exs Φ Γ r env' μ' := by
  rw [exs, h]; rfl
theorem exs_rt {s : S} {r : List S} {d : D} {μ' : Store} (h : ex Φ Γ s env μ = some (.rt d μ')) : exs Φ Γ (s :: r) env μ = some (.rt d μ') := by
  rw [exs, h]; rfl
theorem exs_one {s : S} : exs Φ Γ [s] env μ = ex Φ Γ s env μ := by
  rw [exs]
  cases ex Φ Γ s env μ with
  | none => rfl
  | some f => cases f <;> simp [exs]
/-- a while, one turn -/
theorem whS_eq {c : Env → Store → Option (Bool × Store)} {b : Env → Store → Option Fl} : whS c b env μ = (c env μ).bind fun p => if p.1 then (b env p.2).bind fun
    | .nx env' μ' => whS c b env' μ'
    | .ct env' μ' => whS c b env' μ'
    | .bk env' μ' => some (.nx env' μ')
    | .rt d μ' => some (.rt d μ')
  else some (.nx env p.2) := by
  apply Option.ext
  intro r
  rw [whS_some]
  constructor
  · rintro ⟨n, h⟩
    cases n with
    | zero => rw [whN] at h; cases h
    | succ n =>
      rw [whN] at h
      obtain ⟨⟨k, μ1⟩, h1, h2⟩ := Option.bind_eq_some_iff.mp h
      rw [h1]
      dsimp only [Option.bind_some] at h2 ⊢
      cases k with
      | false => exact h2
      | true =>
        rw [if_pos rfl] at h2 ⊢
        obtain ⟨fl, h3, h4⟩ := Option.bind_eq_some_iff.mp h2
        rw [h3]
        cases fl with
        | nx e m => exact whS_some.mpr ⟨n, h4⟩
        | ct e m => exact whS_some.mpr ⟨n, h4⟩
        | bk e m => exact h4
        | rt d m => exact h4
  · intro h
    obtain ⟨⟨k, μ1⟩, h1, h2⟩ := Option.bind_eq_some_iff.mp h
    dsimp only at h2
    cases k with
    | false =>
      rw [if_neg Bool.false_ne_true] at h2
      exact ⟨1, by rw [whN, h1]; exact h2⟩
    | true =>
      rw [if_pos rfl] at h2
      obtain ⟨fl, h3, h4⟩ := Option.bind_eq_some_iff.mp h2
      cases fl with
      | nx e m =>
        obtain ⟨n, hn⟩ := whS_some.mp h4
        refine ⟨n + 1, ?_⟩
        rw [whN, h1]
        dsimp only [Option.bind_some]
        rw [if_pos rfl, h3]
        exact hn
      | ct e m =>
        obtain ⟨n, hn⟩ := whS_some.mp h4
        refine ⟨n + 1, ?_⟩
        rw [whN, h1]
        dsimp only [Option.bind_some]
        rw [if_pos rfl, h3]
        exact hn
      | bk e m =>
        refine ⟨1, ?_⟩
        rw [whN, h1]
        dsimp only [Option.bind_some]
        rw [if_pos rfl, h3]
        exact h4
      | rt d m =>
        refine ⟨1, ?_⟩
        rw [whN, h1]
        dsimp only [Option.bind_some]
        rw [if_pos rfl, h3]
        exact h4
end
section
variable {c : Env → Store → Option (Bool × Store)} {b : Env → Store → Option Fl} {env env' : Env} {μ μ' μ1 : Store} {t : T} {d : D} {ds : List D}
theorem whS_go (hc : c env μ = some (true, μ1)) (hb : b env μ1 = some (.nx env' μ')) : whS c b env μ = whS c b env' μ' := by
  rw [whS_eq, hc]
  simp only [Option.bind_some, if_true, hb]
theorem whS_end (hc : c env μ = some (false, μ1)) : whS c b env μ = some (.nx env μ1) := by
  rw [whS_eq, hc]
  simp
theorem whS_rt (hc : c env μ = some (true, μ1)) (hb : b env μ1 = some (.rt d μ')) : whS c b env μ = some (.rt d μ') := by
  rw [whS_eq, hc]
  simp only [Option.bind_some, if_true, hb]
theorem whS_bk (hc : c env μ = some (true, μ1)) (hb : b env μ1 = some (.bk env' μ')) : whS c b env μ = some (.nx env' μ') := by
  rw [whS_eq, hc]
  simp only [Option.bind_some, if_true, hb]
theorem forS_nil : forS t b [] env μ = some (.nx env μ) := rfl
theorem forS_go {env1 : Env} (ha : asgT t d env = some env1) (hb : b env1 μ = some (.nx env' μ')) : forS t b (d :: ds) env μ = forS t b ds env' μ' := by
  rw [forS, ha]; simp only [Option.bind_some, hb]
theorem forS_rt {env1 : Env} {d' : D} (ha : asgT t d env = some env1) (hb : b env1 μ = some (.rt d' μ')) : forS t b (d :: ds) env μ = some (.rt d' μ') := by
  rw [forS, ha]; simp only [Option.bind_some, hb]
theorem forS_bk {env1 : Env} (ha : asgT t d env = some env1) (hb : b env1 μ = some (.bk env' μ')) : forS t b (d :: ds) env μ = some (.nx env' μ') := by
  rw [forS, ha]; simp only [Option.bind_some, hb]
/-- a for by what holds between two turns -/
theorem forS_inv (P : Nat → Env → Store → Prop) (h0 : P 0 env μ) (hs : ∀ i env μ d, ds[i]? = some d → P i env μ → ∃ env1 env' μ', asgT t d env = some env1 ∧ (b env1 μ = some (.nx env' μ') ∨ b env1 μ = some (.ct env' μ')) ∧ P (i + 1) env' μ') :
    ∃ env' μ', forS t b ds env μ = some (.nx env' μ') ∧ P ds.length env' μ' := by
  induction ds generalizing P env μ with
  | nil => exact ⟨env, μ, rfl, h0⟩
  | cons x xs ih =>
    obtain ⟨env1, env', μ', ha, hb, hp⟩ := hs 0 env μ x rfl h0
    obtain ⟨env2, μ2, h1, h2⟩ := ih (fun i => P (i + 1)) hp fun i e m d hd hp => hs (i + 1) e m d (by simpa using hd) hp
    refine ⟨env2, μ2, ?_, by simpa using h2⟩
    rw [forS, ha]
    rcases hb with hb | hb
    · simp only [Option.bind_some, hb]; exact h1
    · simp only [Option.bind_some, hb]; exact h1
end
/-! equality of data -/
theorem eqS_int (a b : Int) : eqS (.int a) (.int b) = some (a == b) := by
  simp [eqS, toPy, SeqAt.shaped, PyData.canLay0, PyData.depth, PyData.eqv]
theorem eqS_bl (a b : Bool) : eqS (.bl a) (.bl b) = some (a == b) := by
  simp [eqS, toPy, SeqAt.shaped, PyData.canLay0, PyData.depth, PyData.eqv]
theorem eqS_str (a b : Str) (ha : PyData.strOk a = true) (hb : PyData.strOk b = true) : eqS (.str a) (.str b) = some (a == b) := by
  simp [eqS, toPy, SeqAt.shaped, PyData.canLay0, PyData.depth, PyData.eqv, ha, hb]
theorem atI_nil {i : Int} : atI ([] : List D) i = none := by
  unfold atI
  cases ixN ([] : List D).length i <;> rfl
theorem atI_of {ds : List D} {j : Nat} (h : j < ds.length) : atI ds (j : Int) = some ds[j] := atI_nat (List.getElem?_eq_getElem h)
/-! ratios -/
def rD (r : Rat) : D := .tup [.int r.num, .int r.den]
/-- a size -/
def Sz (n : Nat) (r : Rat) : Prop := r.num.natAbs < 2 ^ n ∧ r.den < 2 ^ n
theorem log2_lt {n m : Nat} (h : n < 2 ^ m) (hm : 0 < m) : n.log2 < m := by
  by_cases q : n = 0
  · subst q; simpa using hm
  · exact (Nat.log2_lt q).mpr h
theorem mulOk_of {i j : Int} {a b : Nat} (hi : i.natAbs < 2 ^ a) (hj : j.natAbs < 2 ^ b) (h : a + b ≤ 900000 := by decide) : mulOk i j = true := by
  unfold mulOk
  have h1 : i.natAbs.log2 ≤ a := by
    by_cases q : i.natAbs = 0
    · rw [q]; simp
    · exact Nat.le_of_lt ((Nat.log2_lt q).mpr hi)
  have h2 : j.natAbs.log2 ≤ b := by
    by_cases q : j.natAbs = 0
    · rw [q]; simp
    · exact Nat.le_of_lt ((Nat.log2_lt q).mpr hj)
  exact decide_eq_true (by omega)
theorem divOk_of {j : Int} {b : Nat} (h0 : 0 < j) (hj : j.natAbs < 2 ^ b) (h : b ≤ 8999 := by decide) : divOk j = true := by
  unfold divOk
  rw [Bool.and_eq_true]
  refine ⟨decide_eq_true h0, decide_eq_true ?_⟩
  have q : j.natAbs ≠ 0 := by omega
  exact Nat.lt_of_lt_of_le ((Nat.log2_lt q).mpr hj) (by omega)
end Py
end
section
set_option Elab.async false
set_option linter.all false
namespace Py
open PySem L2
/-! ### ratios as data -/
theorem Sz.mono {n m : Nat} {r : Rat} (h : Sz n r) (hm : n ≤ m := by decide) : Sz m r :=
  ⟨Nat.lt_of_lt_of_le h.1 (Nat.pow_le_pow_right (by decide) hm), Nat.lt_of_lt_of_le h.2 (Nat.pow_le_pow_right (by decide) hm)⟩
theorem Sz.neg {n : Nat} {r : Rat} (h : Sz n r) : Sz n (-r) := ⟨by rw [Rat.neg_num, Int.natAbs_neg]; exact h.1, h.2⟩
theorem Sz.int {n : Nat} {i : Int} (h : i.natAbs < 2 ^ n) (hn : 0 < n := by decide) : Sz n (i : Rat) := ⟨h, Nat.one_lt_two_pow (by omega)⟩
theorem rD_divInt {p q : Int} (hq : 0 < q) : rD (Rat.divInt p q) = .tup [.int (p / (Int.gcd p q : Int)), .int (q / (Int.gcd p q : Int))] := by
  unfold rD
  rw [Rat.num_divInt, Rat.den_divInt, Int.sign_eq_one_of_pos hq, Int.one_mul, if_neg (by omega), Int.gcd_comm q p]
  congr 3
  rw [Int.natCast_ediv, Int.natAbs_of_nonneg (Int.le_of_lt hq)]
theorem Sz.divInt {p q : Int} {n : Nat} (hp : p.natAbs < 2 ^ n) (hq : q.natAbs < 2 ^ n) (h0 : q ≠ 0) : Sz n (Rat.divInt p q) := by
  constructor
  · rw [Rat.num_divInt]
    refine Nat.lt_of_le_of_lt (Int.natAbs_ediv_le_natAbs _ _) ?_
    rw [Int.natAbs_mul]
    have : q.sign.natAbs = 1 := Int.natAbs_sign_of_ne_zero h0
    rw [this, Nat.one_mul]
    exact hp
  · rw [Rat.den_divInt, if_neg h0]
    exact Nat.lt_of_le_of_lt (Nat.div_le_self _ _) hq
theorem abs_mul_lt {a b : Int} {n m : Nat} (ha : a.natAbs < 2 ^ n) (hb : b.natAbs < 2 ^ m) : (a * b).natAbs < 2 ^ (n + m) := by
  rw [Int.natAbs_mul, Nat.pow_add]
  exact Nat.mul_lt_mul'' ha hb
theorem abs_add_lt {a b : Int} {n : Nat} (ha : a.natAbs < 2 ^ n) (hb : b.natAbs < 2 ^ n) : (a + b).natAbs < 2 ^ (n + 1) := by
  rw [Nat.pow_succ]
  have := Int.natAbs_add_le a b
  omega
theorem Sz.den {n : Nat} {r : Rat} (h : Sz n r) : (r.den : Int).natAbs < 2 ^ n := h.2
theorem den_ne (r : Rat) : (r.den : Int) ≠ 0 := by have := r.den_nz; omega
theorem den_mul_ne (r s : Rat) : (r.den : Int) * s.den ≠ 0 := Int.mul_ne_zero (den_ne r) (den_ne s)
theorem mul_divInt (s t : Rat) : Rat.divInt (s.num * t.num) (s.den * t.den) = s * t := by
  rw [Rat.mul_def', ← Int.natCast_mul, Rat.divInt_ofNat]
theorem add_divInt (s t : Rat) : Rat.divInt (s.num * t.den + t.num * s.den) (s.den * t.den) = s + t := by
  rw [Rat.add_def', ← Int.natCast_mul, Rat.divInt_ofNat]
theorem div_divInt (s t : Rat) : Rat.divInt (s.num * t.den) (s.den * t.num) = s / t := by
  rw [Rat.div_def, Rat.inv_def, ← Rat.divInt_mul_divInt, Rat.num_divInt_den]
theorem Sz.mul {n m : Nat} {r s : Rat} (h : Sz n r) (h' : Sz m s) : Sz (n + m) (r * s) := by
  rw [← mul_divInt]
  exact Sz.divInt (abs_mul_lt h.1 h'.1) (abs_mul_lt h.den h'.den) (den_mul_ne r s)
theorem Sz.add {n m : Nat} {r s : Rat} (h : Sz n r) (h' : Sz m s) : Sz (n + m + 1) (r + s) := by
  rw [← add_divInt]
  refine Sz.divInt (abs_add_lt (abs_mul_lt h.1 h'.den) ?_) ?_ (den_mul_ne r s)
  · rw [Nat.add_comm n m]; exact abs_mul_lt h'.1 h.den
  · exact Nat.lt_of_lt_of_le (abs_mul_lt h.den h'.den) (Nat.pow_le_pow_right (by decide) (by omega))
theorem num_ne {t : Rat} (h : t ≠ 0) : t.num ≠ 0 := fun z => h (Rat.num_eq_zero.mp z)
theorem Sz.div {n m : Nat} {r s : Rat} (h : Sz n r) (h' : Sz m s) (h0 : s ≠ 0) : Sz (n + m) (r / s) := by
  rw [← div_divInt]
  exact Sz.divInt (abs_mul_lt h.1 h'.den) (abs_mul_lt h.den h'.1) (Int.mul_ne_zero (den_ne r) (num_ne h0))
theorem Sz.sub {n m : Nat} {r s : Rat} (h : Sz n r) (h' : Sz m s) : Sz (n + m + 1) (r - s) := by
  rw [Rat.sub_eq_add_neg]; exact h.add h'.neg
theorem rD_inj {r s : Rat} (h : rD r = rD s) : r = s := by
  unfold rD at h
  injection h with h
  injection h with h1 h2
  injection h1 with h1
  injection h2 with h2 _
  injection h2 with h2
  exact Rat.ext h1 (by exact_mod_cast h2)
theorem gcd_fmod (p q : Int) (h : 0 < q) : Int.gcd q (p.fmod q) = Int.gcd p q := by
  rw [Int.fmod_eq_emod_of_nonneg p (Int.le_of_lt h), Int.gcd_comm]
  have := Int.gcd_add_mul_right_left q (p % q) (p / q)
  rw [Int.emod_add_ediv_mul] at this
  exact this.symm
theorem gcd_lt {p q : Int} {n : Nat} (h0 : q ≠ 0) (hq : q.natAbs < 2 ^ n) : ((Int.gcd p q : Nat) : Int).natAbs < 2 ^ n := by
  rw [Int.natAbs_natCast]
  refine Nat.lt_of_le_of_lt (Nat.le_of_dvd (by omega) ?_) hq
  exact Nat.gcd_dvd_right _ _
theorem gcd_pos' {p q : Int} (h0 : q ≠ 0) : 0 < ((Int.gcd p q : Nat) : Int) := by
  have : 0 < Int.gcd p q := Int.gcd_pos_of_ne_zero_right _ h0
  omega
/-- the test and the body of a while that reckons the greatest common divisor -/
theorem gcd_loop {c : Env → Store → Option (Bool × Store)} {b : Env → Store → Option Fl} {μ : Store} (hc : ∀ p q : Int, c [some (.val (.int p)), some (.val (.int q))] μ = some (decide (q ≠ 0), μ))
    (hb : ∀ p q : Int, q ≠ 0 → b [some (.val (.int p)), some (.val (.int q))] μ = some (.nx [some (.val (.int q)), some (.val (.int (p.fmod q)))] μ)) :
    ∀ (n : Nat) (p q : Int), 0 ≤ q → q.toNat ≤ n → ∃ r, whS c b [some (.val (.int p)), some (.val (.int q))] μ = some (.nx [some (.val (.int r)), some (.val (.int 0))] μ) ∧ r.natAbs = Int.gcd p q
  | n, p, q, h0, hn => by
    by_cases hq : q = 0
    · subst hq
      exact ⟨p, whS_end (by simpa using hc p 0), by simp⟩
    · have hpos : 0 < q := by omega
      match n, hn with
      | 0, hn => omega
      | n + 1, hn =>
        have hlt := Int.emod_lt_of_pos p hpos
        have hge := Int.emod_nonneg p hq
        have e := Int.fmod_eq_emod_of_nonneg p h0
        obtain ⟨r, h1, h2⟩ := gcd_loop hc hb n q (p.fmod q) (by rw [e]; exact hge) (by rw [e]; omega)
        refine ⟨r, ?_, by rw [h2, gcd_fmod p q hpos]⟩
        rw [whS_go (by simpa [hq] using hc p q) (hb p q hq)]
        exact h1
end Py
end
section
set_option Elab.async false
set_option linter.all false
namespace Py
open PySem L2
/-! ### the semantics as rows for simp: each fires on constructors alone -/
section
variable {Φ : FnS} {Γ : GlS} {env : Env} {μ : Store}
@[simp] theorem ev_slot {i : Nat} : ev Φ Γ (.slot i) env μ = (getV env i).map fun d => (d, μ) := by rw [ev]
@[simp] theorem ev_glob {i : Nat} : ev Φ Γ (.glob i) env μ = (Γ i).map fun d => (d, μ) := by rw [ev]
@[simp] theorem ev_int {i : Int} : ev Φ Γ (.int i) env μ = some (.int i, μ) := by rw [ev]
@[simp] theorem ev_bl {i : Bool} : ev Φ Γ (.bl i) env μ = some (.bl i, μ) := by rw [ev]
@[simp] theorem ev_non : ev Φ Γ .non env μ = some (.non, μ) := by rw [ev]
@[simp] theorem ev_str {i : Str} : ev Φ Γ (.str i) env μ = some (.str i, μ) := by rw [ev]
@[simp] theorem ev_bin {op : Operator} {a b : E} : ev Φ Γ (.bin op a b) env μ = (ev Φ Γ a env μ).bind fun p => (ev Φ Γ b env p.2).bind fun q => (binS op p.1 q.1).map fun d => (d, q.2) := by rw [ev]
@[simp] theorem ev_neg {a : E} : ev Φ Γ (.neg a) env μ = (ev Φ Γ a env μ).bind fun p => (asInt p.1).map fun i => (.int (-i), p.2) := by rw [ev]
@[simp] theorem ev_not {a : E} : ev Φ Γ (.not a) env μ = (ev Φ Γ a env μ).bind fun p => (truS p.1).map fun b => (.bl (!b), p.2) := by rw [ev]
@[simp] theorem ev_cmp {op : CmpOp} {a b : E} : ev Φ Γ (.cmp op a b) env μ = (ev Φ Γ a env μ).bind fun p => (ev Φ Γ b env p.2).bind fun q => (cmpS op p.1 q.1).map fun d => (.bl d, q.2) := by rw [ev]
@[simp] theorem ev_isN {a : E} : ev Φ Γ (.isN a) env μ = (ev Φ Γ a env μ).map fun p => (.bl (isNon p.1), p.2) := by rw [ev]
@[simp] theorem ev_notN {a : E} : ev Φ Γ (.notN a) env μ = (ev Φ Γ a env μ).map fun p => (.bl (!isNon p.1), p.2) := by rw [ev]
@[simp] theorem ev_and {a : E} {r : Es} : ev Φ Γ (.and a r) env μ = (ev Φ Γ a env μ).bind fun p => evAnd Φ Γ p.1 r env p.2 := by rw [ev]
@[simp] theorem ev_or {a : E} {r : Es} : ev Φ Γ (.or a r) env μ = (ev Φ Γ a env μ).bind fun p => evOr Φ Γ p.1 r env p.2 := by rw [ev]
@[simp] theorem evAnd_nil {d : D} : evAnd Φ Γ d .nil env μ = some (d, μ) := by cases d <;> rw [evAnd]
@[simp] theorem evAnd_t {e : E} {r : Es} : evAnd Φ Γ (.bl true) (.cons e r) env μ = (ev Φ Γ e env μ).bind fun p => evAnd Φ Γ p.1 r env p.2 := by rw [evAnd]
@[simp] theorem evAnd_f {e : E} {r : Es} : evAnd Φ Γ (.bl false) (.cons e r) env μ = some (.bl false, μ) := by rw [evAnd]
@[simp] theorem evOr_nil {d : D} : evOr Φ Γ d .nil env μ = some (d, μ) := by cases d <;> rw [evOr]
@[simp] theorem evOr_f {e : E} {r : Es} : evOr Φ Γ (.bl false) (.cons e r) env μ = (ev Φ Γ e env μ).bind fun p => evOr Φ Γ p.1 r env p.2 := by rw [evOr]
@[simp] theorem evOr_t {e : E} {r : Es} : evOr Φ Γ (.bl true) (.cons e r) env μ = some (.bl true, μ) := by rw [evOr]
theorem evAnd_b {b : Bool} {e : E} {r : Es} : evAnd Φ Γ (.bl b) (.cons e r) env μ = if b then (ev Φ Γ e env μ).bind fun p => evAnd Φ Γ p.1 r env p.2 else some (.bl false, μ) := by cases b <;> simp
theorem evOr_b {b : Bool} {e : E} {r : Es} : evOr Φ Γ (.bl b) (.cons e r) env μ = if b then some (.bl true, μ) else (ev Φ Γ e env μ).bind fun p => evOr Φ Γ p.1 r env p.2 := by cases b <;> simp
@[simp] theorem ev_ite {a b c : E} : ev Φ Γ (.ite c a b) env μ = (evT Φ Γ c env μ).bind fun p => if p.1 then ev Φ Γ a env p.2 else ev Φ Γ b env p.2 := by rw [ev]
@[simp] theorem ev_tup {es : Es} : ev Φ Γ (.tup es) env μ = (evs Φ Γ es env μ).bind fun p => if p.1.length ≤ SZ then some (.tup p.1, p.2) else none := by rw [ev]
@[simp] theorem ev_lst {es : Es} : ev Φ Γ (.lst es) env μ = (evs Φ Γ es env μ).bind fun p => if p.1.length ≤ SZ then some (.lst p.1, p.2) else none := by rw [ev]
@[simp] theorem ev_mlst {es : Es} : ev Φ Γ (.mlst es) env μ = (evs Φ Γ es env μ).bind fun p => if p.1.length ≤ SZ then some (.mr p.2.length, p.2 ++ [p.1]) else none := by rw [ev]
@[simp] theorem ev_ix {a b : E} : ev Φ Γ (.ix a b) env μ = (ev Φ Γ a env μ).bind fun p => (ev Φ Γ b env p.2).bind fun q => (ixS q.2 p.1 q.1).map fun d => (d, q.2) := by rw [ev]
@[simp] theorem ev_slc {a : E} {lo hi : Eo} : ev Φ Γ (.slc a lo hi) env μ = (ev Φ Γ a env μ).bind fun p => (evo Φ Γ lo env p.2).bind fun q => (evo Φ Γ hi env q.2).bind fun r => (slcS p.1 q.1 r.1).map fun d => (d, r.2) := by rw [ev]
@[simp] theorem ev_call {f : Nat} {e : E} {es : Es} : ev Φ Γ (.call f e es) env μ = (ev Φ Γ e env μ).bind fun p => (evs Φ Γ es env p.2).bind fun q => Φ f (p.1 :: q.1) q.2 := by rw [ev]
@[simp] theorem ev_bi {b : Bi} {e : E} {es : Es} : ev Φ Γ (.bi b e es) env μ = (ev Φ Γ e env μ).bind fun p => (evs Φ Γ es env p.2).bind fun q => (biS q.2 b (p.1 :: q.1)).map fun d => (d, q.2) := by rw [ev]
@[simp] theorem ev_isi {e : E} {t : Ty} : ev Φ Γ (.isi e t) env μ = (ev Φ Γ e env μ).bind fun p => (isiS p.1 t).map fun b => (.bl b, p.2) := by rw [ev]
@[simp] theorem ev_dIn {neg : Bool} {i : Nat} {e : E} : ev Φ Γ (.dIn neg i e) env μ = (ev Φ Γ e env μ).bind fun p => (getD' env i).bind fun kvs => (keyS p.1).map fun k => (.bl (if neg then !(dAtS kvs k).isSome else (dAtS kvs k).isSome), p.2) := by rw [ev]
@[simp] theorem evT_dIn {neg : Bool} {i : Nat} {e : E} : evT Φ Γ (.dIn neg i e) env μ = (ev Φ Γ e env μ).bind fun p => (getD' env i).bind fun kvs => (keyS p.1).map fun k => ((if neg then !(dAtS kvs k).isSome else (dAtS kvs k).isSome), p.2) := by rw [evT]
@[simp] theorem ev_dAt {i : Nat} {e : E} : ev Φ Γ (.dAt i e) env μ = (ev Φ Γ e env μ).bind fun p => (getD' env i).bind fun kvs => (keyS p.1).bind fun k => (dAtS kvs k).map fun v => (v, p.2) := by rw [ev]
@[simp] theorem ev_dVals {i : Nat} : ev Φ Γ (.dVals i) env μ = (getD' env i).map fun kvs => (.lst (kvs.map (·.2)), μ) := by rw [ev]
@[simp] theorem ev_chain {op op' : CmpOp} {a b c : E} : ev Φ Γ (.chain op op' a b c) env μ = (ev Φ Γ a env μ).bind fun p => (ev Φ Γ b env p.2).bind fun q => (cmpS op p.1 q.1).bind fun k => if k then (ev Φ Γ c env q.2).bind fun r => (cmpS op' q.1 r.1).map fun k' => (.bl k', r.2) else some (.bl false, q.2) := by rw [ev]
@[simp] theorem evT_chain {op op' : CmpOp} {a b c : E} : evT Φ Γ (.chain op op' a b c) env μ = (ev Φ Γ a env μ).bind fun p => (ev Φ Γ b env p.2).bind fun q => (cmpS op p.1 q.1).bind fun k => if k then (ev Φ Γ c env q.2).bind fun r => (cmpS op' q.1 r.1).map fun k' => (k', r.2) else some (false, q.2) := by rw [evT]
@[simp] theorem ev_rngL2 {a b : E} : ev Φ Γ (.rngL2 a b) env μ = (ev Φ Γ a env μ).bind fun p => (ev Φ Γ b env p.2).bind fun q => (asInt p.1).bind fun i => (asInt q.1).bind fun j => (rngS i j).map fun ds => (.lst ds, q.2) := by rw [ev]
@[simp] theorem ev_rngL {e : E} : ev Φ Γ (.rngL e) env μ = (ev Φ Γ e env μ).bind fun p => (asInt p.1).bind fun j => (rngS 0 j).map fun ds => (.lst ds, p.2) := by rw [ev]
theorem ev_lc {e : E} {t : T} {it : I} {c : Eo} {vs : List Nat} : ev Φ Γ (.lc e t it c vs) env μ = (evI Φ Γ it env μ).bind fun p => if p.1.length ≤ SZ then (lcS t (fun env' μ' => evc Φ Γ c env' μ') (fun env' μ' => ev Φ Γ e env' μ') (wipeE env vs) p.1 p.2).map fun q => (.lst q.1, q.2) else none := by rw [ev]
theorem ev_bor {i : Nat} {e : E} : ev Φ Γ (.bor i e) env μ = (getO env i).bind fun ds => (ev Φ Γ e (env.set i (some (.val (.lst ds)))) μ).bind fun p => if noL p.1 && scalS p.2 then some p else none := by rw [ev]
@[simp] theorem evs_nil : evs Φ Γ .nil env μ = some ([], μ) := by rw [evs]
@[simp] theorem evs_cons {e : E} {r : Es} : evs Φ Γ (.cons e r) env μ = (ev Φ Γ e env μ).bind fun p => (evs Φ Γ r env p.2).map fun q => (p.1 :: q.1, q.2) := by rw [evs]
@[simp] theorem evo_none : evo Φ Γ .none env μ = some (none, μ) := by rw [evo]
@[simp] theorem evo_some {e : E} : evo Φ Γ (.some e) env μ = (ev Φ Γ e env μ).bind fun p => (asInt p.1).map fun i => (some i, p.2) := by rw [evo]
@[simp] theorem evc_none : evc Φ Γ .none env μ = some (true, μ) := by rw [evc]
@[simp] theorem evc_some {e : E} : evc Φ Γ (.some e) env μ = evT Φ Γ e env μ := by rw [evc]
@[simp] theorem evT_not {a : E} : evT Φ Γ (.not a) env μ = (evT Φ Γ a env μ).map fun p => (!p.1, p.2) := by rw [evT]
@[simp] theorem evT_and {a : E} {r : Es} : evT Φ Γ (.and a r) env μ = (evT Φ Γ a env μ).bind fun p => if p.1 then evTAnd Φ Γ r env p.2 else some (false, p.2) := by rw [evT]
@[simp] theorem evT_or {a : E} {r : Es} : evT Φ Γ (.or a r) env μ = (evT Φ Γ a env μ).bind fun p => if p.1 then some (true, p.2) else evTOr Φ Γ r env p.2 := by rw [evT]
@[simp] theorem evTAnd_nil : evTAnd Φ Γ .nil env μ = some (true, μ) := by rw [evTAnd]
@[simp] theorem evTAnd_cons {e : E} {r : Es} : evTAnd Φ Γ (.cons e r) env μ = (evT Φ Γ e env μ).bind fun p => if p.1 then evTAnd Φ Γ r env p.2 else some (false, p.2) := by rw [evTAnd]
@[simp] theorem evTOr_nil : evTOr Φ Γ .nil env μ = some (false, μ) := by rw [evTOr]
@[simp] theorem evTOr_cons {e : E} {r : Es} : evTOr Φ Γ (.cons e r) env μ = (evT Φ Γ e env μ).bind fun p => if p.1 then some (true, p.2) else evTOr Φ Γ r env p.2 := by rw [evTOr]
@[simp] theorem evT_cmp {op : CmpOp} {a b : E} : evT Φ Γ (.cmp op a b) env μ = (ev Φ Γ a env μ).bind fun p => (ev Φ Γ b env p.2).bind fun q => (cmpS op p.1 q.1).map fun d => (d, q.2) := by rw [evT]
@[simp] theorem evT_isN {a : E} : evT Φ Γ (.isN a) env μ = (ev Φ Γ a env μ).map fun p => (isNon p.1, p.2) := by rw [evT]
@[simp] theorem evT_notN {a : E} : evT Φ Γ (.notN a) env μ = (ev Φ Γ a env μ).map fun p => (!isNon p.1, p.2) := by rw [evT]
@[simp] theorem evT_slot {i : Nat} : evT Φ Γ (.slot i) env μ = (getV env i).bind fun d => (truS d).map fun k => (k, μ) := by rw [evT]
@[simp] theorem evT_call {f : Nat} {e : E} {es : Es} : evT Φ Γ (.call f e es) env μ = (ev Φ Γ e env μ).bind fun p => (evs Φ Γ es env p.2).bind fun q => (Φ f (p.1 :: q.1) q.2).bind fun r => (truS r.1).map fun k => (k, r.2) := by rw [evT]
@[simp] theorem evT_ix {a b : E} : evT Φ Γ (.ix a b) env μ = (ev Φ Γ a env μ).bind fun p => (ev Φ Γ b env p.2).bind fun q => (ixS q.2 p.1 q.1).bind fun d => (truS d).map fun k => (k, q.2) := by rw [evT]
@[simp] theorem evT_isi {e : E} {t : Ty} : evT Φ Γ (.isi e t) env μ = (ev Φ Γ e env μ).bind fun p => (isiS p.1 t).map fun b => (b, p.2) := by rw [evT]
@[simp] theorem evT_bi {b : Bi} {e : E} {es : Es} : evT Φ Γ (.bi b e es) env μ = (ev Φ Γ e env μ).bind fun p => (evs Φ Γ es env p.2).bind fun q => (biS q.2 b (p.1 :: q.1)).bind fun d => (truS d).map fun k => (k, q.2) := by rw [evT]
theorem evT_bor {i : Nat} {e : E} : evT Φ Γ (.bor i e) env μ = (getO env i).bind fun ds => (evT Φ Γ e (env.set i (some (.val (.lst ds)))) μ).bind fun p => if scalS p.2 then some p else none := by rw [evT]
@[simp] theorem evI_rng1 {e : E} : evI Φ Γ (.rng1 e) env μ = (ev Φ Γ e env μ).bind fun p => (asInt p.1).bind fun j => (rngS 0 j).map fun ds => (ds, p.2) := by rw [evI]
@[simp] theorem evI_rngD {e : E} : evI Φ Γ (.rngD e) env μ = (ev Φ Γ e env μ).bind fun p => (asInt p.1).bind fun j => (rngDS j).map fun ds => (ds, p.2) := by rw [evI]
@[simp] theorem evI_rng2 {a b : E} : evI Φ Γ (.rng2 a b) env μ = (ev Φ Γ a env μ).bind fun p => (ev Φ Γ b env p.2).bind fun q => (asInt p.1).bind fun i => (asInt q.1).bind fun j => (rngS i j).map fun ds => (ds, q.2) := by rw [evI]
def seqOf : D → Option (List D)
  | .tup ds => some ds | .lst ds => some ds | .scr ds => some ds
  | .rg lo hi => rngS lo hi
  | _ => none
@[simp] theorem seqOf_rg {lo hi : Int} : seqOf (.rg lo hi) = rngS lo hi := rfl
@[simp] theorem seqOf_tup {ds : List D} : seqOf (.tup ds) = some ds := rfl
@[simp] theorem seqOf_lst {ds : List D} : seqOf (.lst ds) = some ds := rfl
@[simp] theorem seqOf_scr {ds : List D} : seqOf (.scr ds) = some ds := rfl
@[simp] theorem evI_seq {e : E} : evI Φ Γ (.seq e) env μ = (ev Φ Γ e env μ).bind fun p => (seqOf p.1).map fun ds => (ds, p.2) := by
  rw [evI]
  congr 1
  funext ⟨x, m⟩
  cases x <;> rfl
def zipOf : D → D → Option (List D)
  | .tup a, .tup b => some (zipD a b) | .lst a, .lst b => some (zipD a b) | .tup a, .lst b => some (zipD a b)
  | _, _ => none
@[simp] theorem zipOf_mix {a b : List D} : zipOf (.tup a) (.lst b) = some (zipD a b) := rfl
@[simp] theorem zipOf_tup {a b : List D} : zipOf (.tup a) (.tup b) = some (zipD a b) := rfl
@[simp] theorem zipOf_lst {a b : List D} : zipOf (.lst a) (.lst b) = some (zipD a b) := rfl
@[simp] theorem zipD_nil {b : List D} : zipD [] b = [] := rfl
@[simp] theorem zipD_nil' {a : List D} : zipD a [] = [] := by unfold zipD; simp
@[simp] theorem zipD_cons {x y : D} {a b : List D} : zipD (x :: a) (y :: b) = .tup [x, y] :: zipD a b := rfl
@[simp] theorem evI_zip {a b : E} : evI Φ Γ (.zip a b) env μ = (ev Φ Γ a env μ).bind fun p => (ev Φ Γ b env p.2).bind fun q => (zipOf p.1 q.1).map fun ds => (ds, q.2) := by
  rw [evI]
  congr 1
  funext ⟨x, m⟩
  dsimp only
  congr 1
  funext ⟨y, m'⟩
  cases x <;> cases y <;> rfl
def enumOf : D → Option (List D)
  | .lst ds => some (enumD 0 ds)
  | .tup ds => some (enumD 0 ds)
  | _ => none
@[simp] theorem enumOf_tup {ds : List D} : enumOf (.tup ds) = some (enumD 0 ds) := rfl
@[simp] theorem enumOf_lst {ds : List D} : enumOf (.lst ds) = some (enumD 0 ds) := rfl
@[simp] theorem evI_enum {a : E} : evI Φ Γ (.enum a) env μ = (ev Φ Γ a env μ).bind fun p => (enumOf p.1).map fun ds => (ds, p.2) := by
  rw [evI]
  congr 1
  funext ⟨x, m⟩
  cases x <;> rfl
def revOf : D → Option (List D)
  | .lst ds => some ds.reverse
  | .scr ds => some ds.reverse
  | _ => none
@[simp] theorem revOf_lst {ds : List D} : revOf (.lst ds) = some ds.reverse := rfl
@[simp] theorem ev_rev {e : E} : ev Φ Γ (.rev e) env μ = (ev Φ Γ e env μ).bind fun p => (revOf p.1).map fun ds => (.lst ds, p.2) := by
  rw [ev]
  congr 1
  funext ⟨x, m⟩
  cases x <;> rfl
/-! statements -/
@[simp] theorem exs_nil : exs Φ Γ [] env μ = some (.nx env μ) := by rw [exs]
def thenS (r : Env → Store → Option Fl) : Fl → Option Fl
  | .nx e m => r e m
  | f => some f
@[simp] theorem thenS_nx {r : Env → Store → Option Fl} : thenS r (.nx env μ) = r env μ := rfl
@[simp] theorem thenS_rt {r : Env → Store → Option Fl} {d : D} : thenS r (.rt d μ) = some (.rt d μ) := rfl
@[simp] theorem thenS_bk {r : Env → Store → Option Fl} : thenS r (.bk env μ) = some (.bk env μ) := rfl
@[simp] theorem thenS_ct {r : Env → Store → Option Fl} : thenS r (.ct env μ) = some (.ct env μ) := rfl
@[simp] theorem exs_cons {s : S} {r : List S} : exs Φ Γ (s :: r) env μ = (ex Φ Γ s env μ).bind (thenS (exs Φ Γ r)) := by
  rw [exs]
  rfl
@[simp] theorem ex_app {i : Nat} {e : E} : ex Φ Γ (.app i e) env μ = (ev Φ Γ e env μ).bind fun p => (getO env i).bind fun ds => if ds.length < SZ then some (.nx (env.set i (some (.own (ds ++ [p.1])))) p.2) else none := by rw [ex]
@[simp] theorem ex_expr {e : E} : ex Φ Γ (.expr e) env μ = (ev Φ Γ e env μ).map fun p => .nx env p.2 := by rw [ex]
@[simp] theorem ex_asg {t : T} {e : E} : ex Φ Γ (.asg t e) env μ = (ev Φ Γ e env μ).bind fun p => (asgT t p.1 env).map fun env' => .nx env' p.2 := by rw [ex]
def asLst : D → Option (List D)
  | .lst ds => some ds
  | _ => none
@[simp] theorem asLst_lst {ds : List D} : asLst (.lst ds) = some ds := rfl
@[simp] theorem ex_asgN {i : Nat} {e : E} : ex Φ Γ (.asgN i e) env μ = (ev Φ Γ e env μ).bind fun p => (asLst p.1).bind fun ds => if i < env.length then some (.nx (env.set i (some (.own ds))) p.2) else none := by
  rw [ex]
  congr 1
  funext ⟨x, m⟩
  cases x <;> rfl
@[simp] theorem ex_par {i j : Nat} {a b : E} : ex Φ Γ (.par i j a b) env μ = (ev Φ Γ a env μ).bind fun p => (ev Φ Γ b env p.2).bind fun q => (setV env i p.1).bind fun env1 => (setV env1 j q.1).map fun env2 => .nx env2 q.2 := by rw [ex]
def augS : Operator → D → D → Option D
  | .Add, .int a, .int b => some (.int (a + b)) | .Sub, .int a, .int b => some (.int (a - b))
  | _, _, _ => none
@[simp] theorem augS_add {a b : Int} : augS .Add (.int a) (.int b) = some (.int (a + b)) := rfl
@[simp] theorem augS_sub {a b : Int} : augS .Sub (.int a) (.int b) = some (.int (a - b)) := rfl
@[simp] theorem ex_aug {i : Nat} {op : Operator} {e : E} : ex Φ Γ (.aug i op e) env μ = (getV env i).bind fun x => (ev Φ Γ e env μ).bind fun p => (augS op x p.1).bind fun z => (setV env i z).map fun env' => .nx env' p.2 := by
  rw [ex]
  congr 1
  funext x
  congr 1
  funext ⟨y, m⟩
  cases op <;> cases x <;> cases y <;> rfl
def setmS (env : Env) (μ : Store) (d : D) : D → D → Option Fl
  | .mr c, .int k => (μ[c]?).bind fun ds => (ixN ds.length k).map fun j => .nx env (μ.set c (ds.set j d))
  | _, _ => none
@[simp] theorem setmS_mr {d : D} {c : Nat} {k : Int} : setmS env μ d (.mr c) (.int k) = (μ[c]?).bind fun ds => (ixN ds.length k).map fun j => .nx env (μ.set c (ds.set j d)) := rfl
@[simp] theorem ex_dNew {i : Nat} : ex Φ Γ (.dNew i) env μ = if i < env.length then some (.nx (env.set i (some (.dct []))) μ) else none := by rw [ex]
@[simp] theorem ex_setO {i : Nat} {o e : E} : ex Φ Γ (.setO i o e) env μ = (ev Φ Γ e env μ).bind fun p => (ev Φ Γ o env p.2).bind fun q => (getO env i).bind fun ds => (asInt q.1).bind fun k => (ixN ds.length k).map fun j => .nx (env.set i (some (.own (ds.set j p.1)))) q.2 := by rw [ex]
@[simp] theorem ex_dPut {i : Nat} {k e : E} : ex Φ Γ (.dPut i k e) env μ = (ev Φ Γ e env μ).bind fun p => (ev Φ Γ k env p.2).bind fun q => (getD' env i).bind fun kvs => (keyS q.1).bind fun k' => if kvs.length < SZ then some (.nx (env.set i (some (.dct (dPutS kvs k' p.1)))) q.2) else none := by rw [ex]
@[simp] theorem ex_ext {i : Nat} {e : E} : ex Φ Γ (.ext i e) env μ = (ev Φ Γ e env μ).bind fun p => (getO env i).bind fun ds => (asLst p.1).bind fun es => if ds.length + es.length ≤ SZ then some (.nx (env.set i (some (.own (ds ++ es)))) p.2) else none := by
  rw [ex]
  congr 1
  funext ⟨x, m⟩
  dsimp only
  congr 1
  funext ds
  cases x <;> rfl
@[simp] theorem ex_setm {o i e : E} : ex Φ Γ (.setm o i e) env μ = (ev Φ Γ e env μ).bind fun p => (ev Φ Γ o env p.2).bind fun q => (ev Φ Γ i env q.2).bind fun r => setmS env r.2 p.1 q.1 r.1 := by
  rw [ex]
  rfl
@[simp] theorem ex_ret {e : E} : ex Φ Γ (.ret e) env μ = (ev Φ Γ e env μ).map fun p => .rt p.1 p.2 := by rw [ex]
@[simp] theorem ex_retN : ex Φ Γ .retN env μ = some (.rt .non μ) := by rw [ex]
@[simp] theorem ex_iff {c : E} {a b : List S} : ex Φ Γ (.iff c a b) env μ = (evT Φ Γ c env μ).bind fun p => if p.1 then exs Φ Γ a env p.2 else exs Φ Γ b env p.2 := by rw [ex]
theorem ex_wh {c : E} {b : List S} : ex Φ Γ (.wh c b) env μ = whS (fun env' μ' => evT Φ Γ c env' μ') (fun env' μ' => exs Φ Γ b env' μ') env μ := by rw [ex]
theorem ex_for {t : T} {it : I} {b : List S} : ex Φ Γ (.for t it b) env μ = (evI Φ Γ it env μ).bind fun p => forS t (fun env' μ' => exs Φ Γ b env' μ') p.1 env p.2 := by rw [ex]
@[simp] theorem ex_brk : ex Φ Γ .brk env μ = some (.bk env μ) := by rw [ex]
@[simp] theorem ex_cont : ex Φ Γ .cont env μ = some (.ct env μ) := by rw [ex]
@[simp] theorem ex_pass : ex Φ Γ .pass env μ = some (.nx env μ) := by rw [ex]
@[simp] theorem ex_frz {i : Nat} {s : S} : ex Φ Γ (.frz i s) env μ = (getO env i).bind fun ds => ex Φ Γ s (env.set i (some (.val (.lst ds)))) μ := by rw [ex]
end
/-! slots -/
section
variable {d : D} {x : Option SV} {env : Env} {i : Nat} {ds : List D}
@[simp] theorem getV_0 : getV (some (.val d) :: env) 0 = some d := rfl
@[simp] theorem getV_s : getV (x :: env) (i + 1) = getV env i := by simp [getV]
@[simp] theorem getD_0 {kvs : List (NestedKey × D)} : getD' (some (.dct kvs) :: env) 0 = some kvs := rfl
@[simp] theorem getD_s : getD' (x :: env) (i + 1) = getD' env i := by simp [getD']
@[simp] theorem getO_0 : getO (some (.own ds) :: env) 0 = some ds := rfl
@[simp] theorem getO_s : getO (x :: env) (i + 1) = getO env i := by simp [getO]
@[simp] theorem setV_0 : setV (x :: env) 0 d = some (some (.val d) :: env) := by simp [setV]
@[simp] theorem setV_s : setV (x :: env) (i + 1) d = (setV env i d).map fun e => x :: e := by
  unfold setV
  by_cases h : i < env.length
  · rw [if_pos h, if_pos (by simpa using h)]; rfl
  · rw [if_neg h, if_neg (by simpa using h)]; rfl
@[simp] theorem asgT_nm : asgT (.nm i) d env = setV env i d := by rw [asgT]
@[simp] theorem asgT_tp {ts : List T} : asgT (.tp ts) (.tup ds) env = asgTs ts ds env := by rw [asgT]
@[simp] theorem asgT_tpl {ts : List T} : asgT (.tp ts) (.lst ds) env = asgTs ts ds env := by rw [asgT]
@[simp] theorem asgTs_nil : asgTs [] [] env = some env := by rw [asgTs]
@[simp] theorem asgTs_cons {t : T} {ts : List T} : asgTs (t :: ts) (d :: ds) env = (asgT t d env).bind fun e => asgTs ts ds e := by rw [asgTs]
@[simp] theorem wipeE_nil : wipeE env [] = env := rfl
@[simp] theorem wipeE_cons {vs : List Nat} : wipeE env (i :: vs) = (wipeE env vs).set i none := rfl
end
/-! operations -/
section
variable {i j : Int} {a b : List D} {d e : D} {μ : Store}
@[simp] theorem biS_range1 {μ : Store} {j : Int} : biS μ .range [.int j] = some (.rg 0 j) := rfl
@[simp] theorem biS_range2 {μ : Store} {i j : Int} : biS μ .range [.int i, .int j] = some (.rg i j) := rfl
@[simp] theorem binS_add : binS .Add (.int i) (.int j) = some (.int (i + j)) := rfl
@[simp] theorem binS_sub : binS .Sub (.int i) (.int j) = some (.int (i - j)) := rfl
@[simp] theorem binS_mul : binS .Mult (.int i) (.int j) = if mulOk i j then some (.int (i * j)) else none := rfl
@[simp] theorem binS_fdiv : binS .FloorDiv (.int i) (.int j) = if divOk j then some (.int (i / j)) else none := rfl
@[simp] theorem binS_mod : binS .Mod (.int i) (.int j) = if j != 0 then some (.int (i.fmod j)) else none := rfl
@[simp] theorem binS_tup : binS .Add (.tup a) (.tup b) = if a.length + b.length ≤ SZ then some (.tup (a ++ b)) else none := rfl
@[simp] theorem binS_lst : binS .Add (.lst a) (.lst b) = if a.length + b.length ≤ SZ then some (.lst (a ++ b)) else none := rfl
@[simp] theorem asInt_int : asInt (.int i) = some i := rfl
@[simp] theorem cmpS_lt : cmpS .Lt (.int i) (.int j) = some (decide (i < j)) := rfl
@[simp] theorem cmpS_le : cmpS .LtE (.int i) (.int j) = some (decide (i ≤ j)) := rfl
@[simp] theorem cmpS_gt : cmpS .Gt (.int i) (.int j) = some (decide (j < i)) := rfl
@[simp] theorem cmpS_ge : cmpS .GtE (.int i) (.int j) = some (decide (j ≤ i)) := rfl
@[simp] theorem cmpS_eq : cmpS .Eq d e = eqS d e := by cases d <;> cases e <;> rfl
@[simp] theorem cmpS_is {a b : Bool} : cmpS .Is (.bl a) (.bl b) = some (decide (a = b)) := rfl
@[simp] theorem cmpS_isnot {a b : Bool} : cmpS .IsNot (.bl a) (.bl b) = some (!decide (a = b)) := rfl
@[simp] theorem binS_shr {i j : Int} : binS .RShift (.int i) (.int j) = if decide (0 ≤ j) then some (.int (i / 2 ^ j.toNat)) else none := rfl
@[simp] theorem binS_and {i j : Int} : binS .BitAnd (.int i) (.int j) = if decide (0 ≤ i) && decide (j = 1) then some (.int (i % 2)) else none := rfl
@[simp] theorem cmpS_ne : cmpS .NotEq d e = (eqS d e).map not := by cases d <;> cases e <;> rfl
@[simp] theorem eqS_int' : eqS (.int i) (.int j) = some (decide (i = j)) := by rw [eqS_int]; congr 1
@[simp] theorem eqS_bl' {x y : Bool} : eqS (.bl x) (.bl y) = some (x == y) := eqS_bl x y
@[simp] theorem isNon_non : isNon .non = true := rfl
@[simp] theorem isNon_tup : isNon (.tup a) = false := rfl
@[simp] theorem isNon_lst : isNon (.lst a) = false := rfl
@[simp] theorem isNon_int : isNon (.int i) = false := rfl
@[simp] theorem isNon_bl {x : Bool} : isNon (.bl x) = false := rfl
@[simp] theorem isNon_str {x : Str} : isNon (.str x) = false := rfl
@[simp] theorem truS_bl {x : Bool} : truS (.bl x) = some x := rfl
@[simp] theorem truS_non : truS .non = some false := rfl
@[simp] theorem truS_int : truS (.int i) = some (i != 0) := rfl
@[simp] theorem truS_tup : truS (.tup a) = some (!a.isEmpty) := rfl
@[simp] theorem truS_lst : truS (.lst a) = some (!a.isEmpty) := rfl
@[simp] theorem itsS_tup : itsS μ (.tup a) = some a := rfl
@[simp] theorem itsS_lst : itsS μ (.lst a) = some a := rfl
@[simp] theorem itsS_scr : itsS μ (.scr a) = some a := rfl
@[simp] theorem itsS_mr {n : Nat} : itsS μ (.mr n) = μ[n]? := rfl
@[simp] theorem lstS_lst : lstS μ (.lst a) = some a := rfl
@[simp] theorem lstS_scr : lstS μ (.scr a) = some a := rfl
@[simp] theorem ixS_int : ixS μ d (.int i) = (itsS μ d).bind fun ds => atI ds i := rfl
theorem atI_0 : atI (d :: a) 0 = some d := by simp [atI, ixN]
theorem atI_neg1 {d : D} : atI [d] (-1) = some d := by simp [atI, ixN]
theorem atI_s {n : Nat} : atI (d :: a) ((n + 1 : Nat) : Int) = atI a (n : Int) := by
  unfold atI ixN
  by_cases h : (n : Int) < a.length
  · rw [if_pos (by omega), if_pos (by simp; omega), if_pos (by omega), if_pos h]
    simp
  · rw [if_pos (by omega), if_neg (by simp; omega), if_pos (by omega), if_neg h]
    rfl
@[simp] theorem slcS_tup {lo hi : Option Int} : slcS (.tup a) lo hi = some (.tup (cutS a lo hi)) := rfl
@[simp] theorem slcS_lst {lo hi : Option Int} : slcS (.lst a) lo hi = some (.lst (cutS a lo hi)) := rfl
@[simp] theorem biS_len : biS μ .len [d] = (itsS μ d).map fun ds => .int ds.length := rfl
@[simp] theorem biS_abs : biS μ .abs [.int i] = some (.int (if i < 0 then -i else i)) := rfl
@[simp] theorem biS_max2 : biS μ .max [.int i, .int j] = some (.int (if j > i then j else i)) := rfl
@[simp] theorem biS_min2 : biS μ .min [.int i, .int j] = some (.int (if j < i then j else i)) := rfl
@[simp] theorem biS_sum : biS μ .sum [d] = (lstS μ d).bind fun ds => (asInts ds).map fun is => .int is.sum := rfl
@[simp] theorem biS_tuple : biS μ .tuple [d] = (itsS μ d).map .tup := rfl
@[simp] theorem biS_list : biS μ .list [d] = (itsS μ d).map .lst := rfl
@[simp] theorem biS_int : biS μ .int [.int i] = some (.int i) := rfl
@[simp] theorem biS_intb {x : Bool} : biS μ .int [.bl x] = some (.int (if x then 1 else 0)) := rfl
@[simp] theorem isiS_non {t : Ty} : isiS .non t = some false := by cases t <;> rfl
@[simp] theorem isiS_bl {x : Bool} {t : Ty} : isiS (.bl x) t = some (t == .bool || t == .int) := by cases t <;> rfl
@[simp] theorem isiS_int {t : Ty} : isiS (.int i) t = some (t == .int) := by cases t <;> rfl
@[simp] theorem isiS_str {x : Str} {t : Ty} : isiS (.str x) t = some (t == .str) := by cases t <;> rfl
@[simp] theorem isiS_tup {t : Ty} : isiS (.tup a) t = some (t == .tup) := by cases t <;> rfl
@[simp] theorem isiS_lst {t : Ty} : isiS (.lst a) t = some (t == .lst) := by cases t <;> rfl
end
/-! comprehensions over written lists -/
section
variable {t : T} {c : Env → Store → Option (Bool × Store)} {f : Env → Store → Option (D × Store)} {env : Env} {μ : Store} {d : D} {ds : List D}
@[simp] theorem lcS_nil : lcS t c f env [] μ = some ([], μ) := rfl
theorem lcS_cons : lcS t c f env (d :: ds) μ = (asgT t d env).bind fun e => (c e μ).bind fun p =>
    if p.1 then (f e p.2).bind fun q => (lcS t c f env ds q.2).map fun r => (q.1 :: r.1, r.2) else lcS t c f env ds p.2 := rfl
/-- each item kept, its value a function of it -/
theorem lcS_map {α : Type} {g : α → D} {h : α → D} (hk : ∀ a, ∃ e, asgT t (g a) env = some e ∧ c e μ = some (true, μ) ∧ f e μ = some (h a, μ)) : ∀ l : List α, lcS t c f env (l.map g) μ = some (l.map h, μ)
  | [] => rfl
  | a :: l => by
    obtain ⟨e, h1, h2, h3⟩ := hk a
    rw [List.map_cons, lcS_cons, h1]
    simp only [Option.bind_some, h2, if_true, h3, lcS_map hk l, Option.map_some, List.map_cons]
end
end Py
end
section
set_option Elab.async false
set_option linter.all false
namespace Py
open PySem L2
theorem szle {n : Nat} (h : n ≤ 16777216) : (n ≤ SZ) = True := eq_true (by unfold SZ; exact h)
theorem szlt {n : Nat} (h : n < 16777216) : (n < SZ) = True := eq_true (by unfold SZ; exact h)
end Py
end
section
set_option Elab.async false
set_option linter.all false
namespace FM
/-! ### Fourier and Motzkin, in plain Lean -/
structure Rw where
  f : List Rat
  r : Rat
  s : Bool
  w : List Rat
def dot : List Rat → List Rat → Rat
  | a :: as, b :: bs => a * b + dot as bs
  | _, _ => 0
def okv (s : Bool) (v : Rat) : Prop := if s then 0 < v else 0 ≤ v
def Rw.ok (R : Rw) (x : List Rat) : Prop := okv R.s (dot R.f x + R.r)
def Sat (rs : List Rw) (x : List Rat) : Prop := ∀ R ∈ rs, R.ok x
def Rw.scale (R : Rw) (c : Rat) : Rw := ⟨R.f.map (c * ·), c * R.r, R.s, R.w.map (c * ·)⟩
def addL : List Rat → List Rat → List Rat
  | a :: as, b :: bs => (a + b) :: addL as bs
  | _, _ => []
def Rw.sum (R S : Rw) : Rw := ⟨addL R.f S.f, R.r + S.r, R.s || S.s, addL R.w S.w⟩
theorem okv_scale {s : Bool} {v c : Rat} (hc : 0 < c) : okv s (c * v) ↔ okv s v := by
  unfold okv
  have h0 : (0 : Rat) ≤ c := Rat.le_of_lt hc
  split
  · constructor
    · intro h
      refine Rat.not_le.mp fun h' => ?_
      have := Rat.mul_le_mul_of_nonneg_left h' h0
      grind
    · intro h; exact Rat.mul_pos hc h
  · constructor
    · intro h
      refine Rat.not_lt.mp fun h' => ?_
      have := Rat.mul_lt_mul_of_pos_left h' hc
      grind
    · intro h; exact Rat.mul_nonneg h0 h
theorem dot_scale (c : Rat) : ∀ f x : List Rat, dot (f.map (c * ·)) x = c * dot f x
  | [], _ => by simp [dot]
  | _ :: _, [] => by simp [dot]
  | a :: f, b :: x => by
    simp only [List.map_cons, dot, dot_scale c f x]
    grind
theorem scale_ok {R : Rw} {c : Rat} {x : List Rat} (hc : 0 < c) : (R.scale c).ok x ↔ R.ok x := by
  unfold Rw.ok Rw.scale
  rw [dot_scale, show c * dot R.f x + c * R.r = c * (dot R.f x + R.r) by grind]
  exact okv_scale hc
theorem dot_add : ∀ f g x : List Rat, f.length = g.length → dot (addL f g) x = dot f x + dot g x
  | [], [], _, _ => by simp only [dot, addL]; grind
  | a :: f, b :: g, [], _ => by simp only [dot, addL]; grind
  | a :: f, b :: g, c :: x, h => by
    simp only [addL, dot, dot_add f g x (by simpa using h)]
    grind
  | [], _ :: _, _, h => by simp at h
  | _ :: _, [], _, h => by simp at h
theorem dot_zero : ∀ f x : List Rat, (∀ a ∈ f, a = 0) → dot f x = 0
  | [], _, _ => by simp [dot]
  | _ :: _, [], _ => by simp [dot]
  | a :: f, b :: x, h => by
    have h1 := h a (by simp)
    have h2 := dot_zero f x (fun y hy => h y (by simp [hy]))
    simp only [dot, h1, h2]
    grind
theorem dot_set : ∀ (f x : List Rat) (i : Nat) (t : Rat), i < f.length → i < x.length → dot f (x.set i t) = dot f x + (f.getD i 0) * (t - x.getD i 0)
  | a :: f, b :: x, 0, t, _, _ => by simp only [List.set_cons_zero, dot, List.getD_cons_zero]; grind
  | a :: f, b :: x, i + 1, t, h1, h2 => by
    simp only [List.set_cons_succ, dot, List.getD_cons_succ, dot_set f x i t (by simpa using h1) (by simpa using h2)]
    grind
/-! ### the least form of a list of rows -/
def Rw.nothing (R : Rw) : Bool := R.f.all (fun a => decide (a = 0)) && (decide (0 < R.r) || (decide (R.r = 0) && !R.s))
def Rw.against (R : Rw) : Bool := R.f.all (fun a => decide (a = 0)) && !R.nothing
theorem nothing_ok {R : Rw} (h : R.nothing = true) (x : List Rat) : R.ok x := by
  unfold Rw.nothing at h
  simp only [Bool.and_eq_true, List.all_eq_true, decide_eq_true_eq, Bool.or_eq_true, Bool.not_eq_true'] at h
  unfold Rw.ok okv
  rw [dot_zero _ _ h.1]
  rcases h.2 with h2 | ⟨h2, h3⟩
  · split <;> grind
  · rw [h3, if_neg Bool.false_ne_true]; grind
theorem against_not {R : Rw} (h : R.against = true) (x : List Rat) : ¬ R.ok x := by
  unfold Rw.against at h
  simp only [Bool.and_eq_true, List.all_eq_true, decide_eq_true_eq, Bool.not_eq_true'] at h
  obtain ⟨h1, h2⟩ := h
  unfold Rw.ok okv
  rw [dot_zero _ _ h1]
  unfold Rw.nothing at h2
  have h3 : R.f.all (fun a => decide (a = 0)) = true := by simpa [List.all_eq_true] using h1
  rw [h3, Bool.true_and] at h2
  simp only [Bool.or_eq_false_iff, decide_eq_false_iff_not, Bool.and_eq_false_iff, Bool.not_eq_false'] at h2
  split
  · rename_i hs
    grind
  · rename_i hs
    rcases h2.2 with h4 | h4
    · grind
    · exact absurd h4 hs
def firstNZ (f : List Rat) : Option Rat := f.find? fun a => decide (a ≠ 0)
def absR (t : Rat) : Rat := if 0 < t then t else -t
def Rw.even (R : Rw) : Rw := match firstNZ R.f with
  | none => R
  | some t => R.scale (1 / absR t)
theorem absR_pos {t : Rat} (h : t ≠ 0) : 0 < absR t := by
  unfold absR
  split <;> grind
theorem inv_pos' {t : Rat} (h : 0 < t) : 0 < 1 / t := by
  rw [Rat.div_def, Rat.one_mul]; exact Rat.inv_pos.mpr h
theorem even_ok {R : Rw} {x : List Rat} : R.even.ok x ↔ R.ok x := by
  unfold Rw.even
  split
  · exact Iff.rfl
  · rename_i t h
    have : t ≠ 0 := by simpa [firstNZ] using List.find?_some h
    exact scale_ok (inv_pos' (absR_pos this))
def binds (R S : Rw) : Bool := decide (R.r < S.r) || (decide (R.r = S.r) && (R.s || !S.s))
theorem binds_ok {R S : Rw} (hf : R.f = S.f) (h : binds R S = true) {x : List Rat} (hx : R.ok x) : S.ok x := by
  unfold binds at h
  simp only [Bool.or_eq_true, decide_eq_true_eq, Bool.and_eq_true, Bool.not_eq_true'] at h
  unfold Rw.ok okv at hx ⊢
  rw [hf] at hx
  rcases h with h | ⟨h, h2⟩
  · split at hx <;> split <;> grind
  · rw [h] at hx
    rcases h2 with h2 | h2
    · rw [h2, if_pos rfl] at hx
      split <;> grind
    · rw [h2, if_neg Bool.false_ne_true]
      split at hx <;> grind
theorem binds_not {R S : Rw} (hf : R.f = S.f) (h : binds R S = false) {x : List Rat} (hx : S.ok x) : R.ok x := by
  refine binds_ok hf.symm ?_ hx
  unfold binds at h ⊢
  simp only [Bool.or_eq_false_iff, decide_eq_false_iff_not, Bool.and_eq_false_iff, Bool.or_eq_false_iff, Bool.not_eq_false'] at h
  simp only [Bool.or_eq_true, decide_eq_true_eq, Bool.and_eq_true, Bool.not_eq_true']
  rcases h.2 with h2 | ⟨h2, h3⟩
  · exact .inl (by grind)
  · by_cases e : S.r < R.r
    · exact .inl e
    · exact .inr ⟨by grind, .inl h3⟩

/-! ### strongest: one row for each direction -/
def look (kvs : List (List Rat × Rw)) (k : List Rat) : Option Rw := (kvs.find? fun x => decide (x.1 = k)).map (·.2)
def put (kvs : List (List Rat × Rw)) (k : List Rat) (R : Rw) : List (List Rat × Rw) := if (look kvs k).isSome then kvs.map fun x => if x.1 = k then (x.1, R) else x else kvs ++ [(k, R)]
def sStep (kvs : List (List Rat × Rw)) (row : Rw) : List (List Rat × Rw) :=
  let R := row.even
  if R.nothing then kvs else match look kvs R.f with
    | none => put kvs R.f R
    | some S => if binds S R then kvs else put kvs R.f R
def strongest (rows : List Rw) : List Rw := (rows.foldl sStep []).map (·.2)
def Keyed (kvs : List (List Rat × Rw)) : Prop := (∀ p ∈ kvs, p.2.f = p.1) ∧ (kvs.map (·.1)).Nodup
theorem look_some {kvs : List (List Rat × Rw)} {k : List Rat} {R : Rw} (h : look kvs k = some R) : (k, R) ∈ kvs := by
  unfold look at h
  obtain ⟨p, h1, h2⟩ := Option.map_eq_some_iff.mp h
  have h3 := List.find?_some h1
  have h4 := List.mem_of_find?_eq_some h1
  have : p.1 = k := by simpa using h3
  rw [← h2, ← this]; exact h4
theorem look_none {kvs : List (List Rat × Rw)} {k : List Rat} (h : look kvs k = none) : ∀ p ∈ kvs, p.1 ≠ k := by
  unfold look at h
  rw [Option.map_eq_none_iff, List.find?_eq_none] at h
  intro p hp e
  exact h p hp (by simp [e])
theorem mem_put {kvs : List (List Rat × Rw)} {k : List Rat} {R : Rw} {p : List Rat × Rw} (h : p ∈ put kvs k R) : p = (k, R) ∨ (p ∈ kvs ∧ p.1 ≠ k) := by
  unfold put at h
  split at h
  · obtain ⟨q, h1, h2⟩ := List.mem_map.mp h
    split at h2
    · rename_i e; left; rw [← h2, e]
    · right; rw [← h2]; exact ⟨h1, ‹_›⟩
  · rename_i hn
    have hl : look kvs k = none := by simpa using hn
    rcases List.mem_append.mp h with h | h
    · exact .inr ⟨h, look_none hl p h⟩
    · left; simpa using h
theorem put_mem {kvs : List (List Rat × Rw)} {k : List Rat} {R : Rw} : (k, R) ∈ put kvs k R := by
  unfold put
  split
  · rename_i h
    obtain ⟨S, hS⟩ := Option.isSome_iff_exists.mp h
    exact List.mem_map.mpr ⟨(k, S), look_some hS, by simp⟩
  · simp
theorem mem_put_of {kvs : List (List Rat × Rw)} {k : List Rat} {R : Rw} {p : List Rat × Rw} (h : p ∈ kvs) (hk : p.1 ≠ k) : p ∈ put kvs k R := by
  unfold put
  split
  · exact List.mem_map.mpr ⟨p, h, by simp [hk]⟩
  · simp [h]
theorem put_keys {kvs : List (List Rat × Rw)} {k : List Rat} {R : Rw} : (put kvs k R).map (·.1) = if (look kvs k).isSome then kvs.map (·.1) else kvs.map (·.1) ++ [k] := by
  unfold put
  split
  · rw [List.map_map]
    refine List.map_congr_left fun p _ => ?_
    simp only [Function.comp]
    split <;> rfl
  · simp
theorem keyed_put {kvs : List (List Rat × Rw)} {R : Rw} (h : Keyed kvs) : Keyed (put kvs R.f R) := by
  refine ⟨fun p hp => ?_, ?_⟩
  · rcases mem_put hp with e | ⟨h1, _⟩
    · rw [e]
    · exact h.1 p h1
  · rw [put_keys]
    split
    · exact h.2
    · rename_i hn
      have hl : look kvs R.f = none := by simpa using hn
      rw [List.nodup_append]
      refine ⟨h.2, by simp, fun a ha b hb e => ?_⟩
      obtain ⟨p, hp, rfl⟩ := List.mem_map.mp ha
      exact look_none hl p hp (by rw [e]; simpa using hb)
def SatK (kvs : List (List Rat × Rw)) (x : List Rat) : Prop := ∀ p ∈ kvs, p.2.ok x
theorem keyed_unique {kvs : List (List Rat × Rw)} (h : Keyed kvs) {p q : List Rat × Rw} (hp : p ∈ kvs) (hq : q ∈ kvs) (e : p.1 = q.1) : p = q := by
  have := h.2
  clear h
  induction kvs with
  | nil => cases hp
  | cons a r ih =>
    rw [List.map_cons, List.nodup_cons] at this
    rcases List.mem_cons.mp hp with h1 | h1 <;> rcases List.mem_cons.mp hq with h2 | h2
    · rw [h1, h2]
    · exact absurd (List.mem_map.mpr ⟨q, h2, by rw [← e, h1]⟩) this.1
    · exact absurd (List.mem_map.mpr ⟨p, h1, by rw [e, h2]⟩) this.1
    · exact ih h1 h2 this.2
theorem sStep_ok {kvs : List (List Rat × Rw)} {row : Rw} (h : Keyed kvs) : Keyed (sStep kvs row) ∧ ∀ x, SatK (sStep kvs row) x ↔ (SatK kvs x ∧ row.ok x) := by
  unfold sStep
  generalize hR : row.even = R
  have heq : ∀ x, R.ok x ↔ row.ok x := fun x => by rw [← hR]; exact even_ok
  dsimp only
  by_cases hn : R.nothing = true
  · rw [if_pos hn]
    exact ⟨h, fun x => ⟨fun hx => ⟨hx, (heq x).mp (nothing_ok hn x)⟩, fun hx => hx.1⟩⟩
  · rw [if_neg hn]
    split
    · rename_i hl
      refine ⟨keyed_put h, fun x => ⟨fun hx => ⟨fun p hp => hx p (mem_put_of hp (look_none hl p hp)), (heq x).mp (hx _ put_mem)⟩, fun hx p hp => ?_⟩⟩
      rcases mem_put hp with e | ⟨h1, _⟩
      · rw [e]; exact (heq x).mpr hx.2
      · exact hx.1 p h1
    · rename_i S hl
      have hm := look_some hl
      have hf : S.f = R.f := h.1 _ hm
      split
      · rename_i hb
        exact ⟨h, fun x => ⟨fun hx => ⟨hx, (heq x).mp (binds_ok hf hb (hx _ hm))⟩, fun hx => hx.1⟩⟩
      · rename_i hb
        have hb' : binds S R = false := by simpa using hb
        refine ⟨keyed_put h, fun x => ⟨fun hx => ?_, fun hx p hp => ?_⟩⟩
        · have hRx : R.ok x := hx _ put_mem
          refine ⟨fun p hp => ?_, (heq x).mp hRx⟩
          by_cases e : p.1 = R.f
          · have : p = (R.f, S) := keyed_unique h hp hm e
            rw [this]
            exact binds_not hf hb' hRx
          · exact hx p (mem_put_of hp e)
        · rcases mem_put hp with e | ⟨h1, _⟩
          · rw [e]; exact (heq x).mpr hx.2
          · exact hx.1 p h1
theorem fold_ok : ∀ (rows : List Rw) (kvs : List (List Rat × Rw)), Keyed kvs → Keyed (rows.foldl sStep kvs) ∧ ∀ x, SatK (rows.foldl sStep kvs) x ↔ (SatK kvs x ∧ Sat rows x)
  | [], kvs, h => ⟨h, fun x => ⟨fun hx => ⟨hx, fun _ h => by cases h⟩, fun hx => hx.1⟩⟩
  | row :: rows, kvs, h => by
    obtain ⟨h1, h2⟩ := sStep_ok (row := row) h
    obtain ⟨h3, h4⟩ := fold_ok rows _ h1
    refine ⟨h3, fun x => ?_⟩
    rw [List.foldl_cons, h4, h2]
    constructor
    · rintro ⟨⟨a, b⟩, c⟩
      refine ⟨a, fun R hR => ?_⟩
      rcases List.mem_cons.mp hR with e | e
      · rw [e]; exact b
      · exact c R e
    · rintro ⟨a, b⟩
      exact ⟨⟨a, b row (by simp)⟩, fun R hR => b R (by simp [hR])⟩
theorem strongest_sat (rows : List Rw) (x : List Rat) : Sat (strongest rows) x ↔ Sat rows x := by
  obtain ⟨_, h⟩ := fold_ok rows [] ⟨(fun _ h => by cases h), List.nodup_nil⟩
  have h1 : SatK ([] : List (List Rat × Rw)) x := fun _ h => by cases h
  have h2 := h x
  unfold strongest
  constructor
  · intro hx
    exact (h2.mp fun p hp => hx p.2 (List.mem_map.mpr ⟨p, hp, rfl⟩)).2
  · intro hx R hR
    obtain ⟨p, hp, rfl⟩ := List.mem_map.mp hR
    exact h2.mpr ⟨h1, hx⟩ p hp

/-! ### a quantity taken out -/
theorem okv_lt {s : Bool} {v : Rat} (h : okv s v) : 0 ≤ v := by
  unfold okv at h
  split at h <;> grind
theorem top_low : ∀ (L : List (Rat × Bool)), L ≠ [] → ∃ l ∈ L, ∀ t, okv l.2 (t - l.1) → ∀ l' ∈ L, okv l'.2 (t - l'.1)
  | [l], _ => ⟨l, by simp, fun t h l' hl => by simp at hl; subst hl; exact h⟩
  | l :: m :: L, _ => by
    obtain ⟨k, hk, h⟩ := top_low (m :: L) (by simp)
    by_cases c : k.1 < l.1 ∨ (k.1 = l.1 ∧ l.2 = true)
    · refine ⟨l, by simp, fun t ht l' hl => ?_⟩
      rcases List.mem_cons.mp hl with e | e
      · rw [e]; exact ht
      · refine h t ?_ l' e
        unfold okv at ht ⊢
        rcases c with c | ⟨c, c2⟩
        · split at ht <;> split <;> grind
        · rw [c2, if_pos rfl] at ht
          split <;> grind
    · refine ⟨k, by simp [hk], fun t ht l' hl => ?_⟩
      rcases List.mem_cons.mp hl with e | e
      · rw [e]
        have c1 : ¬ k.1 < l.1 := fun z => c (.inl z)
        have c2 : ¬ (k.1 = l.1 ∧ l.2 = true) := fun z => c (.inr z)
        unfold okv at ht ⊢
        by_cases e2 : k.1 = l.1
        · have e3 : l.2 = false := by
            cases h : l.2 with
            | true => exact absurd ⟨e2, h⟩ c2
            | false => rfl
          rw [e3, if_neg Bool.false_ne_true]
          split at ht <;> grind
        · have : l.1 < k.1 := by grind
          split at ht <;> split <;> grind
      · exact h t ht l' e
theorem top_up (U : List (Rat × Bool)) (h : U ≠ []) : ∃ u ∈ U, ∀ t, okv u.2 (u.1 - t) → ∀ u' ∈ U, okv u'.2 (u'.1 - t) := by
  obtain ⟨l, hl, h1⟩ := top_low (U.map fun u => (-u.1, u.2)) (by simpa using h)
  obtain ⟨u, hu, rfl⟩ := List.mem_map.mp hl
  refine ⟨u, hu, fun t ht u' hu' => ?_⟩
  have := h1 (-t) (by dsimp only; rw [show -t - -u.1 = u.1 - t by grind]; exact ht) (-u'.1, u'.2) (List.mem_map.mpr ⟨u', hu', rfl⟩)
  dsimp only at this
  rwa [show -t - -u'.1 = u'.1 - t by grind] at this
theorem ex_between (L U : List (Rat × Bool)) (h : ∀ l ∈ L, ∀ u ∈ U, okv (l.2 || u.2) (u.1 - l.1)) : ∃ t, (∀ l ∈ L, okv l.2 (t - l.1)) ∧ ∀ u ∈ U, okv u.2 (u.1 - t) := by
  by_cases hL : L = []
  · by_cases hU : U = []
    · subst hL hU; exact ⟨0, (fun _ h => by cases h), fun _ h => by cases h⟩
    · obtain ⟨u, hu, h1⟩ := top_up U hU
      subst hL
      refine ⟨u.1 - 1, (fun _ h => by cases h), h1 _ ?_⟩
      unfold okv
      split <;> grind
  · obtain ⟨l, hl, h1⟩ := top_low L hL
    by_cases hU : U = []
    · subst hU
      refine ⟨l.1 + 1, h1 _ ?_, fun _ h => by cases h⟩
      unfold okv
      split <;> grind
    · obtain ⟨u, hu, h2⟩ := top_up U hU
      have h3 := h l hl u hu
      by_cases hs : (l.2 || u.2) = true
      · rw [hs] at h3
        have h4 : 0 < u.1 - l.1 := by unfold okv at h3; rwa [if_pos rfl] at h3
        refine ⟨(l.1 + u.1) / 2, h1 _ ?_, h2 _ ?_⟩
        · have : (l.1 + u.1) / 2 - l.1 = (u.1 - l.1) / 2 := by grind
          rw [this]
          unfold okv
          split <;> grind
        · have : u.1 - (l.1 + u.1) / 2 = (u.1 - l.1) / 2 := by grind
          rw [this]
          unfold okv
          split <;> grind
      · have hs' : (l.2 || u.2) = false := by simpa using hs
        rw [hs'] at h3
        have h4 : 0 ≤ u.1 - l.1 := okv_lt h3
        simp only [Bool.or_eq_false_iff] at hs'
        refine ⟨l.1, h1 _ ?_, h2 _ ?_⟩
        · unfold okv; rw [hs'.1, if_neg Bool.false_ne_true]; grind
        · unfold okv; rw [hs'.2, if_neg Bool.false_ne_true]; exact h4
def Rw.at (R : Rw) (i : Nat) : Rat := R.f.getD i 0
def elimL (i : Nat) (rows : List Rw) : List Rw :=
  (rows.filter fun R => decide (R.at i = 0)) ++ (rows.filter fun R => decide (0 < R.at i)).flatMap fun one => (rows.filter fun R => decide (R.at i < 0)).map fun other => (one.scale (1 / one.at i)).sum (other.scale (1 / -(other.at i)))
def elim (i : Nat) (rows : List Rw) : List Rw := strongest (elimL i rows)
/-- what is left of a row at a point, without the quantity i -/
def Rw.rest (R : Rw) (i : Nat) (x : List Rat) : Rat := dot R.f x - R.at i * x.getD i 0 + R.r
theorem ok_set {R : Rw} {i : Nat} {x : List Rat} {t : Rat} (h1 : i < R.f.length) (h2 : i < x.length) : R.ok (x.set i t) ↔ okv R.s (R.at i * t + R.rest i x) := by
  unfold Rw.ok Rw.rest
  rw [dot_set _ _ _ _ h1 h2]
  unfold Rw.at
  rw [show dot R.f x + R.f.getD i 0 * (t - x.getD i 0) + R.r = R.f.getD i 0 * t + (dot R.f x - R.f.getD i 0 * x.getD i 0 + R.r) by grind]
theorem ok_rest {R : Rw} {i : Nat} {x : List Rat} : R.ok x ↔ okv R.s (R.at i * x.getD i 0 + R.rest i x) := by
  unfold Rw.ok Rw.rest
  rw [show R.at i * x.getD i 0 + (dot R.f x - R.at i * x.getD i 0 + R.r) = dot R.f x + R.r by grind]
theorem pair_ok {R S : Rw} {i : Nat} {x : List Rat} (hl : R.f.length = S.f.length) (hR : 0 < R.at i) (hS : S.at i < 0) :
    ((R.scale (1 / R.at i)).sum (S.scale (1 / -(S.at i)))).ok x ↔ okv (R.s || S.s) (S.rest i x / -(S.at i) - -(R.rest i x / R.at i)) := by
  unfold Rw.ok Rw.sum Rw.scale Rw.rest
  dsimp only
  rw [dot_add _ _ _ (by simpa using hl), dot_scale, dot_scale]
  generalize R.at i = a at *
  generalize S.at i = b at *
  generalize x.getD i 0 = z
  generalize dot R.f x = p
  generalize dot S.f x = q
  have ha : a ≠ 0 := by grind
  have hb : -b ≠ 0 := by grind
  have e : 1 / a * p + 1 / -b * q + (1 / a * R.r + 1 / -b * S.r) = (q - b * z + S.r) / -b - -((p - a * z + R.r) / a) := by
    grind
  rw [e]

theorem okv_low {s : Bool} {a c t : Rat} (ha : 0 < a) : okv s (a * t + c) ↔ okv s (t - -(c / a)) := by
  rw [show a * t + c = a * (t - -(c / a)) by grind]
  exact okv_scale ha
theorem okv_up {s : Bool} {a c t : Rat} (ha : a < 0) : okv s (a * t + c) ↔ okv s (c / -a - t) := by
  have h : 0 < -a := by grind
  rw [show a * t + c = -a * (c / -a - t) by grind]
  exact okv_scale h
/-- the rows without the quantity i have a point just where the rows have one -/
theorem elim_sat {rows : List Rw} {n i : Nat} {x : List Rat} (hn : ∀ R ∈ rows, R.f.length = n) (hi : i < n) (hx : x.length = n) : Sat (elim i rows) x ↔ ∃ t, Sat rows (x.set i t) := by
  unfold elim
  rw [strongest_sat]
  have hset : ∀ R ∈ rows, ∀ t, R.ok (x.set i t) ↔ okv R.s (R.at i * t + R.rest i x) := fun R hR t => ok_set (by rw [hn R hR]; exact hi) (by rw [hx]; exact hi)
  constructor
  · intro h
    obtain ⟨t, h1, h2⟩ := ex_between ((rows.filter fun R => decide (0 < R.at i)).map fun R => (-(R.rest i x / R.at i), R.s)) ((rows.filter fun R => decide (R.at i < 0)).map fun R => (R.rest i x / -(R.at i), R.s)) (by
      intro l hl u hu
      obtain ⟨R, hR, rfl⟩ := List.mem_map.mp hl
      obtain ⟨S, hS, rfl⟩ := List.mem_map.mp hu
      obtain ⟨hR1, hR2⟩ := List.mem_filter.mp hR
      obtain ⟨hS1, hS2⟩ := List.mem_filter.mp hS
      rw [decide_eq_true_eq] at hR2 hS2
      have := h _ (List.mem_append_right _ (List.mem_flatMap.mpr ⟨R, hR, List.mem_map.mpr ⟨S, hS, rfl⟩⟩))
      exact (pair_ok (by rw [hn R hR1, hn S hS1]) hR2 hS2).mp this)
    refine ⟨t, fun R hR => (hset R hR t).mpr ?_⟩
    by_cases c1 : 0 < R.at i
    · exact (okv_low c1).mpr (h1 (-(R.rest i x / R.at i), R.s) (List.mem_map.mpr ⟨R, List.mem_filter.mpr ⟨hR, by simpa using c1⟩, rfl⟩))
    · by_cases c2 : R.at i < 0
      · exact (okv_up c2).mpr (h2 (R.rest i x / -(R.at i), R.s) (List.mem_map.mpr ⟨R, List.mem_filter.mpr ⟨hR, by simpa using c2⟩, rfl⟩))
      · have c3 : R.at i = 0 := by grind
        have := h R (List.mem_append_left _ (List.mem_filter.mpr ⟨hR, by simpa using c3⟩))
        rw [ok_rest (i := i)] at this
        rw [c3] at this ⊢
        rw [show (0 : Rat) * t + R.rest i x = 0 * x.getD i 0 + R.rest i x by grind]
        exact this
  · rintro ⟨t, h⟩ R hR
    rcases List.mem_append.mp hR with hR | hR
    · obtain ⟨hR1, hR2⟩ := List.mem_filter.mp hR
      rw [decide_eq_true_eq] at hR2
      have := (hset R hR1 t).mp (h R hR1)
      rw [ok_rest (i := i)]
      rw [hR2] at this ⊢
      rw [show (0 : Rat) * x.getD i 0 + R.rest i x = 0 * t + R.rest i x by grind]
      exact this
    · obtain ⟨S, hS, hR⟩ := List.mem_flatMap.mp hR
      obtain ⟨T, hT, rfl⟩ := List.mem_map.mp hR
      obtain ⟨hS1, hS2⟩ := List.mem_filter.mp hS
      obtain ⟨hT1, hT2⟩ := List.mem_filter.mp hT
      rw [decide_eq_true_eq] at hS2 hT2
      have k1 := (okv_low hS2).mp ((hset S hS1 t).mp (h S hS1))
      have k2 := (okv_up hT2).mp ((hset T hT1 t).mp (h T hT1))
      refine (pair_ok (by rw [hn S hS1, hn T hT1]) hS2 hT2).mpr ?_
      generalize -(S.rest i x / S.at i) = l at *
      generalize T.rest i x / -(T.at i) = u at *
      unfold okv at k1 k2 ⊢
      cases e1 : S.s <;> cases e2 : T.s <;> simp only [e1, e2, Bool.or_false, Bool.or_true, Bool.false_eq_true, if_false, if_true] at k1 k2 ⊢ <;> grind
/-! lengths, and what is gone -/
theorem addL_length : ∀ f g : List Rat, f.length = g.length → (addL f g).length = f.length
  | [], [], _ => rfl
  | a :: f, b :: g, h => by simp [addL, addL_length f g (by simpa using h)]
  | [], _ :: _, h => by simp at h
  | _ :: _, [], h => by simp at h
theorem even_length {R : Rw} : R.even.f.length = R.f.length := by
  unfold Rw.even
  split
  · rfl
  · simp [Rw.scale]
theorem strongest_mem {P : Rw → Prop} {rows : List Rw} (h : ∀ R ∈ rows, P R.even) : ∀ R ∈ strongest rows, P R := by
  have key : ∀ (rows : List Rw) (kvs : List (List Rat × Rw)), (∀ R ∈ rows, P R.even) → (∀ p ∈ kvs, P p.2) → ∀ p ∈ rows.foldl sStep kvs, P p.2 := by
    intro rows
    induction rows with
    | nil => intro kvs _ h; exact h
    | cons row rows ih =>
      intro kvs h1 h2
      refine ih _ (fun R hR => h1 R (by simp [hR])) fun p hp => ?_
      have he := h1 row (by simp)
      unfold sStep at hp
      dsimp only at hp
      split at hp
      · exact h2 p hp
      · split at hp
        · rcases mem_put hp with e | ⟨e, _⟩
          · rw [e]; exact he
          · exact h2 p e
        · split at hp
          · exact h2 p hp
          · rcases mem_put hp with e | ⟨e, _⟩
            · rw [e]; exact he
            · exact h2 p e
  intro R hR
  unfold strongest at hR
  obtain ⟨p, hp, rfl⟩ := List.mem_map.mp hR
  exact key rows [] h (fun _ h => by cases h) p hp
theorem strongest_not_nothing {rows : List Rw} : ∀ R ∈ strongest rows, R.nothing = false := by
  have key : ∀ (rows : List Rw) (kvs : List (List Rat × Rw)), (∀ p ∈ kvs, p.2.nothing = false) → ∀ p ∈ rows.foldl sStep kvs, p.2.nothing = false := by
    intro rows
    induction rows with
    | nil => intro kvs h; exact h
    | cons row rows ih =>
      intro kvs h2
      refine ih _ fun p hp => ?_
      unfold sStep at hp
      dsimp only at hp
      split at hp
      · exact h2 p hp
      · rename_i hn
        have he : row.even.nothing = false := by simpa using hn
        split at hp
        · rcases mem_put hp with e | ⟨e, _⟩
          · rw [e]; exact he
          · exact h2 p e
        · split at hp
          · exact h2 p hp
          · rcases mem_put hp with e | ⟨e, _⟩
            · rw [e]; exact he
            · exact h2 p e
  intro R hR
  unfold strongest at hR
  obtain ⟨p, hp, rfl⟩ := List.mem_map.mp hR
  exact key rows [] (fun _ h => by cases h) p hp
end FM
end
section
set_option Elab.async false
set_option linter.all false
namespace Py
open PySem L2
@[simp] theorem cmpS_in {d e : D} : cmpS .In d e = inS d e := by cases d <;> cases e <;> rfl
@[simp] theorem cmpS_notin {d e : D} : cmpS .NotIn d e = (inS d e).map not := by cases d <;> cases e <;> rfl
/-! ### walks over lists, once for all laws -/
theorem lcS_mapM {α : Type} {t : T} {c : Env → Store → Option (Bool × Store)} {f : Env → Store → Option (D × Store)} {env : Env} {μ : Store} {g h : α → D} : ∀ l : List α, (∀ a ∈ l, ∃ e, asgT t (g a) env = some e ∧ c e μ = some (true, μ) ∧ f e μ = some (h a, μ)) → lcS t c f env (l.map g) μ = some (l.map h, μ)
  | [], _ => rfl
  | a :: l, hk => by
    obtain ⟨e, h1, h2, h3⟩ := hk a (by simp)
    rw [List.map_cons, lcS_cons, h1]
    simp -implicitDefEqProofs only [Option.bind_some, h2, if_true, h3, lcS_mapM l (fun x hx => hk x (by simp [hx])), Option.map_some, List.map_cons]
theorem lcS_filterM {α : Type} {t : T} {c : Env → Store → Option (Bool × Store)} {f : Env → Store → Option (D × Store)} {env : Env} {μ : Store} {g h : α → D} {p : α → Bool} : ∀ l : List α, (∀ a ∈ l, ∃ e, asgT t (g a) env = some e ∧ c e μ = some (p a, μ) ∧ (p a = true → f e μ = some (h a, μ))) → lcS t c f env (l.map g) μ = some ((l.filter p).map h, μ)
  | [], _ => rfl
  | a :: l, hk => by
    obtain ⟨e, h1, h2, h3⟩ := hk a (by simp)
    have ih := lcS_filterM l (fun x hx => hk x (by simp [hx]))
    rw [List.map_cons, lcS_cons, h1]
    cases hp : p a with
    | true =>
      rw [hp] at h2
      simp -implicitDefEqProofs only [Option.bind_some, h2, if_true, h3 hp, ih, Option.map_some, List.filter_cons, hp, List.map_cons]
    | false =>
      rw [hp] at h2
      simp -implicitDefEqProofs only [Option.bind_some, h2, Bool.false_eq_true, if_false, ih, List.filter_cons, hp]
theorem ev_lc_map {α : Type} {Φ : FnS} {Γ : GlS} {x : E} {t : T} {it : I} {c : Eo} {vs : List Nat} {env : Env} {μ : Store} {g h : α → D} (l : List α) (hI : evI Φ Γ it env μ = some (l.map g, μ)) (hl : l.length ≤ 16777216)
    (hk : ∀ a ∈ l, ∃ e, asgT t (g a) (wipeE env vs) = some e ∧ evc Φ Γ c e μ = some (true, μ) ∧ ev Φ Γ x e μ = some (h a, μ)) : ev Φ Γ (.lc x t it c vs) env μ = some (.lst (l.map h), μ) := by
  rw [ev_lc, hI]
  simp -implicitDefEqProofs only [Option.bind_some]
  rw [if_pos (by rw [List.length_map]; unfold SZ; exact hl), lcS_mapM l hk]
  rfl
theorem ev_lc_filter {α : Type} {Φ : FnS} {Γ : GlS} {x : E} {t : T} {it : I} {c : Eo} {vs : List Nat} {env : Env} {μ : Store} {g h : α → D} {p : α → Bool} (l : List α) (hI : evI Φ Γ it env μ = some (l.map g, μ)) (hl : l.length ≤ 16777216)
    (hk : ∀ a ∈ l, ∃ e, asgT t (g a) (wipeE env vs) = some e ∧ evc Φ Γ c e μ = some (p a, μ) ∧ (p a = true → ev Φ Γ x e μ = some (h a, μ))) : ev Φ Γ (.lc x t it c vs) env μ = some (.lst ((l.filter p).map h), μ) := by
  rw [ev_lc, hI]
  simp -implicitDefEqProofs only [Option.bind_some]
  rw [if_pos (by rw [List.length_map]; unfold SZ; exact hl), lcS_filterM l hk]
  rfl
/-- [1 for x in xs if not p x], counted -/
theorem none_left {α : Type} (l : List α) (p : α → Bool) : l.all p = decide ((l.filter fun a => !p a).length = 0) := by
  rw [Bool.eq_iff_iff]
  simp [List.all_eq_true, List.filter_eq_nil_iff]
/-- a for that is a fold; the index comes along -/
theorem forS_fold {α σ : Type} {t : T} {b : Env → Store → Option Fl} {μ : Store} (g : α → D) (f : σ → α → σ) (P : Nat → σ → Env → Prop) : ∀ (l : List α) (i : Nat) (s : σ) (env : Env), P i s env →
    (∀ a ∈ l, ∀ j s env, i ≤ j → j < i + l.length → P j s env → ∃ env1 env', asgT t (g a) env = some env1 ∧ (b env1 μ = some (.nx env' μ) ∨ b env1 μ = some (.ct env' μ)) ∧ P (j + 1) (f s a) env') →
    ∃ env', forS t b (l.map g) env μ = some (.nx env' μ) ∧ P (i + l.length) (l.foldl f s) env'
  | [], i, s, env, h, _ => ⟨env, rfl, h⟩
  | a :: l, i, s, env, h, hs => by
    obtain ⟨env1, env', h1, h2, h3⟩ := hs a (by simp) i s env (Nat.le_refl _) (by simp) h
    obtain ⟨env2, h4, h5⟩ := forS_fold g f P l (i + 1) (f s a) env' h3 (fun a' ha' j s' e hj1 hj2 hp => hs a' (by simp [ha']) j s' e (by omega) (by simp only [List.length_cons]; omega) hp)
    refine ⟨env2, ?_, by rw [List.length_cons, List.foldl_cons, show i + (l.length + 1) = i + 1 + l.length by omega]; exact h5⟩
    rw [List.map_cons, forS, h1]
    rcases h2 with h2 | h2
    · simp only [Option.bind_some, h2]; exact h4
    · simp only [Option.bind_some, h2]; exact h4
/-- a for that goes back with the first that is so -/
theorem forS_find {α : Type} {t : T} {b : Env → Store → Option Fl} {μ : Store} (g res : α → D) (p : α → Bool) (P : Env → Prop) : ∀ (l : List α) (env : Env), P env →
    (∀ a ∈ l, ∀ env, P env → ∃ env1, asgT t (g a) env = some env1 ∧ (p a = true → b env1 μ = some (.rt (res a) μ)) ∧ (p a = false → ∃ env', (b env1 μ = some (.nx env' μ) ∨ b env1 μ = some (.ct env' μ)) ∧ P env')) →
    (∃ a ∈ l, l.find? p = some a ∧ forS t b (l.map g) env μ = some (.rt (res a) μ)) ∨ (l.find? p = none ∧ ∃ env', forS t b (l.map g) env μ = some (.nx env' μ) ∧ P env')
  | [], env, h, _ => .inr ⟨rfl, env, rfl, h⟩
  | a :: l, env, h, hs => by
    obtain ⟨env1, h1, h2, h3⟩ := hs a (by simp) env h
    cases hp : p a with
    | true =>
      refine .inl ⟨a, by simp, by rw [List.find?_cons, hp], ?_⟩
      rw [List.map_cons, forS, h1]
      simp only [Option.bind_some, h2 hp]
    | false =>
      obtain ⟨env', h4, h5⟩ := h3 hp
      have e : forS t b ((a :: l).map g) env μ = forS t b (l.map g) env' μ := by
        rw [List.map_cons, forS, h1]
        rcases h4 with h4 | h4 <;> simp only [Option.bind_some, h4]
      rw [e, List.find?_cons, hp]
      rcases forS_find g res p P l env' h5 (fun a' ha' => hs a' (by simp [ha'])) with ⟨a', m1, m2, m3⟩ | ⟨m1, m2⟩
      · exact .inl ⟨a', by simp [m1], m2, m3⟩
      · exact .inr ⟨m1, m2⟩
/-! ratios -/
theorem eqS_pair (a b c d : Int) : eqS (.tup [.int a, .int b]) (.tup [.int c, .int d]) = some (decide (a = c ∧ b = d)) := by
  simp [eqS, toPy, toPys, SeqAt.shaped, PyData.canLay0, PyData.canLayAll0, PyData.depth, PyData.depthAll, PyData.eqv, PyData.eqvAll]
  rfl
theorem rD_zero : rD 0 = .tup [.int 0, .int 1] := rfl
theorem rD_one : rD 1 = .tup [.int 1, .int 1] := rfl
theorem rD_int (i : Int) : rD (i : Rat) = .tup [.int i, .int 1] := rfl
theorem rD_neg' (t : Rat) : rD (-t) = .tup [.int (-t.num), .int t.den] := by
  unfold rD; rw [Rat.neg_num, Rat.neg_den]
theorem eqS_rD (s t : Rat) : eqS (rD s) (rD t) = some (decide (s = t)) := by
  unfold rD
  rw [eqS_pair]
  congr 1
  rw [decide_eq_decide]
  constructor
  · rintro ⟨h1, h2⟩; exact Rat.ext h1 (by exact_mod_cast h2)
  · rintro rfl; exact ⟨rfl, rfl⟩
theorem sz_one {b : Nat} (h : 0 < b) : Sz b 1 := ⟨Nat.one_lt_two_pow (by omega), Nat.one_lt_two_pow (by omega)⟩
theorem sz_zero {b : Nat} (h : 0 < b) : Sz b 0 := ⟨Nat.pos_of_ne_zero (by simp), Nat.one_lt_two_pow (by omega)⟩
theorem num_pos_iff {t : Rat} : 0 < t ↔ 0 < t.num := by rw [Rat.lt_iff]; simp
theorem num_neg_iff {t : Rat} : t < 0 ↔ t.num < 0 := by rw [Rat.lt_iff]; simp
theorem num_zero_iff {t : Rat} : t = 0 ↔ t.num = 0 := by
  constructor
  · rintro rfl; rfl
  · intro h; exact Rat.num_eq_zero.mp h
theorem divInt_pos {p q : Int} (h : 0 < p) (h' : 0 < q) : 0 < Rat.divInt p q := by
  rw [Rat.divInt_eq_div, Rat.div_def]
  exact Rat.mul_pos (by exact_mod_cast h) (Rat.inv_pos.mpr (by exact_mod_cast h'))
/-! ranges -/
theorem rangeD_map (n : Nat) : rangeD 0 n = (List.range n).map fun m : Nat => D.int (m : Int) := by
  unfold rangeD
  refine List.map_congr_left fun i _ => ?_
  rw [Int.zero_add]
theorem rngS_map {n : Nat} (h : n ≤ 16777216) : rngS 0 (n : Int) = some ((List.range n).map fun m : Nat => D.int (m : Int)) := by
  rw [← rangeD_map]
  unfold rngS
  rw [if_pos]
  · simp
  · simp [SZ]; omega
theorem atI_map {α : Type} {g : α → D} {l : List α} {i : Nat} (h : i < l.length) : atI (l.map g) (i : Int) = some (g l[i]) := by
  rw [atI_of (by simpa using h)]; simp
theorem atI_last {α : Type} {g : α → D} {l : List α} {a : α} (h : l.getLast? = some a) : atI (l.map g) (-1) = some (g a) := by
  have hne : l ≠ [] := fun z => by subst z; simp at h
  have hpos : 0 < l.length := List.length_pos_iff.mpr hne
  rw [List.getLast?_eq_getElem?] at h
  unfold atI ixN
  rw [List.length_map]
  simp
  have e : ((-1 : Int) + (l.length : Int)).toNat = l.length - 1 := by omega
  rw [if_pos (by omega), e]
  simp [h]
theorem zipD_map {α β : Type} (f : α → D) (g : β → D) : ∀ (l : List α) (m : List β), zipD (l.map f) (m.map g) = (l.zip m).map fun p => .tup [f p.1, g p.2]
  | [], m => by cases m <;> simp
  | a :: l, [] => by simp
  | a :: l, b :: m => by rw [List.map_cons, List.map_cons, zipD_cons, zipD_map f g l m]; rfl
theorem enumD_map {α : Type} (g : α → D) : ∀ (l : List α) (i : Nat), enumD i (l.map g) = (l.zipIdx i).map fun p => .tup [.int (p.2 : Int), g p.1]
  | [], _ => rfl
  | a :: l, i => by rw [List.map_cons, enumD, enumD_map g l (i + 1), List.zipIdx_cons]; rfl
/-! a deal's place in the store -/
def Sa (a : Nat) : Store := [[.int (a : Int)]]
theorem scalS_Sa {a : Nat} : scalS (Sa a) = true := rfl
theorem lc_draw {α : Type} {t : T} {c : Env → Store → Option (Bool × Store)} {f : Env → Store → Option (D × Store)} {env : Env} {enc : α → D} {P : α → Prop} (s lim : Nat) : ∀ (ds : List D) (a : Nat), a + s * ds.length ≤ lim →
    (∀ d ∈ ds, ∀ a, a + s ≤ lim → ∃ e x a', asgT t d env = some e ∧ c e (Sa a) = some (true, Sa a) ∧ f e (Sa a) = some (enc x, Sa a') ∧ P x ∧ a ≤ a' ∧ a' ≤ a + s) →
    ∃ (xs : List α) (a' : Nat), lcS t c f env ds (Sa a) = some (xs.map enc, Sa a') ∧ xs.length = ds.length ∧ (∀ x ∈ xs, P x) ∧ a ≤ a' ∧ a' ≤ a + s * ds.length
  | [], a, _, _ => ⟨[], a, rfl, rfl, fun _ h => (by cases h), Nat.le_refl _, by simp⟩
  | d :: ds, a, hn, hk => by
    simp only [List.length_cons, Nat.mul_succ] at hn
    obtain ⟨e, x, a1, h1, h2, h3, h4, h5, h6⟩ := hk d (by simp) a (by omega)
    obtain ⟨xs, a', g1, g2, g3, g4, g5⟩ := lc_draw s lim ds a1 (by omega) (fun d' hd' => hk d' (by simp [hd']))
    refine ⟨x :: xs, a', ?_, by simp [g2], ?_, by omega, by simp only [List.length_cons, Nat.mul_succ]; omega⟩
    · rw [lcS_cons, h1]
      simp -implicitDefEqProofs only [Option.bind_some, h2, if_true, h3, g1, Option.map_some, List.map_cons]
    · intro y hy
      rcases List.mem_cons.mp hy with rfl | hy
      · exact h4
      · exact g3 y hy
theorem ev_lc_draw {α : Type} {Φ : FnS} {Γ : GlS} {x : E} {t : T} {it : I} {vs : List Nat} {env : Env} {enc : α → D} {P : α → Prop} {a0 a : Nat} {ds : List D} (s lim : Nat) (hI : evI Φ Γ it env (Sa a0) = some (ds, Sa a)) (hl : ds.length ≤ 16777216) (hn : a + s * ds.length ≤ lim)
    (hk : ∀ d ∈ ds, ∀ a, a + s ≤ lim → ∃ e y a', asgT t d (wipeE env vs) = some e ∧ ev Φ Γ x e (Sa a) = some (enc y, Sa a') ∧ P y ∧ a ≤ a' ∧ a' ≤ a + s) :
    ∃ (xs : List α) (a' : Nat), ev Φ Γ (.lc x t it Eo.none vs) env (Sa a0) = some (.lst (xs.map enc), Sa a') ∧ xs.length = ds.length ∧ (∀ x ∈ xs, P x) ∧ a ≤ a' ∧ a' ≤ a + s * ds.length := by
  obtain ⟨xs, a', g1, g2, g3, g4, g5⟩ := lc_draw (t := t) (c := fun env' μ' => evc Φ Γ Eo.none env' μ') (f := fun env' μ' => ev Φ Γ x env' μ') (env := wipeE env vs) (enc := enc) (P := P) s lim ds a hn (fun d hd a ha => by
    obtain ⟨e, y, a', h1, h2, h3, h4, h5⟩ := hk d hd a ha
    exact ⟨e, y, a', h1, by simp, h2, h3, h4, h5⟩)
  refine ⟨xs, a', ?_, g2, g3, g4, g5⟩
  rw [ev_lc, hI]
  simp -implicitDefEqProofs only [Option.bind_some]
  rw [if_pos (by unfold SZ; exact hl), g1]
  rfl
/-- a draw whose walk knows the item (indexed by l) -/
theorem ev_lc_drawM {α β : Type} {Φ : FnS} {Γ : GlS} {x : E} {t : T} {it : I} {vs : List Nat} {env : Env} {g : α → D} {enc : β → D} {P : α → β → Prop} {a0 a : Nat} (l : List α) (s lim : Nat) (hI : evI Φ Γ it env (Sa a0) = some (l.map g, Sa a)) (hl : l.length ≤ 16777216) (hn : a + s * l.length ≤ lim)
    (hk : ∀ d ∈ l, ∀ a, a + s ≤ lim → ∃ e y a', asgT t (g d) (wipeE env vs) = some e ∧ ev Φ Γ x e (Sa a) = some (enc y, Sa a') ∧ P d y ∧ a ≤ a' ∧ a' ≤ a + s) :
    ∃ (xs : List β) (a' : Nat), ev Φ Γ (.lc x t it Eo.none vs) env (Sa a0) = some (.lst (xs.map enc), Sa a') ∧ xs.length = l.length ∧ (∀ p ∈ l.zip xs, P p.1 p.2) ∧ a ≤ a' ∧ a' ≤ a + s * l.length := by
  have key : ∀ (l : List α) (a : Nat), a + s * l.length ≤ lim → (∀ d ∈ l, ∀ a, a + s ≤ lim → ∃ e y a', asgT t (g d) (wipeE env vs) = some e ∧ ev Φ Γ x e (Sa a) = some (enc y, Sa a') ∧ P d y ∧ a ≤ a' ∧ a' ≤ a + s) →
      ∃ (xs : List β) (a' : Nat), lcS t (fun env' μ' => evc Φ Γ Eo.none env' μ') (fun env' μ' => ev Φ Γ x env' μ') (wipeE env vs) (l.map g) (Sa a) = some (xs.map enc, Sa a') ∧ xs.length = l.length ∧ (∀ p ∈ l.zip xs, P p.1 p.2) ∧ a ≤ a' ∧ a' ≤ a + s * l.length := by
    intro l
    induction l with
    | nil => intro a _ _; exact ⟨[], a, rfl, rfl, fun _ h => (by cases h), Nat.le_refl _, by simp⟩
    | cons d l ih =>
      intro a hn hk
      simp only [List.length_cons, Nat.mul_succ] at hn
      obtain ⟨e, y, a1, h1, h2, h3, h4, h5⟩ := hk d (by simp) a (by omega)
      obtain ⟨xs, a', g1, g2, g3, g4, g5⟩ := ih a1 (by omega) (fun d' hd' => hk d' (by simp [hd']))
      refine ⟨y :: xs, a', ?_, by simp [g2], ?_, by omega, by simp only [List.length_cons, Nat.mul_succ]; omega⟩
      · rw [List.map_cons, lcS_cons, h1]
        simp only [evc_none] at g1
        simp -implicitDefEqProofs only [Option.bind_some, evc_none, if_true, h2, g1, Option.map_some, List.map_cons]
      · intro p hp
        rw [List.zip_cons_cons] at hp
        rcases List.mem_cons.mp hp with rfl | hp
        · exact h3
        · exact g3 p hp
  obtain ⟨xs, a', g1, g2, g3, g4, g5⟩ := key l a hn hk
  refine ⟨xs, a', ?_, g2, g3, g4, g5⟩
  rw [ev_lc, hI]
  simp -implicitDefEqProofs only [Option.bind_some]
  rw [if_pos (by rw [List.length_map]; unfold SZ; exact hl), g1]
  rfl
end Py
end
section
set_option Elab.async false
set_option linter.all false
set_option maxRecDepth 100000
namespace Geo
open PySem L2 Py FM
/-! ### bounds, points, boxes as data -/
structure Bd where
  f : List Rat
  r : Rat
  s : Bool
def bdD (B : Bd) : D := .tup [.tup (B.f.map rD), rD B.r, .bl B.s]
def Bd.val (B : Bd) (x : List Rat) : Rat := dot B.f x + B.r
def okb (s : Bool) (v : Rat) : Bool := if s then decide (0 < v) else decide (0 ≤ v)
theorem okb_iff {s : Bool} {v : Rat} : okb s v = true ↔ okv s v := by
  unfold okb okv; split <;> simp
def BSz (b : Nat) (B : Bd) : Prop := (∀ a ∈ B.f, Sz b a) ∧ Sz b B.r
def keepsB (B : Bd) (x : List Rat) : Bool := okb B.s (B.val x)
def hasB (bs : List Bd) (x : List Rat) : Bool := bs.all fun B => keepsB B x
def bsD (bs : List Bd) : D := .tup (bs.map bdD)
def ptD (x : List Rat) : D := .tup (x.map rD)
def pairD (p : Rat × Rat) : D := .tup [rD p.1, rD p.2]
def boxD (b : List (Rat × Rat)) : D := .tup (b.map pairD)
theorem dot_take : ∀ (f x : List Rat) (i : Nat) (h1 : i < f.length) (h2 : i < x.length), dot (f.take (i + 1)) (x.take (i + 1)) = dot (f.take i) (x.take i) + f[i] * x[i]
  | a :: f, y :: x, 0, _, _ => by simp [dot]; grind
  | a :: f, y :: x, i + 1, h1, h2 => by
    have := dot_take f x i (by simpa using h1) (by simpa using h2)
    simp only [List.take_succ_cons, dot, this, List.getElem_cons_succ]
    grind
theorem sz_add_le {a b m : Nat} {s t : Rat} (h : Sz a s) (h' : Sz b t) (hm : a + b + 1 ≤ m) : Sz m (s + t) := (h.add h').mono hm
def unitL (n i : Nat) (v : Rat) : List Rat := (List.range n).map fun m => if m = i then v else 0
def movedM (x r : List Rat) (t : Rat) : List Rat := (x.zip r).map fun p => p.1 + p.2 * t
theorem movedM_length {x r : List Rat} {t : Rat} (h : x.length = r.length) : (movedM x r t).length = x.length := by unfold movedM; simp [h]
theorem movedM_sz {a b c : Nat} {x r : List Rat} {t : Rat} (hx : ∀ y ∈ x, Sz a y) (hr : ∀ y ∈ r, Sz b y) (ht : Sz c t) : ∀ y ∈ movedM x r t, Sz (a + (b + c) + 1) y := fun y hy => by
  obtain ⟨p, hp, rfl⟩ := List.mem_map.mp hy
  obtain ⟨i1, i2⟩ := List.of_mem_zip (a := p.1) (b := p.2) hp
  exact (hx _ i1).add ((hr _ i2).mul ht)
/-! plain data: numbers, None, texts, and tuples and lists of these -/
def pln : Nat → D → Bool
  | _, .int _ => true | _, .bl _ => true | _, .non => true
  | n + 1, .tup ds => decide (ds.length ≤ 10000) && ds.all (pln n)
  | n + 1, .lst ds => decide (ds.length ≤ 10000) && ds.all (pln n)
  | _, _ => false
theorem plain_rD {n : Nat} {r : Rat} : pln (n + 1) (rD r) = true := by simp [pln, rD]
theorem plain_tup {α : Type} {n : Nat} {g : α → D} {l : List α} (hl : l.length ≤ 10000) (h : ∀ a ∈ l, pln n (g a) = true) : pln (n + 1) (.tup (l.map g)) = true := by
  rw [pln, Bool.and_eq_true, decide_eq_true_iff, List.all_eq_true]
  refine ⟨by simpa using hl, fun d hd => ?_⟩
  obtain ⟨a, ha, rfl⟩ := List.mem_map.mp hd
  exact h a ha
theorem plain_lst {α : Type} {n : Nat} {g : α → D} {l : List α} (hl : l.length ≤ 10000) (h : ∀ a ∈ l, pln n (g a) = true) : pln (n + 1) (.lst (l.map g)) = true := by
  rw [pln, Bool.and_eq_true, decide_eq_true_iff, List.all_eq_true]
  refine ⟨by simpa using hl, fun d hd => ?_⟩
  obtain ⟨a, ha, rfl⟩ := List.mem_map.mp hd
  exact h a ha
theorem plain_ptD {n : Nat} {x : List Rat} (hl : x.length ≤ 10000) : pln (n + 2) (ptD x) = true := plain_tup hl fun _ _ => plain_rD
/-! no lists within -/
theorem noLs_map {α : Type} {g : α → D} {l : List α} (h : ∀ a ∈ l, noL (g a) = true) : noLs (l.map g) = true := by
  induction l with
  | nil => rfl
  | cons a l ih => rw [List.map_cons, noLs, h a (by simp), ih (fun b hb => h b (by simp [hb]))]; rfl
theorem noL_rD {r : Rat} : noL (rD r) = true := rfl
theorem noL_ptD {x : List Rat} : noL (ptD x) = true := by unfold ptD; rw [noL]; exact noLs_map fun _ _ => noL_rD
end Geo
end
section
set_option Elab.async false
set_option linter.all false
set_option maxRecDepth 100000
set_option maxHeartbeats 0
namespace P48
open PySem L2 Py
def top (i : Nat) : Stmt := PySem.Challenge.pw_surepilot_k48_whole_late_widths_bound_es.main.body.getD i (.Pass ⟨0, 0, 0, 0⟩)
/-- greatest_divisor(p, q) -/
def l1_greatest_divisor : List S := [(S.par 0 1 (E.slot 1) (E.bin .Mod (E.slot 0) (E.slot 1)))]
def b_greatest_divisor : List S := [
  (S.wh (E.cmp .NotEq (E.slot 1) (E.int 0)) l1_greatest_divisor),
  (S.ret (E.bi .abs (E.slot 0) Es.nil))]
def p_greatest_divisor : PF := ⟨"greatest_divisor", ["p", "q"], ⟨2, 2, b_greatest_divisor⟩, top 1⟩
/-- ratio(p, q) -/
def b_ratio : List S := [
  (S.iff (E.cmp .Lt (E.slot 1) (E.int 0)) [(S.asg (T.nm 0) (E.neg (E.slot 0))), (S.asg (T.nm 1) (E.neg (E.slot 1)))] []),
  (S.asg (T.nm 2) (E.call 0 (E.slot 0) (Es.cons (E.slot 1) Es.nil))),
  (S.ret (E.tup (Es.cons (E.bin .FloorDiv (E.slot 0) (E.slot 2)) (Es.cons (E.bin .FloorDiv (E.slot 1) (E.slot 2)) Es.nil))))]
def p_ratio : PF := ⟨"ratio", ["p", "q", "shared"], ⟨2, 3, b_ratio⟩, top 2⟩
/-- added(s, t) -/
def b_added : List S := [
  (S.ret (E.call 1 (E.bin .Add (E.bin .Mult (E.ix (E.slot 0) (E.int 0)) (E.ix (E.slot 1) (E.int 1))) (E.bin .Mult (E.ix (E.slot 1) (E.int 0)) (E.ix (E.slot 0) (E.int 1)))) (Es.cons (E.bin .Mult (E.ix (E.slot 0) (E.int 1)) (E.ix (E.slot 1) (E.int 1))) Es.nil)))]
def p_added : PF := ⟨"added", ["s", "t"], ⟨2, 2, b_added⟩, top 3⟩
/-- times(s, t) -/
def b_times : List S := [
  (S.ret (E.call 1 (E.bin .Mult (E.ix (E.slot 0) (E.int 0)) (E.ix (E.slot 1) (E.int 0))) (Es.cons (E.bin .Mult (E.ix (E.slot 0) (E.int 1)) (E.ix (E.slot 1) (E.int 1))) Es.nil)))]
def p_times : PF := ⟨"times", ["s", "t"], ⟨2, 2, b_times⟩, top 4⟩
/-- over(s, t) -/
def b_over : List S := [
  (S.ret (E.call 1 (E.bin .Mult (E.ix (E.slot 0) (E.int 0)) (E.ix (E.slot 1) (E.int 1))) (Es.cons (E.bin .Mult (E.ix (E.slot 0) (E.int 1)) (E.ix (E.slot 1) (E.int 0))) Es.nil)))]
def p_over : PF := ⟨"over", ["s", "t"], ⟨2, 2, b_over⟩, top 5⟩
/-- compare(s, t) -/
def b_compare : List S := [
  (S.asg (T.nm 2) (E.bin .Sub (E.bin .Mult (E.ix (E.slot 0) (E.int 0)) (E.ix (E.slot 1) (E.int 1))) (E.bin .Mult (E.ix (E.slot 1) (E.int 0)) (E.ix (E.slot 0) (E.int 1))))),
  (S.iff (E.cmp .Lt (E.slot 2) (E.int 0)) [(S.ret (E.neg (E.int 1)))] []),
  (S.iff (E.cmp .Gt (E.slot 2) (E.int 0)) [(S.ret (E.int 1))] []),
  (S.ret (E.int 0))]
def p_compare : PF := ⟨"compare", ["s", "t", "difference"], ⟨2, 3, b_compare⟩, top 6⟩
/-- box_times(box, t) -/
def c1_box_times : E := E.lc (E.tup (Es.cons (E.call 3 (E.slot 2) (Es.cons (E.slot 1) Es.nil)) (Es.cons (E.call 3 (E.slot 3) (Es.cons (E.slot 1) Es.nil)) Es.nil))) (T.tp [(T.nm 2), (T.nm 3)]) (I.seq (E.slot 0)) Eo.none [2, 3]
def b_box_times : List S := [
  (S.ret (E.bi .tuple c1_box_times Es.nil))]
def p_box_times : PF := ⟨"box_times", ["box", "t", "low", "high"], ⟨2, 4, b_box_times⟩, top 8⟩
/-- rates_of(plant, mode, command) -/
def b_rates_of : List S := [
  (S.ret (E.ix (E.ix (E.ix (E.slot 0) (E.int 5)) (E.slot 1)) (E.slot 2)))]
def p_rates_of : PF := ⟨"rates_of", ["plant", "mode", "command"], ⟨3, 3, b_rates_of⟩, top 9⟩
/-- beat_box(plant, mode, command) -/
def b_beat_box : List S := [
  (S.ret (E.call 6 (E.call 7 (E.slot 0) (Es.cons (E.slot 1) (Es.cons (E.slot 2) Es.nil))) (Es.cons (E.ix (E.slot 0) (E.int 4)) Es.nil)))]
def p_beat_box : PF := ⟨"beat_box", ["plant", "mode", "command"], ⟨3, 3, b_beat_box⟩, top 10⟩
/-- sum_of_boxes(one, other) -/
def c1_sum_of_boxes : E := E.lc (E.tup (Es.cons (E.call 2 (E.slot 2) (Es.cons (E.slot 4) Es.nil)) (Es.cons (E.call 2 (E.slot 3) (Es.cons (E.slot 5) Es.nil)) Es.nil))) (T.tp [(T.tp [(T.nm 2), (T.nm 3)]), (T.tp [(T.nm 4), (T.nm 5)])]) (I.zip (E.slot 0) (E.slot 1)) Eo.none [2, 3, 4, 5]
def b_sum_of_boxes : List S := [
  (S.ret (E.bi .tuple c1_sum_of_boxes Es.nil))]
def p_sum_of_boxes : PF := ⟨"sum_of_boxes", ["one", "other", "a", "b", "c", "d"], ⟨2, 6, b_sum_of_boxes⟩, top 12⟩
/-- down(t, d) -/
def b_down : List S := [
  (S.asg (T.tp [(T.nm 2), (T.nm 3)]) (E.call 4 (E.slot 0) (Es.cons (E.slot 1) Es.nil))),
  (S.ret (E.bin .FloorDiv (E.slot 2) (E.slot 3)))]
def p_down : PF := ⟨"down", ["t", "d", "p", "q"], ⟨2, 4, b_down⟩, top 15⟩
/-- up(t, d) -/
def b_up : List S := [
  (S.asg (T.tp [(T.nm 2), (T.nm 3)]) (E.call 4 (E.slot 0) (Es.cons (E.slot 1) Es.nil))),
  (S.ret (E.neg (E.bin .FloorDiv (E.neg (E.slot 2)) (E.slot 3))))]
def p_up : PF := ⟨"up", ["t", "d", "p", "q"], ⟨2, 4, b_up⟩, top 16⟩
/-- made_whole(units, box) -/
def c1_made_whole : E := E.lc (E.tup (Es.cons (E.call 10 (E.slot 3) (Es.cons (E.slot 2) Es.nil)) (Es.cons (E.call 11 (E.slot 4) (Es.cons (E.slot 2) Es.nil)) Es.nil))) (T.tp [(T.nm 2), (T.tp [(T.nm 3), (T.nm 4)])]) (I.zip (E.slot 0) (E.slot 1)) Eo.none [2, 3, 4]
def b_made_whole : List S := [
  (S.ret (E.bi .tuple c1_made_whole Es.nil))]
def p_made_whole : PF := ⟨"made_whole", ["units", "box", "d", "low", "high"], ⟨2, 5, b_made_whole⟩, top 17⟩
/-- halved_units(units, i) -/
def c1_halved_units : E := E.lc (E.call 3 (E.slot 4) (Es.cons (E.glob 0) Es.nil)) (T.nm 4) (I.seq (E.slot 2)) Eo.none [4]
def l1_halved_units : List S := [(S.asg (T.nm 2) c1_halved_units)]
def b_halved_units : List S := [
  (S.asg (T.nm 2) (E.bi .list (E.slot 0) Es.nil)),
  (S.for (T.nm 3) (I.rng1 (E.slot 1)) l1_halved_units),
  (S.ret (E.bi .tuple (E.slot 2) Es.nil))]
def p_halved_units : PF := ⟨"halved_units", ["units", "i", "found", "_", "d"], ⟨2, 5, b_halved_units⟩, top 18⟩
/-- widths_of(whole) -/
def c1_widths_of : E := E.lc (E.bin .Sub (E.slot 2) (E.slot 1)) (T.tp [(T.nm 1), (T.nm 2)]) (I.seq (E.slot 0)) Eo.none [1, 2]
def b_widths_of : List S := [
  (S.ret c1_widths_of)]
def p_widths_of : PF := ⟨"widths_of", ["whole", "lo", "hi"], ⟨1, 3, b_widths_of⟩, top 19⟩
/-- read_pair(error, d) -/
def b_read_pair : List S := [
  (S.asg (T.nm 2) (E.call 11 (E.slot 0) (Es.cons (E.slot 1) Es.nil))),
  (S.ret (E.tup (Es.cons (E.slot 2) (Es.cons (E.bin .Add (E.slot 2) (E.int 1)) Es.nil))))]
def p_read_pair : PF := ⟨"read_pair", ["error", "d", "a"], ⟨2, 3, b_read_pair⟩, top 21⟩
/-- read_pairs(plant, units) -/
def c1_read_pairs : E := E.lc (E.call 15 (E.slot 2) (Es.cons (E.slot 3) Es.nil)) (T.tp [(T.nm 2), (T.nm 3)]) (I.zip (E.ix (E.ix (E.slot 0) (E.int 7)) (E.int 0)) (E.slot 1)) Eo.none [2, 3]
def b_read_pairs : List S := [
  (S.ret (E.bi .tuple c1_read_pairs Es.nil))]
def p_read_pairs : PF := ⟨"read_pairs", ["plant", "units", "error", "d"], ⟨2, 4, b_read_pairs⟩, top 22⟩
/-- read_box(reads, readings) -/
def c1_read_box : E := E.lc (E.tup (Es.cons (E.bin .Sub (E.slot 4) (E.slot 2)) (Es.cons (E.bin .Add (E.slot 4) (E.slot 3)) Es.nil))) (T.tp [(T.tp [(T.nm 2), (T.nm 3)]), (T.nm 4)]) (I.zip (E.slot 0) (E.slot 1)) Eo.none [4, 2, 3]
def b_read_box : List S := [
  (S.ret (E.bi .tuple c1_read_box Es.nil))]
def p_read_box : PF := ⟨"read_box", ["reads", "readings", "a", "b", "r"], ⟨2, 5, b_read_box⟩, top 23⟩
/-- box_hull(one, other) -/
def l1_box_hull : List S := [(S.app 2 (E.tup (Es.cons (E.ite (E.cmp .Lt (E.call 5 (E.slot 3) (Es.cons (E.slot 5) Es.nil)) (E.int 0)) (E.slot 3) (E.slot 5)) (Es.cons (E.ite (E.cmp .Gt (E.call 5 (E.slot 4) (Es.cons (E.slot 6) Es.nil)) (E.int 0)) (E.slot 4) (E.slot 6)) Es.nil))))]
def b_box_hull : List S := [
  (S.asgN 2 (E.lst Es.nil)),
  (S.for (T.tp [(T.tp [(T.nm 3), (T.nm 4)]), (T.tp [(T.nm 5), (T.nm 6)])]) (I.zip (E.slot 0) (E.slot 1)) l1_box_hull),
  (S.frz 2 (S.ret (E.bi .tuple (E.slot 2) Es.nil)))]
def p_box_hull : PF := ⟨"box_hull", ["one", "other", "found", "a", "b", "c", "d"], ⟨2, 7, b_box_hull⟩, top 24⟩
/-- change_boxes(plant, mode, command, now) -/
def l1_change_boxes : List S := [(S.iff (E.and (E.cmp .Eq (E.slot 6) (E.slot 1)) (Es.cons (E.cmp .Eq (E.slot 8) (E.slot 3)) Es.nil)) [(S.app 5 (E.call 9 (E.slot 4) (Es.cons (E.slot 9) Es.nil)))] [])]
def b_change_boxes : List S := [
  (S.asg (T.nm 4) (E.call 8 (E.slot 0) (Es.cons (E.slot 1) (Es.cons (E.slot 2) Es.nil)))),
  (S.asgN 5 (E.ite (E.cmp .Eq (E.slot 3) (E.slot 1)) (E.lst (Es.cons (E.slot 4) Es.nil)) (E.lst Es.nil))),
  (S.for (T.tp [(T.nm 6), (T.nm 7), (T.nm 8), (T.nm 7), (T.nm 7), (T.nm 9)]) (I.seq (E.ix (E.slot 0) (E.int 6))) l1_change_boxes),
  (S.frz 5 (S.ret (E.slot 5)))]
def p_change_boxes : PF := ⟨"change_boxes", ["plant", "mode", "command", "now", "beat", "found", "start", "_", "goal", "kicks"], ⟨4, 10, b_change_boxes⟩, top 25⟩
/-- offset_of(plant, units, mode, command, now) -/
def l1_offset_of : List S := [(S.asg (T.nm 5) (E.ite (E.isN (E.slot 5)) (E.slot 6) (E.call 18 (E.slot 5) (Es.cons (E.slot 6) Es.nil))))]
def b_offset_of : List S := [
  (S.asg (T.nm 5) E.non),
  (S.for (T.nm 6) (I.seq (E.call 19 (E.slot 0) (Es.cons (E.slot 2) (Es.cons (E.slot 3) (Es.cons (E.slot 4) Es.nil))))) l1_offset_of),
  (S.ret (E.ite (E.isN (E.slot 5)) E.non (E.call 12 (E.slot 1) (Es.cons (E.slot 5) Es.nil))))]
def p_offset_of : PF := ⟨"offset_of", ["plant", "units", "mode", "command", "now", "found", "box"], ⟨5, 7, b_offset_of⟩, top 26⟩
/-- offsets_of(plant, units) -/
def c1_offsets_of : E := E.lc (E.call 20 (E.slot 0) (Es.cons (E.slot 1) (Es.cons (E.slot 5) (Es.cons (E.slot 7) (Es.cons (E.slot 6) Es.nil))))) (T.nm 6) (I.seq (E.slot 2)) Eo.none [6]
def c2_offsets_of : E := E.lc (E.bi .tuple c1_offsets_of Es.nil) (T.nm 7) (I.seq (E.slot 3)) Eo.none [7]
def l1_offsets_of : List S := [(S.app 4 (E.bi .tuple c2_offsets_of Es.nil))]
def b_offsets_of : List S := [
  (S.asg (T.nm 2) (E.bi .range (E.bi .len (E.ix (E.slot 0) (E.int 2)) Es.nil) Es.nil)),
  (S.asg (T.nm 3) (E.bi .range (E.bi .len (E.ix (E.slot 0) (E.int 3)) Es.nil) Es.nil)),
  (S.asgN 4 (E.lst Es.nil)),
  (S.for (T.nm 5) (I.seq (E.slot 2)) l1_offsets_of),
  (S.frz 4 (S.ret (E.bi .tuple (E.slot 4) Es.nil)))]
def p_offsets_of : PF := ⟨"offsets_of", ["plant", "units", "modes", "commands", "found", "mode", "now", "c"], ⟨2, 8, b_offsets_of⟩, top 27⟩
/-- gone_on(estimate, offset) -/
def c1_gone_on : E := E.lc (E.tup (Es.cons (E.bin .Add (E.slot 2) (E.slot 4)) (Es.cons (E.bin .Add (E.slot 3) (E.slot 5)) Es.nil))) (T.tp [(T.tp [(T.nm 2), (T.nm 3)]), (T.tp [(T.nm 4), (T.nm 5)])]) (I.zip (E.slot 0) (E.slot 1)) Eo.none [2, 3, 4, 5]
def b_gone_on : List S := [
  (S.ret (E.bi .tuple c1_gone_on Es.nil))]
def p_gone_on : PF := ⟨"gone_on", ["estimate", "offset", "lo", "hi", "a", "b"], ⟨2, 6, b_gone_on⟩, top 28⟩
/-- met_boxes(one, other) -/
def c1_met_boxes : E := E.lc (E.tup (Es.cons (E.bi .max (E.slot 3) (Es.cons (E.slot 5) Es.nil)) (Es.cons (E.bi .min (E.slot 4) (Es.cons (E.slot 6) Es.nil)) Es.nil))) (T.tp [(T.tp [(T.nm 3), (T.nm 4)]), (T.tp [(T.nm 5), (T.nm 6)])]) (I.zip (E.slot 0) (E.slot 1)) Eo.none [3, 4, 5, 6]
def c2_met_boxes : E := E.lc (E.int 1) (T.tp [(T.nm 7), (T.nm 8)]) (I.seq (E.slot 2)) (Eo.some (E.cmp .Gt (E.slot 7) (E.slot 8))) [7, 8]
def b_met_boxes : List S := [
  (S.asg (T.nm 2) (E.bi .tuple c1_met_boxes Es.nil)),
  (S.ret (E.ite (E.cmp .Gt (E.bi .len c2_met_boxes Es.nil) (E.int 0)) E.non (E.slot 2)))]
def p_met_boxes : PF := ⟨"met_boxes", ["one", "other", "found", "a", "b", "c", "d", "lo", "hi"], ⟨2, 9, b_met_boxes⟩, top 29⟩
/-- offsets_to(offsets, now) -/
def c1_offsets_to : E := E.lc (E.tup (Es.cons (E.slot 3) (Es.cons (E.ix (E.slot 5) (E.slot 1)) Es.nil))) (T.nm 5) (I.seq (E.slot 4)) (Eo.some (E.notN (E.ix (E.slot 5) (E.slot 1)))) [5]
def l1_offsets_to : List S := [(S.ext 2 c1_offsets_to)]
def b_offsets_to : List S := [
  (S.asgN 2 (E.lst Es.nil)),
  (S.for (T.tp [(T.nm 3), (T.nm 4)]) (I.enum (E.slot 0)) l1_offsets_to),
  (S.frz 2 (S.ret (E.slot 2)))]
def p_offsets_to : PF := ⟨"offsets_to", ["offsets", "now", "found", "mode", "row", "told"], ⟨2, 6, b_offsets_to⟩, top 30⟩
/-- wider_widths(offsets, widths) -/
def c1_wider_widths : E := E.lc (E.bin .Add (E.slot 8) (E.slot 9)) (T.tp [(T.nm 8), (T.nm 9)]) (I.zip (E.ix (E.slot 1) (E.slot 5)) (E.call 14 (E.slot 6) Es.nil)) Eo.none [8, 9]
def c2_wider_widths : E := E.lc (E.bi .max (E.slot 10) (Es.cons (E.slot 11) Es.nil)) (T.tp [(T.nm 10), (T.nm 11)]) (I.zip (E.slot 4) (E.slot 7)) Eo.none [10, 11]
def l1_wider_widths : List S := [(S.asg (T.nm 7) c1_wider_widths), (S.asg (T.nm 4) (E.ite (E.isN (E.slot 4)) (E.slot 7) c2_wider_widths))]
def l2_wider_widths : List S := [(S.asg (T.nm 4) E.non), (S.for (T.tp [(T.nm 5), (T.nm 6)]) (I.seq (E.call 24 (E.slot 0) (Es.cons (E.slot 3) Es.nil))) l1_wider_widths), (S.app 2 (E.ite (E.isN (E.slot 4)) (E.ix (E.slot 1) (E.slot 3)) (E.slot 4)))]
def b_wider_widths : List S := [
  (S.asgN 2 (E.lst Es.nil)),
  (S.for (T.nm 3) (I.rng1 (E.bi .len (E.slot 0) Es.nil)) l2_wider_widths),
  (S.frz 2 (S.ret (E.slot 2)))]
def p_wider_widths : PF := ⟨"wider_widths", ["offsets", "widths", "found", "now", "most", "mode", "offset", "told", "width", "more", "one", "other"], ⟨2, 12, b_wider_widths⟩, top 31⟩
/-- failed_widths(offsets, reads, j) -/
def c1_failed_widths : E := E.lc (E.bin .Add (E.slot 4) (E.slot 5)) (T.tp [(T.nm 4), (T.nm 5)]) (I.seq (E.slot 1)) Eo.none [4, 5]
def c2_failed_widths : E := E.lc c1_failed_widths (T.nm 6) (I.seq (E.slot 0)) Eo.none [6]
def l1_failed_widths : List S := [(S.asg (T.nm 3) (E.call 25 (E.slot 0) (Es.cons (E.slot 3) Es.nil)))]
def b_failed_widths : List S := [
  (S.asg (T.nm 3) c2_failed_widths),
  (S.for (T.nm 6) (I.rng1 (E.slot 2)) l1_failed_widths),
  (S.ret (E.slot 3))]
def p_failed_widths : PF := ⟨"failed_widths", ["offsets", "reads", "j", "widths", "a", "b", "_"], ⟨3, 7, b_failed_widths⟩, top 32⟩
/-- late_widths(offsets, reads, late) -/
def c1_late_widths : E := E.lc (E.ix (E.slot 4) (E.slot 5)) (T.nm 4) (I.seq (E.slot 3)) Eo.none [4]
def c2_late_widths : E := E.lc (E.bi .max c1_late_widths Es.nil) (T.nm 5) (I.rng1 (E.bi .len (E.slot 1) Es.nil)) Eo.none [5]
def b_late_widths : List S := [
  (S.asg (T.nm 3) (E.call 26 (E.slot 0) (Es.cons (E.slot 1) (Es.cons (E.slot 2) Es.nil)))),
  (S.ret c2_late_widths)]
def p_late_widths : PF := ⟨"late_widths", ["offsets", "reads", "late", "widths", "told", "k"], ⟨3, 6, b_late_widths⟩, top 33⟩
/-- late_worths(units, widths) -/
def c1_late_worths : E := E.lc (E.call 3 (E.slot 2) (Es.cons (E.tup (Es.cons (E.slot 3) (Es.cons (E.int 1) Es.nil))) Es.nil)) (T.tp [(T.nm 2), (T.nm 3)]) (I.zip (E.slot 0) (E.slot 1)) Eo.none [2, 3]
def b_late_worths : List S := [
  (S.ret (E.bi .tuple c1_late_worths Es.nil))]
def p_late_worths : PF := ⟨"late_worths", ["units", "widths", "d", "width"], ⟨2, 4, b_late_worths⟩, top 34⟩
/-- _law_deal(script) -/
def l1__law_deal : List S := [(S.iff (E.cmp .Gt (E.slot 3) (E.int 0)) [(S.app 1 (E.bin .Mod (E.slot 3) (E.int 1009))), (S.asg (T.nm 3) (E.bin .FloorDiv (E.slot 3) (E.int 1009)))] [])]
def l2__law_deal : List S := [(S.asg (T.nm 3) (E.bin .Mod (E.bin .Add (E.bin .Add (E.bin .Mult (E.slot 3) (E.int 16807)) (E.int 12345)) (E.slot 4)) (E.int 2147483647))), (S.app 1 (E.bin .Mod (E.bin .FloorDiv (E.slot 3) (E.int 7)) (E.int 1009)))]
def l3__law_deal : List S := [(S.asg (T.nm 3) (E.bi .abs (E.bi .int (E.ix (E.slot 0) (E.slot 2)) Es.nil) Es.nil)), (S.iff (E.cmp .GtE (E.slot 3) (E.bin .Pow (E.int 10) (E.int 18))) [(S.for (T.nm 4) (I.rng1 (E.int 40)) l1__law_deal)] [(S.asg (T.nm 3) (E.bin .Add (E.bin .Add (E.bin .Mult (E.bin .Mod (E.slot 3) (E.int 2147483629)) (E.int 48271)) (E.bin .Mult (E.slot 2) (E.int 69621))) (E.int 11))), (S.for (T.nm 4) (I.rng1 (E.int 5)) l2__law_deal)])]
def b__law_deal : List S := [
  (S.asgN 1 (E.lst Es.nil)),
  (S.for (T.nm 2) (I.rng1 (E.bi .min (E.bi .len (E.slot 0) Es.nil) (Es.cons (E.int 63) Es.nil))) l3__law_deal),
  (S.frz 1 (S.asg (T.nm 5) (E.bin .Add (E.bi .sum (E.slot 1) Es.nil) (E.bi .len (E.slot 0) Es.nil)))),
  (S.ret (E.lst (Es.cons (E.slot 1) (Es.cons (E.mlst (Es.cons (E.int 0) Es.nil)) (Es.cons (E.slot 5) Es.nil)))))]
def p__law_deal : PF := ⟨"_law_deal", ["script", "row", "k", "cell", "turn", "total"], ⟨1, 6, b__law_deal⟩, top 36⟩
/-- _law_take(deal, many) -/
def b__law_take : List S := [
  (S.asg (T.nm 2) (E.ix (E.ix (E.slot 0) (E.int 1)) (E.int 0))),
  (S.setm (E.ix (E.slot 0) (E.int 1)) (E.int 0) (E.bin .Add (E.slot 2) (E.int 1))),
  (S.iff (E.cmp .Lt (E.slot 2) (E.bi .len (E.ix (E.slot 0) (E.int 0)) Es.nil)) [(S.ret (E.bin .Mod (E.ix (E.ix (E.slot 0) (E.int 0)) (E.slot 2)) (E.slot 1)))] []),
  (S.ret (E.bin .Mod (E.bin .FloorDiv (E.bin .Add (E.bin .Add (E.bin .Mult (E.slot 2) (E.int 7919)) (E.bin .Mult (E.ix (E.slot 0) (E.int 2)) (E.int 31))) (E.bin .Mult (E.bin .Mult (E.slot 2) (E.slot 2)) (E.int 17))) (E.int 3)) (E.slot 1)))]
def p__law_take : PF := ⟨"_law_take", ["deal", "many", "at"], ⟨2, 3, b__law_take⟩, top 37⟩
/-- _law_same(a, b) -/
def l1__law_same : List S := [(S.iff (E.not (E.call 31 (E.ix (E.slot 0) (E.slot 2)) (Es.cons (E.ix (E.slot 1) (E.slot 2)) Es.nil))) [(S.ret (E.bl false))] [])]
def b__law_same : List S := [
  (S.iff (E.or (E.isi (E.slot 1) .tup) (Es.cons (E.isi (E.slot 1) .lst) Es.nil)) [(S.iff (E.or (E.and (E.isi (E.slot 1) .tup) (Es.cons (E.not (E.isi (E.slot 0) .tup)) Es.nil)) (Es.cons (E.and (E.isi (E.slot 1) .lst) (Es.cons (E.not (E.isi (E.slot 0) .lst)) Es.nil)) Es.nil)) [(S.ret (E.bl false))] []), (S.iff (E.cmp .NotEq (E.bi .len (E.slot 0) Es.nil) (E.bi .len (E.slot 1) Es.nil)) [(S.ret (E.bl false))] []), (S.for (T.nm 2) (I.rng1 (E.bi .len (E.slot 1) Es.nil)) l1__law_same), (S.ret (E.bl true))] []),
  (S.iff (E.or (E.isi (E.slot 0) .bool) (Es.cons (E.isi (E.slot 1) .bool) Es.nil)) [(S.ret (E.and (E.isi (E.slot 0) .bool) (Es.cons (E.isi (E.slot 1) .bool) (Es.cons (E.cmp .Eq (E.slot 0) (E.slot 1)) Es.nil))))] []),
  (S.iff (E.isi (E.slot 1) .int) [(S.ret (E.and (E.isi (E.slot 0) .int) (Es.cons (E.cmp .Eq (E.slot 0) (E.slot 1)) Es.nil)))] []),
  (S.iff (E.isi (E.slot 1) .str) [(S.ret (E.and (E.isi (E.slot 0) .str) (Es.cons (E.cmp .Eq (E.slot 0) (E.slot 1)) Es.nil)))] []),
  (S.ret (E.and (E.isN (E.slot 0)) (Es.cons (E.isN (E.slot 1)) Es.nil)))]
def p__law_same : PF := ⟨"_law_same", ["a", "b", "k"], ⟨2, 3, b__law_same⟩, top 38⟩
/-- _law_ratio(p, q) -/
def l1__law_ratio : List S := [(S.iff (E.cmp .Eq (E.slot 2) (E.int 0)) [S.brk] []), (S.par 2 3 (E.bin .Mod (E.slot 3) (E.slot 2)) (E.slot 2))]
def b__law_ratio : List S := [
  (S.iff (E.cmp .Lt (E.slot 1) (E.int 0)) [(S.asg (T.nm 0) (E.neg (E.slot 0))), (S.asg (T.nm 1) (E.neg (E.slot 1)))] []),
  (S.asg (T.nm 2) (E.bi .abs (E.slot 0) Es.nil)),
  (S.asg (T.nm 3) (E.slot 1)),
  (S.for (T.nm 4) (I.rng1 (E.int 100000)) l1__law_ratio),
  (S.ret (E.tup (Es.cons (E.bin .FloorDiv (E.slot 0) (E.slot 3)) (Es.cons (E.bin .FloorDiv (E.slot 1) (E.slot 3)) Es.nil))))]
def p__law_ratio : PF := ⟨"_law_ratio", ["p", "q", "a", "b", "turn"], ⟨2, 5, b__law_ratio⟩, top 39⟩
/-- _law_plus(s, t) -/
def b__law_plus : List S := [
  (S.ret (E.call 32 (E.bin .Add (E.bin .Mult (E.ix (E.slot 0) (E.int 0)) (E.ix (E.slot 1) (E.int 1))) (E.bin .Mult (E.ix (E.slot 1) (E.int 0)) (E.ix (E.slot 0) (E.int 1)))) (Es.cons (E.bin .Mult (E.ix (E.slot 0) (E.int 1)) (E.ix (E.slot 1) (E.int 1))) Es.nil)))]
def p__law_plus : PF := ⟨"_law_plus", ["s", "t"], ⟨2, 2, b__law_plus⟩, top 40⟩
/-- _law_mult(s, t) -/
def b__law_mult : List S := [
  (S.ret (E.call 32 (E.bin .Mult (E.ix (E.slot 0) (E.int 0)) (E.ix (E.slot 1) (E.int 0))) (Es.cons (E.bin .Mult (E.ix (E.slot 0) (E.int 1)) (E.ix (E.slot 1) (E.int 1))) Es.nil)))]
def p__law_mult : PF := ⟨"_law_mult", ["s", "t"], ⟨2, 2, b__law_mult⟩, top 41⟩
/-- _law_minus(s, t) -/
def b__law_minus : List S := [
  (S.ret (E.call 33 (E.slot 0) (Es.cons (E.tup (Es.cons (E.neg (E.ix (E.slot 1) (E.int 0))) (Es.cons (E.ix (E.slot 1) (E.int 1)) Es.nil))) Es.nil)))]
def p__law_minus : PF := ⟨"_law_minus", ["s", "t"], ⟨2, 2, b__law_minus⟩, top 42⟩
/-- _law_height(bound, point) -/
def l1__law_height : List S := [(S.asg (T.nm 2) (E.call 33 (E.slot 2) (Es.cons (E.call 34 (E.ix (E.ix (E.slot 0) (E.int 0)) (E.slot 3)) (Es.cons (E.ix (E.slot 1) (E.slot 3)) Es.nil)) Es.nil)))]
def b__law_height : List S := [
  (S.asg (T.nm 2) (E.ix (E.slot 0) (E.int 1))),
  (S.for (T.nm 3) (I.rng1 (E.bi .len (E.slot 1) Es.nil)) l1__law_height),
  (S.ret (E.slot 2))]
def p__law_height : PF := ⟨"_law_height", ["bound", "point", "total", "k"], ⟨2, 4, b__law_height⟩, top 43⟩
/-- _law_keeps(bound, point) -/
def b__law_keeps : List S := [
  (S.asg (T.nm 2) (E.call 36 (E.slot 0) (Es.cons (E.slot 1) Es.nil))),
  (S.ret (E.or (E.cmp .Gt (E.ix (E.slot 2) (E.int 0)) (E.int 0)) (Es.cons (E.and (E.cmp .Eq (E.ix (E.slot 2) (E.int 0)) (E.int 0)) (Es.cons (E.not (E.ix (E.slot 0) (E.int 2))) Es.nil)) Es.nil)))]
def p__law_keeps : PF := ⟨"_law_keeps", ["bound", "point", "high"], ⟨2, 3, b__law_keeps⟩, top 44⟩
/-- _law_pick(deal, things) -/
def b__law_pick : List S := [
  (S.ret (E.ix (E.slot 1) (E.call 30 (E.slot 0) (Es.cons (E.bi .len (E.slot 1) Es.nil) Es.nil))))]
def p__law_pick : PF := ⟨"_law_pick", ["deal", "things"], ⟨2, 2, b__law_pick⟩, top 45⟩
/-- _law_line(k, n, low, high) -/
def c1__law_line : E := E.lc (E.ite (E.cmp .Eq (E.slot 5) (E.slot 0)) (E.tup (Es.cons (E.int 1) (Es.cons (E.int 1) Es.nil))) (E.tup (Es.cons (E.int 0) (Es.cons (E.int 1) Es.nil)))) (T.nm 5) (I.rng1 (E.slot 1)) Eo.none [5]
def c2__law_line : E := E.lc (E.ite (E.cmp .Eq (E.slot 5) (E.slot 0)) (E.tup (Es.cons (E.neg (E.int 1)) (Es.cons (E.int 1) Es.nil))) (E.tup (Es.cons (E.int 0) (Es.cons (E.int 1) Es.nil)))) (T.nm 5) (I.rng1 (E.slot 1)) Eo.none [5]
def b__law_line : List S := [
  (S.asg (T.nm 4) (E.bi .tuple c1__law_line Es.nil)),
  (S.asg (T.nm 6) (E.bi .tuple c2__law_line Es.nil)),
  (S.ret (E.tup (Es.cons (E.tup (Es.cons (E.slot 4) (Es.cons (E.tup (Es.cons (E.neg (E.ix (E.slot 2) (E.int 0))) (Es.cons (E.ix (E.slot 2) (E.int 1)) Es.nil))) (Es.cons (E.bl false) Es.nil)))) (Es.cons (E.tup (Es.cons (E.slot 6) (Es.cons (E.slot 3) (Es.cons (E.bl false) Es.nil)))) Es.nil))))]
def p__law_line : PF := ⟨"_law_line", ["k", "n", "low", "high", "one", "m", "other"], ⟨4, 7, b__law_line⟩, top 46⟩
/-- _law_row_has(row, point) -/
def c1__law_row_has : E := E.lc (E.int 1) (T.nm 2) (I.seq (E.ix (E.slot 0) (E.int 0))) (Eo.some (E.not (E.call 37 (E.slot 2) (Es.cons (E.slot 1) Es.nil)))) [2]
def b__law_row_has : List S := [
  (S.ret (E.cmp .Eq (E.bi .len c1__law_row_has Es.nil) (E.int 0)))]
def p__law_row_has : PF := ⟨"_law_row_has", ["row", "point", "bound"], ⟨2, 3, b__law_row_has⟩, top 47⟩
/-- _law_floor(t, d) -/
def b__law_floor : List S := [
  (S.asg (T.nm 2) (E.call 32 (E.bin .Mult (E.ix (E.slot 0) (E.int 0)) (E.ix (E.slot 1) (E.int 1))) (Es.cons (E.bin .Mult (E.ix (E.slot 0) (E.int 1)) (E.ix (E.slot 1) (E.int 0))) Es.nil))),
  (S.ret (E.bin .FloorDiv (E.ix (E.slot 2) (E.int 0)) (E.ix (E.slot 2) (E.int 1))))]
def p__law_floor : PF := ⟨"_law_floor", ["t", "d", "q"], ⟨2, 3, b__law_floor⟩, top 48⟩
/-- _law_ceil(t, d) -/
def b__law_ceil : List S := [
  (S.ret (E.neg (E.call 41 (E.tup (Es.cons (E.neg (E.ix (E.slot 0) (E.int 0))) (Es.cons (E.ix (E.slot 0) (E.int 1)) Es.nil))) (Es.cons (E.slot 1) Es.nil))))]
def p__law_ceil : PF := ⟨"_law_ceil", ["t", "d"], ⟨2, 2, b__law_ceil⟩, top 49⟩
/-- _law_not_above(s, t) -/
def b__law_not_above : List S := [
  (S.ret (E.cmp .LtE (E.bin .Mult (E.ix (E.slot 0) (E.int 0)) (E.ix (E.slot 1) (E.int 1))) (E.bin .Mult (E.ix (E.slot 1) (E.int 0)) (E.ix (E.slot 0) (E.int 1)))))]
def p__law_not_above : PF := ⟨"_law_not_above", ["s", "t"], ⟨2, 2, b__law_not_above⟩, top 50⟩
/-- _law_plant_of(deal) -/
def l1__law_plant_of : List S := [(S.asg (T.nm 5) (E.bin .Add (E.int 2) (E.call 30 (E.slot 0) (Es.cons (E.int 3) Es.nil)))), (S.asg (T.nm 6) (E.call 30 (E.slot 0) (Es.cons (E.int 2) Es.nil))), (S.asg (T.nm 7) (E.tup (Es.cons (E.tup (Es.cons (E.tup (Es.cons (E.slot 5) (Es.cons (E.int 1) Es.nil))) (Es.cons (E.tup (Es.cons (E.bin .Add (E.slot 5) (E.slot 6)) (Es.cons (E.int 1) Es.nil))) Es.nil))) Es.nil))), (S.asg (T.nm 8) (E.tup (Es.cons (E.tup (Es.cons (E.tup (Es.cons (E.bin .Sub (E.neg (E.slot 5)) (E.slot 6)) (Es.cons (E.int 1) Es.nil))) (Es.cons (E.tup (Es.cons (E.neg (E.slot 5)) (Es.cons (E.int 1) Es.nil))) Es.nil))) Es.nil))), (S.app 3 (E.slc (E.tup (Es.cons (E.slot 7) (Es.cons (E.slot 8) (Es.cons (E.tup (Es.cons (E.tup (Es.cons (E.tup (Es.cons (E.bin .Mult (E.neg (E.int 1)) (E.slot 6)) (Es.cons (E.int 2) Es.nil))) (Es.cons (E.tup (Es.cons (E.slot 6) (Es.cons (E.int 2) Es.nil))) Es.nil))) Es.nil)) Es.nil)))) Eo.none (Eo.some (E.bi .len (E.slot 2) Es.nil))))]
def c1__law_plant_of : E := E.lc (E.tup (Es.cons (E.call 32 (E.ix (E.slot 9) (E.int 0)) (Es.cons (E.ix (E.slot 9) (E.int 1)) Es.nil)) (Es.cons (E.call 32 (E.ix (E.slot 10) (E.int 0)) (Es.cons (E.ix (E.slot 10) (E.int 1)) Es.nil)) Es.nil))) (T.tp [(T.nm 9), (T.nm 10)]) (I.seq (E.slot 11)) Eo.none [9, 10]
def c2__law_plant_of : E := E.lc (E.bi .tuple c1__law_plant_of Es.nil) (T.nm 11) (I.seq (E.slot 12)) Eo.none [11]
def c3__law_plant_of : E := E.lc (E.bi .tuple c2__law_plant_of Es.nil) (T.nm 12) (I.seq (E.slot 3)) Eo.none [12]
def c4__law_plant_of : E := E.lc (E.tup (Es.cons (E.slot 9) (Es.cons (E.call 32 (E.ix (E.slot 10) (E.int 0)) (Es.cons (E.ix (E.slot 10) (E.int 1)) Es.nil)) Es.nil))) (T.tp [(T.nm 9), (T.nm 10)]) (I.seq (E.slot 16)) Eo.none [9, 10]
def l2__law_plant_of : List S := [(S.asg (T.nm 15) (E.call 32 (E.bin .Sub (E.call 30 (E.slot 0) (Es.cons (E.int 3) Es.nil)) (E.int 1)) (Es.cons (E.int 2) Es.nil))), (S.asg (T.nm 16) (E.tup (Es.cons (E.tup (Es.cons (E.slot 15) (Es.cons (E.call 33 (E.slot 15) (Es.cons (E.tup (Es.cons (E.call 30 (E.slot 0) (Es.cons (E.int 2) Es.nil)) (Es.cons (E.int 2) Es.nil))) Es.nil)) Es.nil))) Es.nil))), (S.app 13 (E.tup (Es.cons (E.slot 14) (Es.cons (E.str "go") (Es.cons (E.bin .Sub (E.int 1) (E.slot 14)) (Es.cons (E.call 45 (E.slot 0) Es.nil) (Es.cons (E.ix (E.lst (Es.cons (E.str "may") (Es.cons (E.str "must") Es.nil))) (E.bi .int (E.cmp .Eq (E.call 30 (E.slot 0) (Es.cons (E.int 4) Es.nil)) (E.int 0)) Es.nil)) (Es.cons (E.bi .tuple c4__law_plant_of Es.nil) Es.nil))))))))]
def b__law_plant_of : List S := [
  (S.asg (T.nm 1) (E.slc (E.tup (Es.cons (E.str "m0") (Es.cons (E.str "m1") Es.nil))) Eo.none (Eo.some (E.bin .Add (E.int 1) (E.bi .int (E.cmp .Eq (E.call 30 (E.slot 0) (Es.cons (E.int 4) Es.nil)) (E.int 1)) Es.nil))))),
  (S.asg (T.nm 2) (E.slc (E.tup (Es.cons (E.str "up") (Es.cons (E.str "down") (Es.cons (E.str "wait") Es.nil)))) Eo.none (Eo.some (E.bin .Add (E.int 2) (E.call 30 (E.slot 0) (Es.cons (E.int 2) Es.nil)))))),
  (S.asgN 3 (E.lst Es.nil)),
  (S.for (T.nm 4) (I.seq (E.slot 1)) l1__law_plant_of),
  (S.frz 3 (S.asg (T.nm 3) (E.bi .tuple c3__law_plant_of Es.nil))),
  (S.asgN 13 (E.lst Es.nil)),
  (S.for (T.nm 14) (I.rng1 (E.bin .Mult (E.call 30 (E.slot 0) (Es.cons (E.int 3) Es.nil)) (E.bi .int (E.cmp .Gt (E.bi .len (E.slot 1) Es.nil) (E.int 1)) Es.nil))) l2__law_plant_of),
  (S.asg (T.nm 17) (E.tup (Es.cons (E.tup (Es.cons (E.call 32 (E.call 30 (E.slot 0) (Es.cons (E.int 2) Es.nil)) (Es.cons (E.int 2) Es.nil)) Es.nil)) (Es.cons (E.call 30 (E.slot 0) (Es.cons (E.int 2) Es.nil)) Es.nil)))),
  (S.asg (T.nm 18) (E.call 39 (E.int 0) (Es.cons (E.int 1) (Es.cons (E.tup (Es.cons (E.neg (E.call 30 (E.slot 0) (Es.cons (E.int 2) Es.nil))) (Es.cons (E.int 1) Es.nil))) (Es.cons (E.tup (Es.cons (E.call 30 (E.slot 0) (Es.cons (E.int 2) Es.nil)) (Es.cons (E.int 1) Es.nil))) Es.nil))))),
  (S.asg (T.nm 19) (E.call 38 (E.slot 0) (Es.cons (E.lst (Es.cons (E.tup (Es.cons (E.int 1) (Es.cons (E.int 1) Es.nil))) (Es.cons (E.tup (Es.cons (E.int 1) (Es.cons (E.int 1) Es.nil))) (Es.cons (E.tup (Es.cons (E.int 1) (Es.cons (E.int 2) Es.nil))) (Es.cons (E.tup (Es.cons (E.int 2) (Es.cons (E.int 1) Es.nil))) Es.nil))))) Es.nil))),
  (S.frz 13 (S.ret (E.tup (Es.cons (E.str "p") (Es.cons (E.tup (Es.cons (E.str "x") Es.nil)) (Es.cons (E.slot 1) (Es.cons (E.slot 2) (Es.cons (E.slot 19) (Es.cons (E.slot 3) (Es.cons (E.bi .tuple (E.slot 13) Es.nil) (Es.cons (E.slot 17) (Es.cons (E.tup (Es.cons (E.int 0) (Es.cons (E.slot 18) Es.nil))) Es.nil))))))))))))]
def p__law_plant_of : PF := ⟨"_law_plant_of", ["deal", "modes", "commands", "rates", "mode", "strong", "loose", "up_v", "down_v", "low", "high", "box", "row", "switches", "turn", "kick", "kicks", "sensors", "start", "beat"], ⟨1, 20, b__law_plant_of⟩, top 51⟩
/-- _law_edge(deal) -/
def b__law_edge : List S := [
  (S.iff (E.cmp .Eq (E.call 30 (E.slot 0) (Es.cons (E.int 2) Es.nil)) (E.int 0)) [(S.ret (E.tup Es.nil))] []),
  (S.asg (T.nm 1) (E.ix (E.lst (Es.cons (E.int 1) (Es.cons (E.neg (E.int 1)) Es.nil))) (E.call 30 (E.slot 0) (Es.cons (E.int 2) Es.nil)))),
  (S.ret (E.tup (Es.cons (E.tup (Es.cons (E.tup (Es.cons (E.tup (Es.cons (E.slot 1) (Es.cons (E.int 1) Es.nil))) Es.nil)) (Es.cons (E.tup (Es.cons (E.neg (E.call 30 (E.slot 0) (Es.cons (E.int 3) Es.nil))) (Es.cons (E.int 1) Es.nil))) (Es.cons (E.bl false) Es.nil)))) Es.nil)))]
def p__law_edge : PF := ⟨"_law_edge", ["deal", "side"], ⟨1, 2, b__law_edge⟩, top 52⟩
/-- _law_ways(plant, mode, command, now) -/
def c1__law_ways : E := E.lc (E.call 34 (E.ix (E.slot 0) (E.int 4)) (Es.cons (E.slot 6) Es.nil)) (T.nm 6) (I.seq (E.ix (E.ix (E.ix (E.ix (E.slot 0) (E.int 5)) (E.slot 1)) (E.slot 2)) (E.int 0))) Eo.none [6]
def l1__law_ways : List S := [(S.iff (E.and (E.cmp .Eq (E.ix (E.slot 8) (E.int 0)) (E.slot 1)) (Es.cons (E.cmp .Eq (E.ix (E.slot 8) (E.int 2)) (E.slot 3)) Es.nil)) [(S.app 7 (E.tup (Es.cons (E.call 33 (E.slot 4) (Es.cons (E.ix (E.ix (E.ix (E.slot 8) (E.int 5)) (E.int 0)) (E.int 0)) Es.nil)) (Es.cons (E.call 33 (E.slot 5) (Es.cons (E.ix (E.ix (E.ix (E.slot 8) (E.int 5)) (E.int 0)) (E.int 1)) Es.nil)) Es.nil))))] [])]
def b__law_ways : List S := [
  (S.asg (T.tp [(T.nm 4), (T.nm 5)]) c1__law_ways),
  (S.asgN 7 (E.ite (E.cmp .Eq (E.slot 3) (E.slot 1)) (E.lst (Es.cons (E.tup (Es.cons (E.slot 4) (Es.cons (E.slot 5) Es.nil))) Es.nil)) (E.lst Es.nil))),
  (S.for (T.nm 8) (I.seq (E.ix (E.slot 0) (E.int 6))) l1__law_ways),
  (S.frz 7 (S.ret (E.slot 7)))]
def p__law_ways : PF := ⟨"_law_ways", ["plant", "mode", "command", "now", "low", "high", "t", "found", "switch"], ⟨4, 9, b__law_ways⟩, top 53⟩
/-- _law_offset(plant, d, mode, command, now) -/
def c1__law_offset : E := E.lc (E.call 42 (E.ix (E.slot 6) (E.int 1)) (Es.cons (E.slot 1) Es.nil)) (T.nm 6) (I.seq (E.slot 5)) Eo.none [6]
def c2__law_offset : E := E.lc (E.call 41 (E.ix (E.slot 6) (E.int 0)) (Es.cons (E.slot 1) Es.nil)) (T.nm 6) (I.seq (E.slot 5)) Eo.none [6]
def b__law_offset : List S := [
  (S.asg (T.nm 5) (E.call 46 (E.slot 0) (Es.cons (E.slot 2) (Es.cons (E.slot 3) (Es.cons (E.slot 4) Es.nil))))),
  (S.iff (E.cmp .Eq (E.slot 5) (E.lst Es.nil)) [(S.ret E.non)] []),
  (S.ret (E.tup (Es.cons (E.tup (Es.cons (E.bi .min c2__law_offset Es.nil) (Es.cons (E.bi .max c1__law_offset Es.nil) Es.nil))) Es.nil)))]
def p__law_offset : PF := ⟨"_law_offset", ["plant", "d", "mode", "command", "now", "ways", "way"], ⟨5, 7, b__law_offset⟩, top 54⟩
/-- _law_offsets(plant, d) -/
def c1__law_offsets : E := E.lc (E.call 47 (E.slot 0) (Es.cons (E.slot 1) (Es.cons (E.slot 5) (Es.cons (E.slot 4) (Es.cons (E.slot 3) Es.nil))))) (T.nm 3) (I.seq (E.slot 2)) Eo.none [3]
def c2__law_offsets : E := E.lc (E.bi .tuple c1__law_offsets Es.nil) (T.nm 4) (I.rng1 (E.bi .len (E.ix (E.slot 0) (E.int 3)) Es.nil)) Eo.none [4]
def c3__law_offsets : E := E.lc (E.bi .tuple c2__law_offsets Es.nil) (T.nm 5) (I.seq (E.slot 2)) Eo.none [5]
def b__law_offsets : List S := [
  (S.asg (T.nm 2) (E.rngL (E.bi .len (E.ix (E.slot 0) (E.int 2)) Es.nil))),
  (S.ret (E.bi .tuple c3__law_offsets Es.nil))]
def p__law_offsets : PF := ⟨"_law_offsets", ["plant", "d", "modes", "now", "c", "mode"], ⟨2, 6, b__law_offsets⟩, top 55⟩
/-- _law_reads(plant, d) -/
def b__law_reads : List S := [
  (S.asg (T.nm 2) (E.call 42 (E.ix (E.ix (E.ix (E.slot 0) (E.int 7)) (E.int 0)) (E.int 0)) (Es.cons (E.slot 1) Es.nil))),
  (S.ret (E.tup (Es.cons (E.tup (Es.cons (E.slot 2) (Es.cons (E.bin .Add (E.slot 2) (E.int 1)) Es.nil))) Es.nil)))]
def p__law_reads : PF := ⟨"_law_reads", ["plant", "d", "wide"], ⟨2, 3, b__law_reads⟩, top 56⟩
/-- _law_failed(offsets, wide, j) -/
def c1__law_failed : E := E.lc (E.slot 1) (T.nm 4) (I.seq (E.slot 0)) Eo.none [4]
def c2__law_failed : E := E.lc (E.int 0) (T.nm 4) (I.seq (E.slot 0)) Eo.none [4]
def l1__law_failed : List S := [(S.iff (E.notN (E.ix (E.slot 7) (E.slot 8))) [(S.setO 6 (E.slot 8) (E.bor 6 (E.bi .max (E.ix (E.slot 6) (E.slot 8)) (Es.cons (E.bin .Sub (E.bin .Add (E.ix (E.slot 3) (E.slot 4)) (E.ix (E.ix (E.ix (E.slot 7) (E.slot 8)) (E.int 0)) (E.int 1))) (E.ix (E.ix (E.ix (E.slot 7) (E.slot 8)) (E.int 0)) (E.int 0))) Es.nil))))] [])]
def l2__law_failed : List S := [(S.for (T.nm 8) (I.rng1 (E.bi .len (E.slot 0) Es.nil)) l1__law_failed)]
def l3__law_failed : List S := [(S.for (T.nm 7) (I.seq (E.ix (E.slot 0) (E.slot 4))) l2__law_failed)]
def l4__law_failed : List S := [(S.asgN 6 c2__law_failed), (S.for (T.nm 4) (I.rng1 (E.bi .len (E.slot 0) Es.nil)) l3__law_failed), (S.frz 6 (S.asg (T.nm 3) (E.slot 6)))]
def b__law_failed : List S := [
  (S.asg (T.nm 3) c1__law_failed),
  (S.for (T.nm 5) (I.rng1 (E.slot 2)) l4__law_failed),
  (S.ret (E.slot 3))]
def p__law_failed : PF := ⟨"_law_failed", ["offsets", "wide", "j", "widths", "mode", "turn", "later", "row", "now"], ⟨3, 9, b__law_failed⟩, top 57⟩
/-- _law_between(deal, low, high) -/
def b__law_between : List S := [
  (S.asg (T.nm 3) (E.call 30 (E.slot 0) (Es.cons (E.int 5) Es.nil))),
  (S.asg (T.nm 4) (E.call 35 (E.slot 2) (Es.cons (E.slot 1) Es.nil))),
  (S.ret (E.call 33 (E.slot 1) (Es.cons (E.call 32 (E.bin .Mult (E.ix (E.slot 4) (E.int 0)) (E.slot 3)) (Es.cons (E.bin .Mult (E.ix (E.slot 4) (E.int 1)) (E.int 4)) Es.nil)) Es.nil)))]
def p__law_between : PF := ⟨"_law_between", ["deal", "low", "high", "part", "wide"], ⟨3, 5, b__law_between⟩, top 58⟩
/-- _law_inside(point, d, pair) -/
def b__law_inside : List S := [
  (S.ret (E.and (E.call 43 (E.call 34 (E.slot 1) (Es.cons (E.tup (Es.cons (E.ix (E.slot 2) (E.int 0)) (Es.cons (E.int 1) Es.nil))) Es.nil)) (Es.cons (E.slot 0) Es.nil)) (Es.cons (E.call 43 (E.slot 0) (Es.cons (E.call 34 (E.slot 1) (Es.cons (E.tup (Es.cons (E.ix (E.slot 2) (E.int 1)) (Es.cons (E.int 1) Es.nil))) Es.nil)) Es.nil)) Es.nil)))]
def p__law_inside : PF := ⟨"_law_inside", ["point", "d", "pair"], ⟨3, 3, b__law_inside⟩, top 59⟩
/-- _law_ahead(deal, plant, mode, command, x) -/
def c1__law_ahead : E := E.lc (E.slot 9) (T.nm 9) (I.rng1 (E.bi .len (E.ix (E.slot 1) (E.int 6)) Es.nil)) (Eo.some (E.and (E.cmp .Eq (E.ix (E.ix (E.ix (E.slot 1) (E.int 6)) (E.slot 9)) (E.int 0)) (E.slot 2)) (Es.cons (E.call 40 (E.tup (Es.cons (E.ix (E.ix (E.ix (E.slot 1) (E.int 6)) (E.slot 9)) (E.int 3)) (Es.cons (E.int 0) Es.nil))) (Es.cons (E.tup (Es.cons (E.slot 7) Es.nil)) Es.nil)) Es.nil))) [9]
def c2__law_ahead : E := E.lc (E.slot 9) (T.nm 9) (I.seq (E.slot 8)) (Eo.some (E.cmp .Eq (E.ix (E.ix (E.ix (E.slot 1) (E.int 6)) (E.slot 9)) (E.int 4)) (E.str "must"))) [9]
def b__law_ahead : List S := [
  (S.asg (T.tp [(T.nm 5), (T.nm 6)]) (E.ix (E.ix (E.ix (E.ix (E.slot 1) (E.int 5)) (E.slot 2)) (E.slot 3)) (E.int 0))),
  (S.asg (T.nm 7) (E.call 33 (E.slot 4) (Es.cons (E.call 34 (E.ix (E.slot 1) (E.int 4)) (Es.cons (E.call 51 (E.slot 0) (Es.cons (E.slot 5) (Es.cons (E.slot 6) Es.nil))) Es.nil)) Es.nil))),
  (S.asg (T.nm 8) c1__law_ahead),
  (S.asg (T.nm 10) c2__law_ahead),
  (S.iff (E.cmp .NotEq (E.slot 10) (E.lst Es.nil)) [(S.asg (T.nm 8) (E.slot 10))] [(S.asg (T.nm 8) (E.bin .Add (E.slot 8) (E.lst (Es.cons E.non Es.nil))))]),
  (S.asg (T.nm 11) (E.ix (E.slot 8) (E.call 30 (E.slot 0) (Es.cons (E.bi .len (E.slot 8) Es.nil) Es.nil)))),
  (S.iff (E.isN (E.slot 11)) [(S.ret (E.tup (Es.cons (E.slot 2) (Es.cons (E.slot 7) (Es.cons (E.slot 7) Es.nil)))))] []),
  (S.asg (T.nm 12) (E.ix (E.ix (E.ix (E.ix (E.slot 1) (E.int 6)) (E.slot 11)) (E.int 5)) (E.int 0))),
  (S.ret (E.tup (Es.cons (E.ix (E.ix (E.ix (E.slot 1) (E.int 6)) (E.slot 11)) (E.int 2)) (Es.cons (E.slot 7) (Es.cons (E.call 33 (E.slot 7) (Es.cons (E.call 51 (E.slot 0) (Es.cons (E.ix (E.slot 12) (E.int 0)) (Es.cons (E.ix (E.slot 12) (E.int 1)) Es.nil))) Es.nil)) Es.nil)))))]
def p__law_ahead : PF := ⟨"_law_ahead", ["deal", "plant", "mode", "command", "x", "low", "high", "here", "open_ways", "k", "must", "way", "kick"], ⟨5, 13, b__law_ahead⟩, top 60⟩
/-- _law_reading(deal, plant, d, x) -/
def b__law_reading : List S := [
  (S.asg (T.nm 4) (E.ix (E.ix (E.ix (E.slot 1) (E.int 7)) (E.int 0)) (E.int 0))),
  (S.ret (E.call 41 (E.call 33 (E.slot 3) (Es.cons (E.call 51 (E.slot 0) (Es.cons (E.tup (Es.cons (E.neg (E.ix (E.slot 4) (E.int 0))) (Es.cons (E.ix (E.slot 4) (E.int 1)) Es.nil))) (Es.cons (E.slot 4) Es.nil))) Es.nil)) (Es.cons (E.slot 2) Es.nil)))]
def p__law_reading : PF := ⟨"_law_reading", ["deal", "plant", "d", "x", "error"], ⟨4, 5, b__law_reading⟩, top 61⟩
/-- _law_unit(deal) -/
def b__law_unit : List S := [
  (S.ret (E.ix (E.lst (Es.cons (E.tup (Es.cons (E.int 1) (Es.cons (E.int 2) Es.nil))) (Es.cons (E.tup (Es.cons (E.int 1) (Es.cons (E.int 4) Es.nil))) (Es.cons (E.tup (Es.cons (E.int 1) (Es.cons (E.int 1) Es.nil))) (Es.cons (E.tup (Es.cons (E.int 1) (Es.cons (E.int 3) Es.nil))) Es.nil))))) (E.call 30 (E.slot 0) (Es.cons (E.int 4) Es.nil))))]
def p__law_unit : PF := ⟨"_law_unit", ["deal"], ⟨1, 1, b__law_unit⟩, top 62⟩
/-- _law_all_ways(offsets, wide, j) -/
def c1__law_all_ways : E := E.lc (E.lst (Es.cons (E.tup (Es.cons (E.slot 1) (Es.cons (E.slot 4) Es.nil))) Es.nil)) (T.nm 4) (I.rng1 (E.bi .len (E.slot 0) Es.nil)) Eo.none [4]
def c2__law_all_ways : E := E.lc (E.tup (Es.cons (E.slot 1) (Es.cons (E.slot 4) Es.nil))) (T.nm 4) (I.rng1 (E.bi .len (E.slot 0) Es.nil)) Eo.none [4]
def l1__law_all_ways : List S := [(S.iff (E.bor 7 (E.and (E.notN (E.ix (E.slot 9) (E.slot 10))) (Es.cons (E.cmp .NotIn (E.tup (Es.cons (E.bin .Sub (E.bin .Add (E.slot 8) (E.ix (E.ix (E.ix (E.slot 9) (E.slot 10)) (E.int 0)) (E.int 1))) (E.ix (E.ix (E.ix (E.slot 9) (E.slot 10)) (E.int 0)) (E.int 0))) (Es.cons (E.slot 10) Es.nil))) (E.slot 7)) Es.nil))) [(S.app 7 (E.tup (Es.cons (E.bin .Sub (E.bin .Add (E.slot 8) (E.ix (E.ix (E.ix (E.slot 9) (E.slot 10)) (E.int 0)) (E.int 1))) (E.ix (E.ix (E.ix (E.slot 9) (E.slot 10)) (E.int 0)) (E.int 0))) (Es.cons (E.slot 10) Es.nil))))] [])]
def l2__law_all_ways : List S := [(S.for (T.nm 10) (I.rng1 (E.bi .len (E.slot 0) Es.nil)) l1__law_all_ways)]
def l3__law_all_ways : List S := [(S.for (T.nm 9) (I.seq (E.ix (E.slot 0) (E.slot 4))) l2__law_all_ways)]
def l4__law_all_ways : List S := [(S.asgN 7 (E.lst Es.nil)), (S.for (T.tp [(T.nm 8), (T.nm 4)]) (I.seq (E.slot 5)) l3__law_all_ways), (S.frz 7 (S.asg (T.nm 5) (E.slot 7)))]
def c3__law_all_ways : E := E.lc (E.slot 11) (T.nm 11) (I.seq (E.slot 5)) (Eo.some (E.cmp .Eq (E.ix (E.slot 11) (E.int 1)) (E.slot 4))) [11]
def c4__law_all_ways : E := E.lc c3__law_all_ways (T.nm 4) (I.rng1 (E.bi .len (E.slot 0) Es.nil)) Eo.none [4]
def c5__law_all_ways : E := E.lc (E.ix (E.slot 11) (E.int 0)) (T.nm 11) (I.seq (E.slot 9)) Eo.none [11]
def c6__law_all_ways : E := E.lc (E.bi .max c5__law_all_ways Es.nil) (T.nm 9) (I.seq (E.slot 3)) Eo.none [9]
def b__law_all_ways : List S := [
  (S.asg (T.nm 3) c1__law_all_ways),
  (S.asg (T.nm 5) c2__law_all_ways),
  (S.for (T.nm 6) (I.rng1 (E.slot 2)) l4__law_all_ways),
  (S.iff (E.cmp .Gt (E.slot 2) (E.int 0)) [(S.asg (T.nm 3) c4__law_all_ways)] []),
  (S.ret c6__law_all_ways)]
def p__law_all_ways : PF := ⟨"_law_all_ways", ["offsets", "wide", "j", "found", "mode", "level", "turn", "later", "width", "row", "now", "pair"], ⟨3, 12, b__law_all_ways⟩, top 63⟩
/-- law(script) -/
def c1_law : E := E.lc (E.lst (Es.cons (E.slot 10) Es.nil)) (T.nm 10) (I.seq (E.call 56 (E.slot 4) (Es.cons (E.slot 6) (Es.cons (E.slot 8) Es.nil)))) Eo.none [10]
def c2_law : E := E.lc (E.ix (E.slot 11) (E.int 0)) (T.nm 11) (I.seq (E.slot 9)) Eo.none [11]
def c3_law : E := E.lc (E.ix (E.slot 11) (E.int 0)) (T.nm 11) (I.seq (E.slot 9)) Eo.none [11]
def c4_law : E := E.lc (E.int 1) (T.nm 12) (I.rng1 (E.bi .len (E.slot 9) Es.nil)) (Eo.some (E.cmp .Lt (E.ix (E.ix (E.slot 9) (E.slot 12)) (E.int 0)) (E.ix (E.ix (E.slot 7) (E.slot 12)) (E.int 0)))) [12]
def c5_law : E := E.lc (E.ix (E.slot 11) (E.int 0)) (T.nm 11) (I.seq (E.slot 9)) Eo.none [11]
def l1_law : List S := [(S.asg (T.nm 9) (E.call 26 (E.slot 4) (Es.cons (E.slot 5) (Es.cons (E.slot 8) Es.nil)))), (S.iff (E.or (E.not (E.call 31 (E.slot 9) (Es.cons c1_law Es.nil))) (Es.cons (E.not (E.call 31 c2_law (Es.cons (E.call 50 (E.slot 4) (Es.cons (E.slot 6) (Es.cons (E.slot 8) Es.nil))) Es.nil))) Es.nil)) [(S.ret (E.bl false))] []), (S.iff (E.cmp .NotEq (E.call 27 (E.slot 4) (Es.cons (E.slot 5) (Es.cons (E.slot 8) Es.nil))) (E.lst (Es.cons (E.bi .max c3_law Es.nil) Es.nil))) [(S.ret (E.bl false))] []), (S.iff (E.and (E.notN (E.slot 7)) (Es.cons (E.cmp .Gt (E.bi .len c4_law Es.nil) (E.int 0)) Es.nil)) [(S.ret (E.bl false))] []), (S.asg (T.nm 7) (E.slot 9)), (S.asg (T.nm 13) (E.call 13 (E.tup (Es.cons (E.slot 3) Es.nil)) (Es.cons (E.int 1) Es.nil))), (S.asg (T.nm 14) (E.call 27 (E.call 21 (E.slot 2) (Es.cons (E.slot 13) Es.nil)) (Es.cons (E.call 16 (E.slot 2) (Es.cons (E.slot 13) Es.nil)) (Es.cons (E.slot 8) Es.nil)))), (S.asg (T.nm 15) (E.call 28 (E.tup (Es.cons (E.slot 3) Es.nil)) (Es.cons (E.call 27 (E.slot 4) (Es.cons (E.slot 5) (Es.cons (E.slot 8) Es.nil))) Es.nil))), (S.iff (E.or (E.not (E.call 31 (E.slot 15) (Es.cons (E.tup (Es.cons (E.call 34 (E.slot 3) (Es.cons (E.tup (Es.cons (E.bi .max c5_law Es.nil) (Es.cons (E.int 1) Es.nil))) Es.nil)) Es.nil)) Es.nil))) (Es.cons (E.not (E.call 43 (E.ix (E.call 28 (E.slot 13) (Es.cons (E.slot 14) Es.nil)) (E.int 0)) (Es.cons (E.ix (E.slot 15) (E.int 0)) Es.nil))) Es.nil)) [(S.ret (E.bl false))] [])]
def l2_law : List S := [(S.asg (T.nm 21) (E.call 30 (E.slot 1) (Es.cons (E.bi .len (E.ix (E.slot 2) (E.int 3)) Es.nil) Es.nil))), (S.asg (T.tp [(T.nm 22), (T.nm 23)]) (E.ix (E.call 8 (E.slot 2) (Es.cons (E.slot 17) (Es.cons (E.slot 21) Es.nil))) (E.int 0))), (S.asg (T.tp [(T.nm 24), (T.nm 25), (T.nm 26)]) (E.call 53 (E.slot 1) (Es.cons (E.slot 2) (Es.cons (E.slot 17) (Es.cons (E.slot 21) (Es.cons (E.slot 16) Es.nil)))))), (S.iff (E.or (E.not (E.call 43 (E.call 33 (E.slot 16) (Es.cons (E.slot 22) Es.nil)) (Es.cons (E.slot 25) Es.nil))) (Es.cons (E.not (E.call 43 (E.slot 25) (Es.cons (E.call 33 (E.slot 16) (Es.cons (E.slot 23) Es.nil)) Es.nil))) Es.nil)) [(S.ret (E.bl false))] []), (S.asg (T.nm 18) (E.call 22 (E.slot 18) (Es.cons (E.ix (E.ix (E.ix (E.slot 4) (E.slot 17)) (E.slot 21)) (E.slot 24)) Es.nil))), (S.par 17 16 (E.slot 24) (E.slot 26)), (S.asg (T.nm 19) (E.bin .Add (E.slot 19) (E.int 1))), (S.iff (E.or (E.cmp .Gt (E.slot 19) (E.int 3)) (Es.cons (E.cmp .Eq (E.call 30 (E.slot 1) (Es.cons (E.int 2) Es.nil)) (E.int 0)) Es.nil)) [(S.asg (T.nm 18) (E.call 23 (E.slot 18) (Es.cons (E.call 17 (E.slot 5) (Es.cons (E.tup (Es.cons (E.call 54 (E.slot 1) (Es.cons (E.slot 2) (Es.cons (E.slot 3) (Es.cons (E.slot 16) Es.nil)))) Es.nil)) Es.nil)) Es.nil))), (S.asg (T.nm 19) (E.int 0))] []), (S.iff (E.or (E.isN (E.slot 18)) (Es.cons (E.not (E.call 52 (E.slot 16) (Es.cons (E.slot 3) (Es.cons (E.ix (E.slot 18) (E.int 0)) Es.nil)))) (Es.cons (E.cmp .Gt (E.ix (E.call 14 (E.slot 18) Es.nil) (E.int 0)) (E.ix (E.ix (E.call 26 (E.slot 4) (Es.cons (E.slot 5) (Es.cons (E.slot 19) Es.nil))) (E.slot 17)) (E.int 0))) Es.nil))) [(S.ret (E.bl false))] [])]
def b_law : List S := [
  (S.asg (T.nm 1) (E.call 29 (E.slot 0) Es.nil)),
  (S.asg (T.nm 2) (E.call 44 (E.slot 1) Es.nil)),
  (S.asg (T.nm 3) (E.call 55 (E.slot 1) Es.nil)),
  (S.asg (T.nm 4) (E.call 21 (E.slot 2) (Es.cons (E.tup (Es.cons (E.slot 3) Es.nil)) Es.nil))),
  (S.asg (T.nm 5) (E.call 16 (E.slot 2) (Es.cons (E.tup (Es.cons (E.slot 3) Es.nil)) Es.nil))),
  (S.asg (T.nm 6) (E.bin .Add (E.ix (E.ix (E.slot 5) (E.int 0)) (E.int 0)) (E.ix (E.ix (E.slot 5) (E.int 0)) (E.int 1)))),
  (S.iff (E.or (E.not (E.call 31 (E.slot 4) (Es.cons (E.call 48 (E.slot 2) (Es.cons (E.slot 3) Es.nil)) Es.nil))) (Es.cons (E.not (E.call 31 (E.slot 5) (Es.cons (E.call 49 (E.slot 2) (Es.cons (E.slot 3) Es.nil)) Es.nil))) Es.nil)) [(S.ret (E.bl false))] []),
  (S.asg (T.nm 7) E.non),
  (S.for (T.nm 8) (I.rng1 (E.int 4)) l1_law),
  (S.asg (T.nm 16) (E.call 32 (E.bin .Sub (E.call 30 (E.slot 1) (Es.cons (E.int 41) Es.nil)) (E.int 20)) (Es.cons (E.bin .Add (E.int 1) (E.call 30 (E.slot 1) (Es.cons (E.int 5) Es.nil))) Es.nil))),
  (S.asg (T.nm 17) (E.call 30 (E.slot 1) (Es.cons (E.bi .len (E.ix (E.slot 2) (E.int 2)) Es.nil) Es.nil))),
  (S.asg (T.nm 18) (E.call 17 (E.slot 5) (Es.cons (E.tup (Es.cons (E.call 54 (E.slot 1) (Es.cons (E.slot 2) (Es.cons (E.slot 3) (Es.cons (E.slot 16) Es.nil)))) Es.nil)) Es.nil))),
  (S.asg (T.nm 19) (E.int 0)),
  (S.for (T.nm 20) (I.rng1 (E.int 7)) l2_law),
  (S.ret (E.bl true))]
def p_law : PF := ⟨"law", ["script", "deal", "plant", "d", "offsets", "reads", "wide", "before", "j", "told", "width", "row", "k", "half", "finer", "worth", "x", "mode", "estimate", "failed", "turn", "c", "low", "high", "now", "here", "later"], ⟨1, 27, b_law⟩, top 64⟩
def pfs : List PF := [p_greatest_divisor, p_ratio, p_added, p_times, p_over, p_compare, p_box_times, p_rates_of, p_beat_box, p_sum_of_boxes, p_down, p_up, p_made_whole, p_halved_units, p_widths_of, p_read_pair, p_read_pairs, p_read_box, p_box_hull, p_change_boxes, p_offset_of, p_offsets_of, p_gone_on, p_met_boxes, p_offsets_to, p_wider_widths, p_failed_widths, p_late_widths, p_late_worths, p__law_deal, p__law_take, p__law_same, p__law_ratio, p__law_plus, p__law_mult, p__law_minus, p__law_height, p__law_keeps, p__law_pick, p__law_line, p__law_row_has, p__law_floor, p__law_ceil, p__law_not_above, p__law_plant_of, p__law_edge, p__law_ways, p__law_offset, p__law_offsets, p__law_reads, p__law_failed, p__law_between, p__law_inside, p__law_ahead, p__law_reading, p__law_unit, p__law_all_ways, p_law]
def fs : List Fn := pfs.map (·.fn)
def cons : List (Str × D) := [("HALF", .tup [.int 1, .int 2])]
abbrev gls : List Str := cons.map (·.1)
def Γ : GlS := ΓC cons
@[simp] theorem Γ_0 : Γ 0 = some (.tup [.int 1, .int 2]) := rfl
abbrev f_greatest_divisor : Nat := 0
abbrev f_ratio : Nat := 1
abbrev f_added : Nat := 2
abbrev f_times : Nat := 3
abbrev f_over : Nat := 4
abbrev f_compare : Nat := 5
abbrev f_box_times : Nat := 6
abbrev f_rates_of : Nat := 7
abbrev f_beat_box : Nat := 8
abbrev f_sum_of_boxes : Nat := 9
abbrev f_down : Nat := 10
abbrev f_up : Nat := 11
abbrev f_made_whole : Nat := 12
abbrev f_halved_units : Nat := 13
abbrev f_widths_of : Nat := 14
abbrev f_read_pair : Nat := 15
abbrev f_read_pairs : Nat := 16
abbrev f_read_box : Nat := 17
abbrev f_box_hull : Nat := 18
abbrev f_change_boxes : Nat := 19
abbrev f_offset_of : Nat := 20
abbrev f_offsets_of : Nat := 21
abbrev f_gone_on : Nat := 22
abbrev f_met_boxes : Nat := 23
abbrev f_offsets_to : Nat := 24
abbrev f_wider_widths : Nat := 25
abbrev f_failed_widths : Nat := 26
abbrev f_late_widths : Nat := 27
abbrev f_late_worths : Nat := 28
abbrev f__law_deal : Nat := 29
abbrev f__law_take : Nat := 30
abbrev f__law_same : Nat := 31
abbrev f__law_ratio : Nat := 32
abbrev f__law_plus : Nat := 33
abbrev f__law_mult : Nat := 34
abbrev f__law_minus : Nat := 35
abbrev f__law_height : Nat := 36
abbrev f__law_keeps : Nat := 37
abbrev f__law_pick : Nat := 38
abbrev f__law_line : Nat := 39
abbrev f__law_row_has : Nat := 40
abbrev f__law_floor : Nat := 41
abbrev f__law_ceil : Nat := 42
abbrev f__law_not_above : Nat := 43
abbrev f__law_plant_of : Nat := 44
abbrev f__law_edge : Nat := 45
abbrev f__law_ways : Nat := 46
abbrev f__law_offset : Nat := 47
abbrev f__law_offsets : Nat := 48
abbrev f__law_reads : Nat := 49
abbrev f__law_failed : Nat := 50
abbrev f__law_between : Nat := 51
abbrev f__law_inside : Nat := 52
abbrev f__law_ahead : Nat := 53
abbrev f__law_reading : Nat := 54
abbrev f__law_unit : Nat := 55
abbrev f__law_all_ways : Nat := 56
abbrev f_law : Nat := 57
theorem u_greatest_divisor (k : Nat) (d0 d1 : D) (μ : Store) : Py.run fs Γ (k + 1) f_greatest_divisor [d0, d1] μ = fin (exs (Py.run fs Γ k) Γ b_greatest_divisor [some (.val d0), some (.val d1)] μ) := run_fin (fs := fs) (fn := p_greatest_divisor.fn) rfl rfl
theorem u_ratio (k : Nat) (d0 d1 : D) (μ : Store) : Py.run fs Γ (k + 1) f_ratio [d0, d1] μ = fin (exs (Py.run fs Γ k) Γ b_ratio [some (.val d0), some (.val d1), none] μ) := run_fin (fs := fs) (fn := p_ratio.fn) rfl rfl
theorem u_added (k : Nat) (d0 d1 : D) (μ : Store) : Py.run fs Γ (k + 1) f_added [d0, d1] μ = fin (exs (Py.run fs Γ k) Γ b_added [some (.val d0), some (.val d1)] μ) := run_fin (fs := fs) (fn := p_added.fn) rfl rfl
theorem u_times (k : Nat) (d0 d1 : D) (μ : Store) : Py.run fs Γ (k + 1) f_times [d0, d1] μ = fin (exs (Py.run fs Γ k) Γ b_times [some (.val d0), some (.val d1)] μ) := run_fin (fs := fs) (fn := p_times.fn) rfl rfl
theorem u_over (k : Nat) (d0 d1 : D) (μ : Store) : Py.run fs Γ (k + 1) f_over [d0, d1] μ = fin (exs (Py.run fs Γ k) Γ b_over [some (.val d0), some (.val d1)] μ) := run_fin (fs := fs) (fn := p_over.fn) rfl rfl
theorem u_compare (k : Nat) (d0 d1 : D) (μ : Store) : Py.run fs Γ (k + 1) f_compare [d0, d1] μ = fin (exs (Py.run fs Γ k) Γ b_compare [some (.val d0), some (.val d1), none] μ) := run_fin (fs := fs) (fn := p_compare.fn) rfl rfl
theorem u_box_times (k : Nat) (d0 d1 : D) (μ : Store) : Py.run fs Γ (k + 1) f_box_times [d0, d1] μ = fin (exs (Py.run fs Γ k) Γ b_box_times [some (.val d0), some (.val d1), none, none] μ) := run_fin (fs := fs) (fn := p_box_times.fn) rfl rfl
theorem u_rates_of (k : Nat) (d0 d1 d2 : D) (μ : Store) : Py.run fs Γ (k + 1) f_rates_of [d0, d1, d2] μ = fin (exs (Py.run fs Γ k) Γ b_rates_of [some (.val d0), some (.val d1), some (.val d2)] μ) := run_fin (fs := fs) (fn := p_rates_of.fn) rfl rfl
theorem u_beat_box (k : Nat) (d0 d1 d2 : D) (μ : Store) : Py.run fs Γ (k + 1) f_beat_box [d0, d1, d2] μ = fin (exs (Py.run fs Γ k) Γ b_beat_box [some (.val d0), some (.val d1), some (.val d2)] μ) := run_fin (fs := fs) (fn := p_beat_box.fn) rfl rfl
theorem u_sum_of_boxes (k : Nat) (d0 d1 : D) (μ : Store) : Py.run fs Γ (k + 1) f_sum_of_boxes [d0, d1] μ = fin (exs (Py.run fs Γ k) Γ b_sum_of_boxes [some (.val d0), some (.val d1), none, none, none, none] μ) := run_fin (fs := fs) (fn := p_sum_of_boxes.fn) rfl rfl
theorem u_down (k : Nat) (d0 d1 : D) (μ : Store) : Py.run fs Γ (k + 1) f_down [d0, d1] μ = fin (exs (Py.run fs Γ k) Γ b_down [some (.val d0), some (.val d1), none, none] μ) := run_fin (fs := fs) (fn := p_down.fn) rfl rfl
theorem u_up (k : Nat) (d0 d1 : D) (μ : Store) : Py.run fs Γ (k + 1) f_up [d0, d1] μ = fin (exs (Py.run fs Γ k) Γ b_up [some (.val d0), some (.val d1), none, none] μ) := run_fin (fs := fs) (fn := p_up.fn) rfl rfl
theorem u_made_whole (k : Nat) (d0 d1 : D) (μ : Store) : Py.run fs Γ (k + 1) f_made_whole [d0, d1] μ = fin (exs (Py.run fs Γ k) Γ b_made_whole [some (.val d0), some (.val d1), none, none, none] μ) := run_fin (fs := fs) (fn := p_made_whole.fn) rfl rfl
theorem u_halved_units (k : Nat) (d0 d1 : D) (μ : Store) : Py.run fs Γ (k + 1) f_halved_units [d0, d1] μ = fin (exs (Py.run fs Γ k) Γ b_halved_units [some (.val d0), some (.val d1), none, none, none] μ) := run_fin (fs := fs) (fn := p_halved_units.fn) rfl rfl
theorem u_widths_of (k : Nat) (d0 : D) (μ : Store) : Py.run fs Γ (k + 1) f_widths_of [d0] μ = fin (exs (Py.run fs Γ k) Γ b_widths_of [some (.val d0), none, none] μ) := run_fin (fs := fs) (fn := p_widths_of.fn) rfl rfl
theorem u_read_pair (k : Nat) (d0 d1 : D) (μ : Store) : Py.run fs Γ (k + 1) f_read_pair [d0, d1] μ = fin (exs (Py.run fs Γ k) Γ b_read_pair [some (.val d0), some (.val d1), none] μ) := run_fin (fs := fs) (fn := p_read_pair.fn) rfl rfl
theorem u_read_pairs (k : Nat) (d0 d1 : D) (μ : Store) : Py.run fs Γ (k + 1) f_read_pairs [d0, d1] μ = fin (exs (Py.run fs Γ k) Γ b_read_pairs [some (.val d0), some (.val d1), none, none] μ) := run_fin (fs := fs) (fn := p_read_pairs.fn) rfl rfl
theorem u_read_box (k : Nat) (d0 d1 : D) (μ : Store) : Py.run fs Γ (k + 1) f_read_box [d0, d1] μ = fin (exs (Py.run fs Γ k) Γ b_read_box [some (.val d0), some (.val d1), none, none, none] μ) := run_fin (fs := fs) (fn := p_read_box.fn) rfl rfl
theorem u_box_hull (k : Nat) (d0 d1 : D) (μ : Store) : Py.run fs Γ (k + 1) f_box_hull [d0, d1] μ = fin (exs (Py.run fs Γ k) Γ b_box_hull [some (.val d0), some (.val d1), none, none, none, none, none] μ) := run_fin (fs := fs) (fn := p_box_hull.fn) rfl rfl
theorem u_change_boxes (k : Nat) (d0 d1 d2 d3 : D) (μ : Store) : Py.run fs Γ (k + 1) f_change_boxes [d0, d1, d2, d3] μ = fin (exs (Py.run fs Γ k) Γ b_change_boxes [some (.val d0), some (.val d1), some (.val d2), some (.val d3), none, none, none, none, none, none] μ) := run_fin (fs := fs) (fn := p_change_boxes.fn) rfl rfl
theorem u_offset_of (k : Nat) (d0 d1 d2 d3 d4 : D) (μ : Store) : Py.run fs Γ (k + 1) f_offset_of [d0, d1, d2, d3, d4] μ = fin (exs (Py.run fs Γ k) Γ b_offset_of [some (.val d0), some (.val d1), some (.val d2), some (.val d3), some (.val d4), none, none] μ) := run_fin (fs := fs) (fn := p_offset_of.fn) rfl rfl
theorem u_offsets_of (k : Nat) (d0 d1 : D) (μ : Store) : Py.run fs Γ (k + 1) f_offsets_of [d0, d1] μ = fin (exs (Py.run fs Γ k) Γ b_offsets_of [some (.val d0), some (.val d1), none, none, none, none, none, none] μ) := run_fin (fs := fs) (fn := p_offsets_of.fn) rfl rfl
theorem u_gone_on (k : Nat) (d0 d1 : D) (μ : Store) : Py.run fs Γ (k + 1) f_gone_on [d0, d1] μ = fin (exs (Py.run fs Γ k) Γ b_gone_on [some (.val d0), some (.val d1), none, none, none, none] μ) := run_fin (fs := fs) (fn := p_gone_on.fn) rfl rfl
theorem u_met_boxes (k : Nat) (d0 d1 : D) (μ : Store) : Py.run fs Γ (k + 1) f_met_boxes [d0, d1] μ = fin (exs (Py.run fs Γ k) Γ b_met_boxes [some (.val d0), some (.val d1), none, none, none, none, none, none, none] μ) := run_fin (fs := fs) (fn := p_met_boxes.fn) rfl rfl
theorem u_offsets_to (k : Nat) (d0 d1 : D) (μ : Store) : Py.run fs Γ (k + 1) f_offsets_to [d0, d1] μ = fin (exs (Py.run fs Γ k) Γ b_offsets_to [some (.val d0), some (.val d1), none, none, none, none] μ) := run_fin (fs := fs) (fn := p_offsets_to.fn) rfl rfl
theorem u_wider_widths (k : Nat) (d0 d1 : D) (μ : Store) : Py.run fs Γ (k + 1) f_wider_widths [d0, d1] μ = fin (exs (Py.run fs Γ k) Γ b_wider_widths [some (.val d0), some (.val d1), none, none, none, none, none, none, none, none, none, none] μ) := run_fin (fs := fs) (fn := p_wider_widths.fn) rfl rfl
theorem u_failed_widths (k : Nat) (d0 d1 d2 : D) (μ : Store) : Py.run fs Γ (k + 1) f_failed_widths [d0, d1, d2] μ = fin (exs (Py.run fs Γ k) Γ b_failed_widths [some (.val d0), some (.val d1), some (.val d2), none, none, none, none] μ) := run_fin (fs := fs) (fn := p_failed_widths.fn) rfl rfl
theorem u_late_widths (k : Nat) (d0 d1 d2 : D) (μ : Store) : Py.run fs Γ (k + 1) f_late_widths [d0, d1, d2] μ = fin (exs (Py.run fs Γ k) Γ b_late_widths [some (.val d0), some (.val d1), some (.val d2), none, none, none] μ) := run_fin (fs := fs) (fn := p_late_widths.fn) rfl rfl
theorem u_late_worths (k : Nat) (d0 d1 : D) (μ : Store) : Py.run fs Γ (k + 1) f_late_worths [d0, d1] μ = fin (exs (Py.run fs Γ k) Γ b_late_worths [some (.val d0), some (.val d1), none, none] μ) := run_fin (fs := fs) (fn := p_late_worths.fn) rfl rfl
theorem u__law_deal (k : Nat) (d0 : D) (μ : Store) : Py.run fs Γ (k + 1) f__law_deal [d0] μ = fin (exs (Py.run fs Γ k) Γ b__law_deal [some (.val d0), none, none, none, none, none] μ) := run_fin (fs := fs) (fn := p__law_deal.fn) rfl rfl
theorem u__law_take (k : Nat) (d0 d1 : D) (μ : Store) : Py.run fs Γ (k + 1) f__law_take [d0, d1] μ = fin (exs (Py.run fs Γ k) Γ b__law_take [some (.val d0), some (.val d1), none] μ) := run_fin (fs := fs) (fn := p__law_take.fn) rfl rfl
theorem u__law_same (k : Nat) (d0 d1 : D) (μ : Store) : Py.run fs Γ (k + 1) f__law_same [d0, d1] μ = fin (exs (Py.run fs Γ k) Γ b__law_same [some (.val d0), some (.val d1), none] μ) := run_fin (fs := fs) (fn := p__law_same.fn) rfl rfl
theorem u__law_ratio (k : Nat) (d0 d1 : D) (μ : Store) : Py.run fs Γ (k + 1) f__law_ratio [d0, d1] μ = fin (exs (Py.run fs Γ k) Γ b__law_ratio [some (.val d0), some (.val d1), none, none, none] μ) := run_fin (fs := fs) (fn := p__law_ratio.fn) rfl rfl
theorem u__law_plus (k : Nat) (d0 d1 : D) (μ : Store) : Py.run fs Γ (k + 1) f__law_plus [d0, d1] μ = fin (exs (Py.run fs Γ k) Γ b__law_plus [some (.val d0), some (.val d1)] μ) := run_fin (fs := fs) (fn := p__law_plus.fn) rfl rfl
theorem u__law_mult (k : Nat) (d0 d1 : D) (μ : Store) : Py.run fs Γ (k + 1) f__law_mult [d0, d1] μ = fin (exs (Py.run fs Γ k) Γ b__law_mult [some (.val d0), some (.val d1)] μ) := run_fin (fs := fs) (fn := p__law_mult.fn) rfl rfl
theorem u__law_minus (k : Nat) (d0 d1 : D) (μ : Store) : Py.run fs Γ (k + 1) f__law_minus [d0, d1] μ = fin (exs (Py.run fs Γ k) Γ b__law_minus [some (.val d0), some (.val d1)] μ) := run_fin (fs := fs) (fn := p__law_minus.fn) rfl rfl
theorem u__law_height (k : Nat) (d0 d1 : D) (μ : Store) : Py.run fs Γ (k + 1) f__law_height [d0, d1] μ = fin (exs (Py.run fs Γ k) Γ b__law_height [some (.val d0), some (.val d1), none, none] μ) := run_fin (fs := fs) (fn := p__law_height.fn) rfl rfl
theorem u__law_keeps (k : Nat) (d0 d1 : D) (μ : Store) : Py.run fs Γ (k + 1) f__law_keeps [d0, d1] μ = fin (exs (Py.run fs Γ k) Γ b__law_keeps [some (.val d0), some (.val d1), none] μ) := run_fin (fs := fs) (fn := p__law_keeps.fn) rfl rfl
theorem u__law_pick (k : Nat) (d0 d1 : D) (μ : Store) : Py.run fs Γ (k + 1) f__law_pick [d0, d1] μ = fin (exs (Py.run fs Γ k) Γ b__law_pick [some (.val d0), some (.val d1)] μ) := run_fin (fs := fs) (fn := p__law_pick.fn) rfl rfl
theorem u__law_line (k : Nat) (d0 d1 d2 d3 : D) (μ : Store) : Py.run fs Γ (k + 1) f__law_line [d0, d1, d2, d3] μ = fin (exs (Py.run fs Γ k) Γ b__law_line [some (.val d0), some (.val d1), some (.val d2), some (.val d3), none, none, none] μ) := run_fin (fs := fs) (fn := p__law_line.fn) rfl rfl
theorem u__law_row_has (k : Nat) (d0 d1 : D) (μ : Store) : Py.run fs Γ (k + 1) f__law_row_has [d0, d1] μ = fin (exs (Py.run fs Γ k) Γ b__law_row_has [some (.val d0), some (.val d1), none] μ) := run_fin (fs := fs) (fn := p__law_row_has.fn) rfl rfl
theorem u__law_floor (k : Nat) (d0 d1 : D) (μ : Store) : Py.run fs Γ (k + 1) f__law_floor [d0, d1] μ = fin (exs (Py.run fs Γ k) Γ b__law_floor [some (.val d0), some (.val d1), none] μ) := run_fin (fs := fs) (fn := p__law_floor.fn) rfl rfl
theorem u__law_ceil (k : Nat) (d0 d1 : D) (μ : Store) : Py.run fs Γ (k + 1) f__law_ceil [d0, d1] μ = fin (exs (Py.run fs Γ k) Γ b__law_ceil [some (.val d0), some (.val d1)] μ) := run_fin (fs := fs) (fn := p__law_ceil.fn) rfl rfl
theorem u__law_not_above (k : Nat) (d0 d1 : D) (μ : Store) : Py.run fs Γ (k + 1) f__law_not_above [d0, d1] μ = fin (exs (Py.run fs Γ k) Γ b__law_not_above [some (.val d0), some (.val d1)] μ) := run_fin (fs := fs) (fn := p__law_not_above.fn) rfl rfl
theorem u__law_plant_of (k : Nat) (d0 : D) (μ : Store) : Py.run fs Γ (k + 1) f__law_plant_of [d0] μ = fin (exs (Py.run fs Γ k) Γ b__law_plant_of [some (.val d0), none, none, none, none, none, none, none, none, none, none, none, none, none, none, none, none, none, none, none] μ) := run_fin (fs := fs) (fn := p__law_plant_of.fn) rfl rfl
theorem u__law_edge (k : Nat) (d0 : D) (μ : Store) : Py.run fs Γ (k + 1) f__law_edge [d0] μ = fin (exs (Py.run fs Γ k) Γ b__law_edge [some (.val d0), none] μ) := run_fin (fs := fs) (fn := p__law_edge.fn) rfl rfl
theorem u__law_ways (k : Nat) (d0 d1 d2 d3 : D) (μ : Store) : Py.run fs Γ (k + 1) f__law_ways [d0, d1, d2, d3] μ = fin (exs (Py.run fs Γ k) Γ b__law_ways [some (.val d0), some (.val d1), some (.val d2), some (.val d3), none, none, none, none, none] μ) := run_fin (fs := fs) (fn := p__law_ways.fn) rfl rfl
theorem u__law_offset (k : Nat) (d0 d1 d2 d3 d4 : D) (μ : Store) : Py.run fs Γ (k + 1) f__law_offset [d0, d1, d2, d3, d4] μ = fin (exs (Py.run fs Γ k) Γ b__law_offset [some (.val d0), some (.val d1), some (.val d2), some (.val d3), some (.val d4), none, none] μ) := run_fin (fs := fs) (fn := p__law_offset.fn) rfl rfl
theorem u__law_offsets (k : Nat) (d0 d1 : D) (μ : Store) : Py.run fs Γ (k + 1) f__law_offsets [d0, d1] μ = fin (exs (Py.run fs Γ k) Γ b__law_offsets [some (.val d0), some (.val d1), none, none, none, none] μ) := run_fin (fs := fs) (fn := p__law_offsets.fn) rfl rfl
theorem u__law_reads (k : Nat) (d0 d1 : D) (μ : Store) : Py.run fs Γ (k + 1) f__law_reads [d0, d1] μ = fin (exs (Py.run fs Γ k) Γ b__law_reads [some (.val d0), some (.val d1), none] μ) := run_fin (fs := fs) (fn := p__law_reads.fn) rfl rfl
theorem u__law_failed (k : Nat) (d0 d1 d2 : D) (μ : Store) : Py.run fs Γ (k + 1) f__law_failed [d0, d1, d2] μ = fin (exs (Py.run fs Γ k) Γ b__law_failed [some (.val d0), some (.val d1), some (.val d2), none, none, none, none, none, none] μ) := run_fin (fs := fs) (fn := p__law_failed.fn) rfl rfl
theorem u__law_between (k : Nat) (d0 d1 d2 : D) (μ : Store) : Py.run fs Γ (k + 1) f__law_between [d0, d1, d2] μ = fin (exs (Py.run fs Γ k) Γ b__law_between [some (.val d0), some (.val d1), some (.val d2), none, none] μ) := run_fin (fs := fs) (fn := p__law_between.fn) rfl rfl
theorem u__law_inside (k : Nat) (d0 d1 d2 : D) (μ : Store) : Py.run fs Γ (k + 1) f__law_inside [d0, d1, d2] μ = fin (exs (Py.run fs Γ k) Γ b__law_inside [some (.val d0), some (.val d1), some (.val d2)] μ) := run_fin (fs := fs) (fn := p__law_inside.fn) rfl rfl
theorem u__law_ahead (k : Nat) (d0 d1 d2 d3 d4 : D) (μ : Store) : Py.run fs Γ (k + 1) f__law_ahead [d0, d1, d2, d3, d4] μ = fin (exs (Py.run fs Γ k) Γ b__law_ahead [some (.val d0), some (.val d1), some (.val d2), some (.val d3), some (.val d4), none, none, none, none, none, none, none, none] μ) := run_fin (fs := fs) (fn := p__law_ahead.fn) rfl rfl
theorem u__law_reading (k : Nat) (d0 d1 d2 d3 : D) (μ : Store) : Py.run fs Γ (k + 1) f__law_reading [d0, d1, d2, d3] μ = fin (exs (Py.run fs Γ k) Γ b__law_reading [some (.val d0), some (.val d1), some (.val d2), some (.val d3), none] μ) := run_fin (fs := fs) (fn := p__law_reading.fn) rfl rfl
theorem u__law_unit (k : Nat) (d0 : D) (μ : Store) : Py.run fs Γ (k + 1) f__law_unit [d0] μ = fin (exs (Py.run fs Γ k) Γ b__law_unit [some (.val d0)] μ) := run_fin (fs := fs) (fn := p__law_unit.fn) rfl rfl
theorem u__law_all_ways (k : Nat) (d0 d1 d2 : D) (μ : Store) : Py.run fs Γ (k + 1) f__law_all_ways [d0, d1, d2] μ = fin (exs (Py.run fs Γ k) Γ b__law_all_ways [some (.val d0), some (.val d1), some (.val d2), none, none, none, none, none, none, none, none, none] μ) := run_fin (fs := fs) (fn := p__law_all_ways.fn) rfl rfl
theorem u_law (k : Nat) (d0 : D) (μ : Store) : Py.run fs Γ (k + 1) f_law [d0] μ = fin (exs (Py.run fs Γ k) Γ b_law [some (.val d0), none, none, none, none, none, none, none, none, none, none, none, none, none, none, none, none, none, none, none, none, none, none, none, none, none, none] μ) := run_fin (fs := fs) (fn := p_law.fn) rfl rfl
end P48
end
section
set_option Elab.async false
set_option linter.all false
set_option maxRecDepth 100000
namespace Geo
open PySem L2 Py FM
/-! ### plain data are like themselves; slices -/
theorem pln_py : ∀ (n : Nat) (d : D), pln n d = true → ∃ p, toPy d = some p ∧ p.canLay0 = true ∧ p.depth ≤ n ∧ PyData.eqv p p = true
  | _, .int i, _ => ⟨.int i, by rw [toPy], by rw [PyData.canLay0], by rw [PyData.depth]; omega, by rw [PyData.eqv]; simp⟩
  | _, .bl b, _ => ⟨.bool b, by rw [toPy], by rw [PyData.canLay0], by rw [PyData.depth]; omega, by rw [PyData.eqv]; simp⟩
  | _, .non, _ => ⟨.none, by rw [toPy], by rw [PyData.canLay0], by rw [PyData.depth]; omega, by rw [PyData.eqv]⟩
  | 0, .tup _, h => by simp [pln] at h
  | 0, .lst _, h => by simp [pln] at h
  | 0, .str _, h => by simp [pln] at h
  | _ + 1, .str _, h => by simp [pln] at h
  | 0, .mr _, h => by simp [pln] at h
  | _ + 1, .mr _, h => by simp [pln] at h
  | 0, .rg _ _, h => by simp [pln] at h
  | _ + 1, .rg _ _, h => by simp [pln] at h
  | 0, .scr _, h => by simp [pln] at h
  | _ + 1, .scr _, h => by simp [pln] at h
  | n + 1, .tup ds, h => by
    rw [pln, Bool.and_eq_true, decide_eq_true_iff, List.all_eq_true] at h
    have key : ∀ l : List D, (∀ d ∈ l, pln n d = true) → ∃ ps, toPys l = some ps ∧ PyData.canLayAll0 ps = true ∧ PyData.depthAll ps ≤ n ∧ PyData.eqvAll ps ps = true := by
      intro l
      induction l with
      | nil => intro _; exact ⟨[], by rw [toPys], by rw [PyData.canLayAll0], by rw [PyData.depthAll]; omega, by rw [PyData.eqvAll]⟩
      | cons d l ih =>
        intro hl
        obtain ⟨p, h1, h2, h3, h4⟩ := pln_py n d (hl d (by simp))
        obtain ⟨ps, g1, g2, g3, g4⟩ := ih (fun e he => hl e (by simp [he]))
        exact ⟨p :: ps, by rw [toPys, h1, g1]; rfl, by rw [PyData.canLayAll0, h2, g2]; rfl, by rw [PyData.depthAll]; omega, by rw [PyData.eqvAll, h4, g4]; rfl⟩
    obtain ⟨ps, g1, g2, g3, g4⟩ := key ds h.2
    exact ⟨.tuple ps, by rw [toPy, g1]; rfl, by rw [PyData.canLay0]; exact g2, by rw [PyData.depth]; omega, by rw [PyData.eqv]; exact g4⟩
  | n + 1, .lst ds, h => by
    rw [pln, Bool.and_eq_true, decide_eq_true_iff, List.all_eq_true] at h
    have key : ∀ l : List D, (∀ d ∈ l, pln n d = true) → ∃ ps, toPys l = some ps ∧ PyData.canLayAll0 ps = true ∧ PyData.depthAll ps ≤ n ∧ PyData.eqvAll ps ps = true := by
      intro l
      induction l with
      | nil => intro _; exact ⟨[], by rw [toPys], by rw [PyData.canLayAll0], by rw [PyData.depthAll]; omega, by rw [PyData.eqvAll]⟩
      | cons d l ih =>
        intro hl
        obtain ⟨p, h1, h2, h3, h4⟩ := pln_py n d (hl d (by simp))
        obtain ⟨ps, g1, g2, g3, g4⟩ := ih (fun e he => hl e (by simp [he]))
        exact ⟨p :: ps, by rw [toPys, h1, g1]; rfl, by rw [PyData.canLayAll0, h2, g2]; rfl, by rw [PyData.depthAll]; omega, by rw [PyData.eqvAll, h4, g4]; rfl⟩
    obtain ⟨ps, g1, g2, g3, g4⟩ := key ds h.2
    exact ⟨.list ps, by rw [toPy, g1]; rfl, by rw [PyData.canLay0]; exact g2, by rw [PyData.depth]; omega, by rw [PyData.eqv]; exact g4⟩
theorem eqS_refl {n : Nat} {d : D} (h : pln n d = true) (hn : n ≤ 64 := by decide) : eqS d d = some true := by
  obtain ⟨p, h1, h2, h3, h4⟩ := pln_py n d h
  have hs : SeqAt.shaped p = true := by unfold SeqAt.shaped; rw [h2, Bool.true_and]; exact decide_eq_true (by omega)
  unfold eqS
  rw [h1]
  dsimp only [Option.bind_some]
  rw [hs, Bool.and_self, if_pos rfl, h4]
theorem cutS_take (ds : List D) (k : Nat) : Py.cutS ds none (some (k : Int)) = ds.take k := by
  unfold Py.cutS HT.sIx
  dsimp only
  rw [if_neg (by omega)]
  simp [List.take_eq_take_iff]
theorem cutS_drop (ds : List D) (k : Nat) : Py.cutS ds (some (k : Int)) none = ds.drop k := by
  unfold Py.cutS HT.sIx
  dsimp only
  rw [if_neg (by omega)]
  by_cases h : k ≤ ds.length
  · rw [show min (k : Int).toNat ds.length = k by omega]
    rw [List.take_of_length_le (by simp)]
  · rw [show min (k : Int).toNat ds.length = ds.length by omega]
    simp [List.drop_eq_nil_of_le (show ds.length ≤ k by omega)]
end Geo
end
section
set_option Elab.async false
set_option linter.all false
set_option maxRecDepth 100000
namespace P48
open PySem L2 Py Geo FM
theorem r_gcd {k : Nat} {μ : Store} (p q : Int) (h : 0 ≤ q) : Py.run fs Γ (k + 1) f_greatest_divisor [.int p, .int q] μ = some (.int (Int.gcd p q), μ) := by
  obtain ⟨r, h1, h2⟩ := gcd_loop (c := fun env' μ' => evT (Py.run fs Γ k) Γ (E.cmp .NotEq (E.slot 1) (E.int 0)) env' μ') (b := fun env' μ' => exs (Py.run fs Γ k) Γ l1_greatest_divisor env' μ') (μ := μ)
    (fun p q => by simp [getV]) (fun p q hq => by simp [l1_greatest_divisor, hq]) q.toNat p q h (Nat.le_refl _)
  rw [u_greatest_divisor, b_greatest_divisor]
  rw [exs_nx (by rw [ex]; exact h1)]
  simp [atI, ixN, SZ]
  omega
theorem r_ratio {k n : Nat} {μ : Store} (p q : Int) (h : q ≠ 0) (hq : q.natAbs < 2 ^ n) (hn : n ≤ 8999) : Py.run fs Γ (k + 2) f_ratio [.int p, .int q] μ = some (rD (Rat.divInt p q), μ) := by
  rw [u_ratio, b_ratio]
  by_cases h0 : q < 0
  · have hq' : (-q).natAbs < 2 ^ n := by omega
    have g := r_gcd (k := k) (μ := μ) (-p) (-q) (by omega)
    have hd := divOk_of (j := (Int.gcd (-p) (-q) : Int)) (b := n) (gcd_pos' (by omega)) (gcd_lt (by omega) hq') hn
    rw [← Rat.neg_divInt_neg, rD_divInt (by omega)]
    rw [Int.neg_gcd, Int.gcd_neg] at g hd ⊢
    simp [atI, ixN, SZ, h0, g, hd]
  · have g := r_gcd (k := k) (μ := μ) p q (by omega)
    have hd := divOk_of (j := (Int.gcd p q : Int)) (b := n) (gcd_pos' h) (gcd_lt h hq) hn
    rw [rD_divInt (by omega)]
    simp [atI, ixN, SZ, h0, g, hd]
theorem r_times {k a b : Nat} {μ : Store} (s t : Rat) (hs : Sz a s) (ht : Sz b t) (hn : a + b ≤ 8999) : Py.run fs Γ (k + 3) f_times [rD s, rD t] μ = some (rD (s * t), μ) := by
  have h1 := mulOk_of hs.1 ht.1 (by omega)
  have h2 := mulOk_of hs.den ht.den (by omega)
  have g := r_ratio (k := k) (μ := μ) (s.num * t.num) (s.den * t.den) (den_mul_ne s t) (abs_mul_lt hs.den ht.den) hn
  rw [mul_divInt] at g
  rw [u_times, b_times]
  unfold rD at g ⊢
  simp [atI, ixN, SZ, h1, h2, g]
theorem r_over {k a b : Nat} {μ : Store} (s t : Rat) (h0 : t ≠ 0) (hs : Sz a s) (ht : Sz b t) (hn : a + b ≤ 8999) : Py.run fs Γ (k + 3) f_over [rD s, rD t] μ = some (rD (s / t), μ) := by
  have h1 := mulOk_of hs.1 ht.den (by omega)
  have h2 := mulOk_of hs.den ht.1 (by omega)
  have g := r_ratio (k := k) (μ := μ) (s.num * t.den) (s.den * t.num) (Int.mul_ne_zero (den_ne s) (num_ne h0)) (abs_mul_lt hs.den ht.1) hn
  rw [div_divInt] at g
  rw [u_over, b_over]
  unfold rD at g ⊢
  simp [atI, ixN, SZ, h1, h2, g]
theorem r_added {k a b : Nat} {μ : Store} (s t : Rat) (hs : Sz a s) (ht : Sz b t) (hn : a + b + 1 ≤ 8999) : Py.run fs Γ (k + 3) f_added [rD s, rD t] μ = some (rD (s + t), μ) := by
  have h1 := mulOk_of hs.1 ht.den (by omega)
  have h2 := mulOk_of ht.1 hs.den (by omega)
  have h3 := mulOk_of hs.den ht.den (by omega)
  have g := r_ratio (k := k) (n := a + b) (μ := μ) (s.num * t.den + t.num * s.den) (s.den * t.den) (den_mul_ne s t) (abs_mul_lt hs.den ht.den) (by omega)
  rw [add_divInt] at g
  rw [u_added, b_added]
  unfold rD at g ⊢
  simp -implicitDefEqProofs [atI, ixN, szle, h1, h2, h3, g]
theorem rD_neg (t : Rat) : rD (-t) = .tup [.int (-t.num), .int t.den] := rD_neg' t
def sgn (s t : Rat) : Int := if s < t then -1 else if t < s then 1 else 0
theorem r_compare {k a b : Nat} {μ : Store} (s t : Rat) (hs : Sz a s) (ht : Sz b t) (hn : a + b ≤ 8999) : Py.run fs Γ (k + 1) f_compare [rD s, rD t] μ = some (.int (sgn s t), μ) := by
  have h1 := mulOk_of hs.1 ht.den (by omega)
  have h2 := mulOk_of ht.1 hs.den (by omega)
  have l1 : s < t ↔ s.num * t.den - t.num * s.den < 0 := by rw [Rat.lt_iff]; omega
  have l2 : t < s ↔ 0 < s.num * t.den - t.num * s.den := by rw [Rat.lt_iff]; omega
  rw [u_compare, b_compare, sgn]
  simp only [l1, l2]
  unfold rD
  generalize hq : s.num * t.den - t.num * s.den = q
  by_cases c1 : q < 0
  · simp -implicitDefEqProofs [atI, ixN, szle, h1, h2, hq, c1]
  · by_cases c2 : 0 < q
    · simp -implicitDefEqProofs [atI, ixN, szle, h1, h2, hq, c1, c2]
    · simp -implicitDefEqProofs [atI, ixN, szle, h1, h2, hq, c1, c2]
end P48
end
section
set_option Elab.async false
set_option linter.all false
set_option maxRecDepth 100000
namespace P48
open PySem L2 Py
/-! ### the deal -/
def RowOk (ns : List Int) : Prop := ∀ x ∈ ns, 0 ≤ x ∧ x < 1009
theorem RowOk.nil : RowOk [] := fun _ h => by cases h
theorem RowOk.app {ns : List Int} {x : Int} (h : RowOk ns) (h0 : 0 ≤ x) (h1 : x < 1009) : RowOk (ns ++ [x]) := fun y hy => by
  rcases List.mem_append.mp hy with hy | hy
  · exact h y hy
  · have : y = x := by simpa using hy
    subst this; exact ⟨h0, h1⟩
theorem fmod_lt (a b : Int) (h : 0 < b) : 0 ≤ a.fmod b ∧ a.fmod b < b := by
  rw [Int.fmod_eq_emod_of_nonneg a (Int.le_of_lt h)]
  exact ⟨Int.emod_nonneg a (by omega), Int.emod_lt_of_pos a h⟩
theorem d1009 : divOk 1009 = true := by decide +kernel
theorem d7 : divOk 7 = true := by decide +kernel
theorem d3 : divOk 3 = true := by decide +kernel
theorem lt_pow64 {i : Int} (h : i < 18446744073709551616) (h0 : -18446744073709551616 < i) : i.natAbs < 2 ^ 64 := by
  have : (2 : Nat) ^ 64 = 18446744073709551616 := by decide
  omega
theorem mul64 {i j : Int} (h1 : i < 18446744073709551616 ∧ -18446744073709551616 < i) (h2 : j < 18446744073709551616 ∧ -18446744073709551616 < j) : mulOk i j = true := mulOk_of (lt_pow64 h1.1 h1.2) (lt_pow64 h2.1 h2.2)
theorem rangeD_get {lo : Int} {n i : Nat} {d : D} (h : (rangeD lo n)[i]? = some d) : d = .int (lo + i) ∧ i < n := by
  unfold rangeD at h
  rw [List.getElem?_map] at h
  obtain ⟨j, h1, h2⟩ := Option.map_eq_some_iff.mp h
  obtain ⟨h3, h4⟩ := List.getElem?_eq_some_iff.mp h1
  rw [List.getElem_range] at h4
  subst h4
  exact ⟨h2.symm, by simpa using h3⟩
theorem rangeD_len {lo : Int} {n : Nat} : (rangeD lo n).length = n := by unfold rangeD; simp
theorem rngS_0 {n : Nat} (h : n ≤ 16777216) : rngS 0 (n : Int) = some (rangeD 0 n) := by
  unfold rngS
  rw [if_pos]
  · simp
  · simp [SZ]; omega
section
variable {Φ : FnS} {μ : Store}
theorem deal_l1 (s kd : D) (ns : List Int) (cell : Int) (x y : Option SV) (h0 : 0 ≤ cell) (hr : RowOk ns) (hl : ns.length ≤ 4000) :
    ∃ ns' cell' x', forS (T.nm 4) (fun env' μ' => exs Φ Γ l1__law_deal env' μ') (rangeD 0 40) [some (.val s), some (.own (ns.map D.int)), some (.val kd), some (.val (.int cell)), x, y] μ =
      some (.nx [some (.val s), some (.own (ns'.map D.int)), some (.val kd), some (.val (.int cell')), x', y] μ) ∧ RowOk ns' ∧ ns'.length ≤ ns.length + 40 := by
  obtain ⟨env', μ', h1, ns', cell', x', rfl, rfl, h2, h3, h4⟩ := forS_inv (t := T.nm 4) (b := fun env' μ' => exs Φ Γ l1__law_deal env' μ') (ds := rangeD 0 40) (env := [some (.val s), some (.own (ns.map D.int)), some (.val kd), some (.val (.int cell)), x, y]) (μ := μ)
    (fun i env m => ∃ ns' cell' x', env = [some (.val s), some (.own (ns'.map D.int)), some (.val kd), some (.val (.int cell')), x', y] ∧ m = μ ∧ RowOk ns' ∧ 0 ≤ cell' ∧ ns'.length ≤ ns.length + i)
    ⟨ns, cell, x, rfl, rfl, hr, h0, Nat.le_refl _⟩ (by
      rintro i env m d hd ⟨ns', cell', x', rfl, rfl, h2, h3, h4⟩
      obtain ⟨rfl, hi⟩ := rangeD_get hd
      have hz : ns'.length < 16777216 := by omega
      refine ⟨[some (.val s), some (.own (ns'.map D.int)), some (.val kd), some (.val (.int cell')), some (.val (.int (0 + (i : Nat)))), y], ?_⟩
      by_cases hc : 0 < cell'
      · refine ⟨[some (.val s), some (.own ((ns' ++ [cell'.fmod 1009]).map D.int)), some (.val kd), some (.val (.int (cell' / 1009))), some (.val (.int (0 + (i : Nat)))), y], m, by simp, .inl ?_, ns' ++ [cell'.fmod 1009], cell' / 1009, _, rfl, rfl, ?_, ?_, ?_⟩
        · simp [l1__law_deal, hc, SZ, hz, d1009]
        · exact h2.app (fmod_lt _ _ (by decide)).1 (fmod_lt _ _ (by decide)).2
        · exact Int.ediv_nonneg h3 (by decide)
        · simp; omega
      · refine ⟨[some (.val s), some (.own (ns'.map D.int)), some (.val kd), some (.val (.int cell')), some (.val (.int (0 + (i : Nat)))), y], m, by simp, .inl ?_, ns', cell', _, rfl, rfl, h2, h3, by omega⟩
        simp [l1__law_deal, hc])
  rw [rangeD_len] at h4
  exact ⟨ns', cell', x', h1, h2, h4⟩
theorem deal_l2 (s kd : D) (ns : List Int) (cell : Int) (x y : Option SV) (h0 : 0 ≤ cell) (hc : cell < 2 ^ 50) (hr : RowOk ns) (hl : ns.length ≤ 4000) :
    ∃ ns' cell' x', forS (T.nm 4) (fun env' μ' => exs Φ Γ l2__law_deal env' μ') (rangeD 0 5) [some (.val s), some (.own (ns.map D.int)), some (.val kd), some (.val (.int cell)), x, y] μ =
      some (.nx [some (.val s), some (.own (ns'.map D.int)), some (.val kd), some (.val (.int cell')), x', y] μ) ∧ RowOk ns' ∧ ns'.length ≤ ns.length + 40 := by
  obtain ⟨env', μ', h1, ns', cell', x', rfl, rfl, h2, h3, h4⟩ := forS_inv (t := T.nm 4) (b := fun env' μ' => exs Φ Γ l2__law_deal env' μ') (ds := rangeD 0 5) (env := [some (.val s), some (.own (ns.map D.int)), some (.val kd), some (.val (.int cell)), x, y]) (μ := μ)
    (fun i env m => ∃ ns' cell' x', env = [some (.val s), some (.own (ns'.map D.int)), some (.val kd), some (.val (.int cell')), x', y] ∧ m = μ ∧ RowOk ns' ∧ (0 ≤ cell' ∧ cell' < 2 ^ 50) ∧ ns'.length ≤ ns.length + i)
    ⟨ns, cell, x, rfl, rfl, hr, ⟨h0, hc⟩, Nat.le_refl _⟩ (by
      rintro i env m d hd ⟨ns', cell', x', rfl, rfl, h2, h3, h4⟩
      obtain ⟨rfl, hi⟩ := rangeD_get hd
      have hz : ns'.length < 16777216 := by omega
      have hm : mulOk cell' 16807 = true := mul64 (by omega) (by omega)
      generalize hc' : (cell' * 16807 + 12345 + (0 + (i : Nat) : Int)).fmod 2147483647 = c
      have hcr := fmod_lt (cell' * 16807 + 12345 + (0 + (i : Nat) : Int)) 2147483647 (by decide)
      rw [hc'] at hcr
      refine ⟨[some (.val s), some (.own (ns'.map D.int)), some (.val kd), some (.val (.int cell')), some (.val (.int (0 + (i : Nat)))), y], ?_⟩
      refine ⟨[some (.val s), some (.own ((ns' ++ [(c / 7).fmod 1009]).map D.int)), some (.val kd), some (.val (.int c)), some (.val (.int (0 + (i : Nat)))), y], m, by simp, .inl ?_, ns' ++ [(c / 7).fmod 1009], c, _, rfl, rfl, ?_, ?_, ?_⟩
      · simp [l2__law_deal, hm, SZ, hz, d7, ← hc']
      · exact h2.app (fmod_lt _ _ (by decide)).1 (fmod_lt _ _ (by decide)).2
      · exact ⟨hcr.1, by omega⟩
      · simp; omega)
  rw [rangeD_len] at h4
  exact ⟨ns', cell', x', h1, h2, by omega⟩
theorem deal_l3 (ms : List Int) (n : Nat) (hn : n ≤ ms.length) (hm : n ≤ 63) (a b c e : Option SV) :
    ∃ ns a' b' c', forS (T.nm 2) (fun env' μ' => exs Φ Γ l3__law_deal env' μ') (rangeD 0 n) [some (.val (.scr (ms.map D.int))), some (.own []), a, b, c, e] μ =
      some (.nx [some (.val (.scr (ms.map D.int))), some (.own (ns.map D.int)), a', b', c', e] μ) ∧ RowOk ns ∧ ns.length ≤ 40 * n := by
  obtain ⟨env', μ', h1, ns', a', b', c', rfl, rfl, h2, h3⟩ := forS_inv (t := T.nm 2) (b := fun env' μ' => exs Φ Γ l3__law_deal env' μ') (ds := rangeD 0 n) (env := [some (.val (.scr (ms.map D.int))), some (.own []), a, b, c, e]) (μ := μ)
    (fun i env m => ∃ ns' a' b' c', env = [some (.val (.scr (ms.map D.int))), some (.own (ns'.map D.int)), a', b', c', e] ∧ m = μ ∧ RowOk ns' ∧ ns'.length ≤ 40 * i)
    ⟨[], a, b, c, rfl, rfl, RowOk.nil, Nat.le_refl _⟩ (by
      rintro i env m d hd ⟨ns', a', b', c', rfl, rfl, h2, h3⟩
      obtain ⟨rfl, hi⟩ := rangeD_get hd
      have hlt : i < ms.length := by omega
      have hat : atI (ms.map D.int) (i : Int) = some (.int ms[i]) := by
        rw [atI_of (by simpa using hlt)]
        simp
      generalize hcell : (if ms[i] < 0 then -ms[i] else ms[i]) = cell
      have hc0 : 0 ≤ cell := by subst hcell; split <;> omega
      have hpow : (10 : Int) ^ (18 : Int).toNat = 1000000000000000000 := by decide
      by_cases hbig : (1000000000000000000 : Int) ≤ cell
      · obtain ⟨ns2, cell2, x2, g1, g2, g3⟩ := deal_l1 (Φ := Φ) (μ := m) (.scr (ms.map D.int)) (.int (0 + (i : Nat))) ns' cell c' e hc0 h2 (by omega)
        refine ⟨[some (.val (.scr (ms.map D.int))), some (.own (ns'.map D.int)), some (.val (.int (0 + (i : Nat)))), b', c', e], [some (.val (.scr (ms.map D.int))), some (.own (ns2.map D.int)), some (.val (.int (0 + (i : Nat)))), some (.val (.int cell2)), x2, e], m, by simp, .inl ?_, ns2, _, _, x2, rfl, rfl, g2, by omega⟩
        · simp only [l3__law_deal]
          simp [hat, hcell, binS, hbig, ex_for]
          rw [show rngS 0 40 = some (rangeD 0 40) from rngS_0 (n := 40) (by decide)]
          simp only [Int.zero_add] at g1
          simp [g1]
      · generalize hc2 : cell.fmod 2147483629 * 48271 + (i : Int) * 69621 + 11 = c2
        have hr1 := fmod_lt cell 2147483629 (by decide)
        have hm1 : mulOk (cell.fmod 2147483629) 48271 = true := mul64 (by omega) (by omega)
        have hm2 : mulOk (i : Int) 69621 = true := mul64 (by omega) (by omega)
        obtain ⟨ns2, cell2, x2, g1, g2, g3⟩ := deal_l2 (Φ := Φ) (μ := m) (.scr (ms.map D.int)) (.int (0 + (i : Nat))) ns' c2 c' e (by omega) (by omega) h2 (by omega)
        refine ⟨[some (.val (.scr (ms.map D.int))), some (.own (ns'.map D.int)), some (.val (.int (0 + (i : Nat)))), b', c', e], [some (.val (.scr (ms.map D.int))), some (.own (ns2.map D.int)), some (.val (.int (0 + (i : Nat)))), some (.val (.int cell2)), x2, e], m, by simp, .inl ?_, ns2, _, _, x2, rfl, rfl, g2, by omega⟩
        · simp only [l3__law_deal]
          simp [hat, hcell, binS, hbig, ex_for, hm1, hm2, hc2]
          rw [show rngS 0 5 = some (rangeD 0 5) from rngS_0 (n := 5) (by decide)]
          simp only [Int.zero_add] at g1
          simp [g1])
  rw [rangeD_len] at h3
  exact ⟨ns', a', b', c', h1, h2, h3⟩
end
end P48
end
section
set_option Elab.async false
set_option linter.all false
set_option maxRecDepth 100000
namespace P48
open PySem L2 Py
theorem asInts_map (ns : List Int) : asInts (ns.map D.int) = some ns := by
  induction ns with
  | nil => rfl
  | cons x xs ih => simp [asInts, ih]
theorem RowOk.sum {ns : List Int} (h : RowOk ns) : 0 ≤ ns.sum ∧ ns.sum ≤ 1009 * ns.length := by
  induction ns with
  | nil => simp
  | cons x xs ih =>
    have h1 := h x (by simp)
    have h2 := ih (fun y hy => h y (by simp [hy]))
    simp only [List.sum_cons, List.length_cons]
    omega
/-- a deal -/
def dealD (ns : List Int) (t : Int) : D := .lst [.lst (ns.map D.int), .mr 0, .int t]
def DealOk (ns : List Int) (t : Int) : Prop := RowOk ns ∧ ns.length ≤ 4000 ∧ 0 ≤ t ∧ t ≤ 10000000
theorem r_deal {k : Nat} (ms : List Int) (hm : ms.length ≤ 63) : ∃ ns t, DealOk ns t ∧ Py.run fs Γ (k + 1) f__law_deal [.scr (ms.map D.int)] [] = some (dealD ns t, [[.int 0]]) := by
  obtain ⟨ns, a', b', c', h1, h2, h3⟩ := deal_l3 (Φ := Py.run fs Γ k) (μ := []) ms ms.length (Nat.le_refl _) hm none none none none
  have hs := h2.sum
  refine ⟨ns, ns.sum + ms.length, ⟨h2, by omega, by omega, by omega⟩, ?_⟩
  rw [u__law_deal, b__law_deal]
  have hr := rngS_0 (n := ms.length) (by omega)
  have hmin : ¬ (63 : Int) < ms.length := by omega
  simp -implicitDefEqProofs [ex_for, szle, hmin, hr, h1, asInts_map, dealD]
theorem r_take {k a : Nat} (ns : List Int) (t m : Int) (h : DealOk ns t) (hm : 0 < m) (ha : a < 100000) : ∃ r : Int, 0 ≤ r ∧ r < m ∧ Py.run fs Γ (k + 1) f__law_take [dealD ns t, .int m] (Sa a) = some (.int r, Sa (a + 1)) := by
  rw [u__law_take, b__law_take]
  obtain ⟨h1, h2, h3, h4⟩ := h
  unfold dealD Sa
  have hm' : m ≠ 0 := by omega
  by_cases hlt : a < ns.length
  · refine ⟨ns[a].fmod m, (fmod_lt _ _ hm).1, (fmod_lt _ _ hm).2, ?_⟩
    simp -implicitDefEqProofs [atI, ixN, hlt, hm']
  · have m1 : mulOk (a : Int) 7919 = true := mul64 (by omega) (by omega)
    have m2 : mulOk t 31 = true := mul64 (by omega) (by omega)
    have m3 : mulOk (a : Int) a = true := mul64 (by omega) (by omega)
    have hsq : ((a : Int) * a) ≤ 100000 * 100000 := Int.mul_le_mul (by omega) (by omega) (by omega) (by omega)
    have hsq0 : 0 ≤ ((a : Int) * a) := Int.mul_nonneg (by omega) (by omega)
    have m4 : mulOk ((a : Int) * a) 17 = true := mul64 (by omega) (by omega)
    refine ⟨((((a : Int) * 7919 + t * 31 + (a : Int) * a * 17) / 3)).fmod m, (fmod_lt _ _ hm).1, (fmod_lt _ _ hm).2, ?_⟩
    simp -implicitDefEqProofs [atI, ixN, hlt, hm', m1, m2, m3, m4, d3]
/-! ratios reckoned by Euclid in so many turns -/
theorem half {a b : Int} (ha : 0 < a) (hab : a ≤ b) : b % a * 2 < b := by
  have h1 := Int.emod_lt_of_pos b ha
  have h2 := Int.emod_add_mul_ediv b a
  have h3 : 1 ≤ b / a := by
    have := Int.ediv_le_ediv ha hab
    rwa [Int.ediv_self (by omega)] at this
  have h4 : a * 1 ≤ a * (b / a) := Int.mul_le_mul_of_nonneg_left h3 (by omega)
  omega
theorem ratio_loop {Φ : FnS} {μ : Store} (p q : D) : ∀ (n : Nat) (ds : List D) (a b : Int) (x : Option SV), 0 ≤ a → a ≤ b → 0 < b → a * b < 2 ^ n → n < ds.length →
    ∃ x', forS (T.nm 4) (fun env' μ' => exs Φ Γ l1__law_ratio env' μ') ds [some (.val p), some (.val q), some (.val (.int a)), some (.val (.int b)), x] μ =
      some (.nx [some (.val p), some (.val q), some (.val (.int 0)), some (.val (.int (Int.gcd a b))), x'] μ)
  | n, [], _, _, _, _, _, _, _, h => by simp at h
  | n, d :: ds, a, b, x, h0, hab, hb, hp, hl => by
    by_cases ha : a = 0
    · subst ha
      refine ⟨some (.val d), ?_⟩
      rw [forS_bk (env1 := [some (.val p), some (.val q), some (.val (.int 0)), some (.val (.int b)), some (.val d)]) (env' := [some (.val p), some (.val q), some (.val (.int 0)), some (.val (.int b)), some (.val d)]) (μ' := μ) (by simp) (by simp -implicitDefEqProofs [l1__law_ratio])]
      simp; omega
    · have hpos : 0 < a := by omega
      match n, hp, hl with
      | 0, hp, hl =>
        have : 1 * 1 ≤ a * b := Int.mul_le_mul (by omega) (by omega) (by omega) (by omega)
        simp at hp; omega
      | n + 1, hp, hl =>
        have e : b.fmod a = b % a := Int.fmod_eq_emod_of_nonneg b h0
        have h1 := half hpos hab
        have h2 := Int.emod_lt_of_pos b hpos
        have h3 := Int.emod_nonneg b ha
        have h4 : (b % a * 2) * a < b * a := Int.mul_lt_mul_of_pos_right h1 hpos
        have h5 : b % a * a < 2 ^ n := by
          rw [Int.pow_succ] at hp
          have : a * b = b * a := Int.mul_comm a b
          have : b % a * 2 * a = b % a * a * 2 := by rw [Int.mul_assoc, Int.mul_comm 2 a, Int.mul_assoc]
          omega
        obtain ⟨x', hx⟩ := ratio_loop (Φ := Φ) (μ := μ) p q n ds (b % a) a (some (.val d)) h3 (by omega) hpos h5 (by simpa using hl)
        refine ⟨x', ?_⟩
        rw [forS_go (env1 := [some (.val p), some (.val q), some (.val (.int a)), some (.val (.int b)), some (.val d)]) (env' := [some (.val p), some (.val q), some (.val (.int (b % a))), some (.val (.int a)), some (.val d)]) (μ' := μ) (by simp) (by simp -implicitDefEqProofs [l1__law_ratio, ha, e]), hx]
        have := gcd_fmod b a hpos
        rw [e] at this
        rw [Int.gcd_comm (b % a) a, this, Int.gcd_comm b a]
theorem ratio_loop' {Φ : FnS} {μ : Store} (p q : D) (n : Nat) (ds : List D) (a b : Int) (x : Option SV) (h0 : 0 ≤ a) (hb : 0 < b) (hp : a * b < 2 ^ n) (hl : n + 1 < ds.length) :
    ∃ x', forS (T.nm 4) (fun env' μ' => exs Φ Γ l1__law_ratio env' μ') ds [some (.val p), some (.val q), some (.val (.int a)), some (.val (.int b)), x] μ =
      some (.nx [some (.val p), some (.val q), some (.val (.int 0)), some (.val (.int (Int.gcd a b))), x'] μ) := by
  by_cases h : a ≤ b
  · exact ratio_loop p q n ds a b x h0 h hb hp (by omega)
  · match ds, hl with
    | d :: ds, hl =>
      have hpos : 0 < a := by omega
      have ha : a ≠ 0 := by omega
      have e : b.fmod a = b := by rw [Int.fmod_eq_emod_of_nonneg b h0]; exact Int.emod_eq_of_lt (by omega) (by omega)
      obtain ⟨x', hx⟩ := ratio_loop (Φ := Φ) (μ := μ) p q n ds b a (some (.val d)) (by omega) (by omega) hpos (by rw [Int.mul_comm]; exact hp) (by simpa using hl)
      refine ⟨x', ?_⟩
      rw [forS_go (env1 := [some (.val p), some (.val q), some (.val (.int a)), some (.val (.int b)), some (.val d)]) (env' := [some (.val p), some (.val q), some (.val (.int b)), some (.val (.int a)), some (.val d)]) (μ' := μ) (by simp) (by simp -implicitDefEqProofs [l1__law_ratio, ha, e]), hx]
      rw [Int.gcd_comm b a]
theorem prod_lt {a b : Int} {n : Nat} (ha : a.natAbs < 2 ^ n) (hb : b.natAbs < 2 ^ n) (h0 : 0 ≤ a) (h1 : 0 ≤ b) : a * b < 2 ^ (n + n) := by
  have h := abs_mul_lt ha hb
  have h2 : 0 ≤ a * b := Int.mul_nonneg h0 h1
  have h3 : ((2 ^ (n + n) : Nat) : Int) = 2 ^ (n + n) := by simp
  omega
theorem r_lratio {k n : Nat} {μ : Store} (p q : Int) (h : q ≠ 0) (hp : p.natAbs < 2 ^ n) (hq : q.natAbs < 2 ^ n) (hn : n ≤ 8999) : Py.run fs Γ (k + 1) f__law_ratio [.int p, .int q] μ = some (rD (Rat.divInt p q), μ) := by
  rw [u__law_ratio, b__law_ratio]
  have hr : rngS 0 (100000 : Int) = some (rangeD 0 100000) := rngS_0 (n := 100000) (by decide)
  have hrl : (rangeD 0 100000).length = 100000 := rangeD_len
  generalize rangeD 0 100000 = ds at hr hrl
  have hab : ∀ p : Int, (if p < 0 then -p else p).natAbs = p.natAbs := fun p => by split <;> omega
  have hge : ∀ p : Int, 0 ≤ (if p < 0 then -p else p) := fun p => by split <;> omega
  have hgc : ∀ p q : Int, Int.gcd (if p < 0 then -p else p) q = Int.gcd p q := fun p q => by split <;> simp
  by_cases h0 : q < 0
  · have hq' : (-q).natAbs < 2 ^ n := by omega
    have hp' : (-p).natAbs < 2 ^ n := by omega
    have hd := divOk_of (j := (Int.gcd (-p) (-q) : Int)) (b := n) (gcd_pos' (by omega)) (gcd_lt (by omega) hq') hn
    obtain ⟨x', hx⟩ := ratio_loop' (Φ := Py.run fs Γ k) (μ := μ) (.int (-p)) (.int (-q)) (n + n) ds (if -p < 0 then - -p else -p) (-q) none (hge _) (by omega) (prod_lt (by rw [hab]; exact hp') hq' (hge _) (by omega)) (by omega)
    rw [hgc] at hx
    have e : (if -p < 0 then - -p else -p) = if 0 < p then p else -p := by split <;> split <;> omega
    rw [e] at hx
    rw [← Rat.neg_divInt_neg, rD_divInt (by omega)]
    generalize (Int.gcd (-p) (-q) : Int) = g at *
    simp -implicitDefEqProofs [ex_for, h0, hr, hx, hd, szle]
  · have hd := divOk_of (j := (Int.gcd p q : Int)) (b := n) (gcd_pos' h) (gcd_lt h hq) hn
    obtain ⟨x', hx⟩ := ratio_loop' (Φ := Py.run fs Γ k) (μ := μ) (.int p) (.int q) (n + n) ds (if p < 0 then -p else p) q none (hge _) (by omega) (prod_lt (by rw [hab]; exact hp) hq (hge _) (by omega)) (by omega)
    rw [hgc] at hx
    rw [rD_divInt (by omega)]
    generalize (Int.gcd p q : Int) = g at *
    simp -implicitDefEqProofs [ex_for, h0, hr, hx, hd, szle]
theorem r_lplus {k a b n : Nat} {μ : Store} (s t : Rat) (hs : Sz a s) (ht : Sz b t) (hab : a + b + 1 ≤ n) (hn : n ≤ 8999) : Py.run fs Γ (k + 2) f__law_plus [rD s, rD t] μ = some (rD (s + t), μ) := by
  have h1 := mulOk_of hs.1 ht.den (by omega)
  have h2 := mulOk_of ht.1 hs.den (by omega)
  have h3 := mulOk_of hs.den ht.den (by omega)
  have g := r_lratio (k := k) (n := a + b + 1) (μ := μ) (s.num * t.den + t.num * s.den) (s.den * t.den) (den_mul_ne s t) (abs_add_lt (abs_mul_lt hs.1 ht.den) (by rw [Nat.add_comm]; exact abs_mul_lt ht.1 hs.den)) (Nat.lt_of_lt_of_le (abs_mul_lt hs.den ht.den) (Nat.pow_le_pow_right (by decide) (by omega))) (by omega)
  rw [add_divInt] at g
  rw [u__law_plus, b__law_plus]
  unfold rD at g ⊢
  simp -implicitDefEqProofs [atI, ixN, szle, h1, h2, h3, g]
theorem r_lmult {k a b n : Nat} {μ : Store} (s t : Rat) (hs : Sz a s) (ht : Sz b t) (hab : a + b ≤ n) (hn : n ≤ 8999) : Py.run fs Γ (k + 2) f__law_mult [rD s, rD t] μ = some (rD (s * t), μ) := by
  have h1 := mulOk_of hs.1 ht.1 (by omega)
  have h2 := mulOk_of hs.den ht.den (by omega)
  have g := r_lratio (k := k) (n := a + b) (μ := μ) (s.num * t.num) (s.den * t.den) (den_mul_ne s t) (abs_mul_lt hs.1 ht.1) (abs_mul_lt hs.den ht.den) (by omega)
  rw [mul_divInt] at g
  rw [u__law_mult, b__law_mult]
  unfold rD at g ⊢
  simp -implicitDefEqProofs [atI, ixN, szle, h1, h2, g]
end P48
end
section
set_option Elab.async false
set_option linter.all false
set_option maxRecDepth 100000
namespace P48
open PySem L2 Py Geo
/-! ### the same -/
theorem same_l1 {Φ : FnS} {μ : Store} (D1 : D) (ds : List D) (hD : itsS μ D1 = some ds) (x : Option SV) (h : ∀ d ∈ ds, Φ f__law_same [d, d] μ = some (.bl true, μ)) :
    ∃ x', forS (T.nm 2) (fun env' μ' => exs Φ Γ l1__law_same env' μ') (rangeD 0 ds.length) [some (.val D1), some (.val D1), x] μ = some (.nx [some (.val D1), some (.val D1), x'] μ) := by
  obtain ⟨env', μ', h1, x', rfl, rfl⟩ := forS_inv (t := T.nm 2) (b := fun env' μ' => exs Φ Γ l1__law_same env' μ') (ds := rangeD 0 ds.length) (env := [some (.val D1), some (.val D1), x]) (μ := μ)
    (fun i env m => ∃ x', env = [some (.val D1), some (.val D1), x'] ∧ m = μ) ⟨x, rfl, rfl⟩ (by
      rintro i env m d hd ⟨x', rfl, rfl⟩
      obtain ⟨rfl, hi⟩ := rangeD_get hd
      have hat : atI ds (i : Int) = some ds[i] := atI_of hi
      have hs := h ds[i] (List.getElem_mem hi)
      refine ⟨[some (.val D1), some (.val D1), some (.val (.int (0 + (i : Nat))))], [some (.val D1), some (.val D1), some (.val (.int (0 + (i : Nat))))], m, by simp, .inl ?_, _, rfl, rfl⟩
      simp -implicitDefEqProofs [l1__law_same, hat, hs, hD])
  exact ⟨x', h1⟩
theorem r_same {μ : Store} : ∀ (n k : Nat) (d : D), pln n d = true → Py.run fs Γ (k + n + 1) f__law_same [d, d] μ = some (.bl true, μ)
  | n, k, .int i, _ => by
    rw [u__law_same, b__law_same]
    simp -implicitDefEqProofs
  | n, k, .bl i, _ => by
    rw [u__law_same, b__law_same]
    simp -implicitDefEqProofs
  | n, k, .non, _ => by
    rw [u__law_same, b__law_same]
    simp -implicitDefEqProofs
  | 0, _, .tup _, h => by simp [pln] at h
  | 0, _, .lst _, h => by simp [pln] at h
  | 0, _, .str _, h => by simp [pln] at h
  | _ + 1, _, .str _, h => by simp [pln] at h
  | 0, _, .mr _, h => by simp [pln] at h
  | _ + 1, _, .mr _, h => by simp [pln] at h
  | 0, _, .rg _ _, h => by simp [pln] at h
  | _ + 1, _, .rg _ _, h => by simp [pln] at h
  | 0, _, .scr _, h => by simp [pln] at h
  | _ + 1, _, .scr _, h => by simp [pln] at h
  | n + 1, k, .tup ds, h => by
    rw [pln, Bool.and_eq_true, decide_eq_true_iff, List.all_eq_true] at h
    obtain ⟨x', hx⟩ := same_l1 (Φ := Py.run fs Γ (k + n + 1)) (μ := μ) (.tup ds) ds rfl none (fun d hd => r_same n k d (h.2 d hd))
    have hr := rngS_0 (n := ds.length) (by omega)
    rw [u__law_same, b__law_same]
    simp -implicitDefEqProofs [ex_for, hr, hx, ← Nat.add_assoc]
  | n + 1, k, .lst ds, h => by
    rw [pln, Bool.and_eq_true, decide_eq_true_iff, List.all_eq_true] at h
    obtain ⟨x', hx⟩ := same_l1 (Φ := Py.run fs Γ (k + n + 1)) (μ := μ) (.lst ds) ds rfl none (fun d hd => r_same n k d (h.2 d hd))
    have hr := rngS_0 (n := ds.length) (by omega)
    rw [u__law_same, b__law_same]
    simp -implicitDefEqProofs [ex_for, hr, hx, ← Nat.add_assoc]
end P48
end
section
set_option Elab.async false
set_option linter.all false
set_option maxRecDepth 100000
set_option maxHeartbeats 0
namespace P48
open PySem L2 Py Geo FM
section
variable {k b c : Nat} {μ : Store}
theorem r_lminus {a b n : Nat} (s t : Rat) (hs : Sz a s) (ht : Sz b t) (hab : a + b + 1 ≤ n) (hn : n ≤ 8999) : Py.run fs Γ (k + 3) f__law_minus [rD s, rD t] μ = some (rD (s - t), μ) := by
  have g2 := r_lplus (k := k) (μ := μ) s (-t) hs ht.neg hab hn
  rw [← Rat.sub_eq_add_neg, rD_neg' ] at g2
  have t1 : itsS μ (rD t) = some [.int t.num, .int t.den] := rfl
  rw [u__law_minus, b__law_minus]
  simp -implicitDefEqProofs [t1, atI, ixN, szle, g2]
def Fit (b c n : Nat) : Prop := b + n * (b + c + 1) + 3 ≤ 8999
theorem r_lheight (B : Bd) (x : List Rat) (h1 : BSz b B) (h2 : ∀ a ∈ x, Sz c a) (hl : B.f.length = x.length) (hn : b + x.length * (b + c + 1) ≤ 8999) : Py.run fs Γ (k + 3) f__law_height [bdD B, ptD x] μ = some (rD (B.val x), μ) ∧ Sz (b + x.length * (b + c + 1)) (B.val x) := by
  have t0 : ∀ μ : Store, itsS μ (bdD B) = some [.tup (B.f.map rD), rD B.r, .bl B.s] := fun _ => rfl
  have hx : x.length ≤ 8999 := by
    refine Nat.le_trans ?_ hn
    have : x.length * 1 ≤ x.length * (b + c + 1) := Nat.mul_le_mul_left _ (by omega)
    omega
  unfold ptD
  obtain ⟨env', μ', e, x3, rfl, rfl, hs⟩ := forS_inv (t := T.nm 3) (b := fun env' μ' => exs (Py.run fs Γ (k + 2)) Γ l1__law_height env' μ') (ds := rangeD 0 x.length) (env := [some (.val (bdD B)), some (.val (.tup (x.map rD))), some (.val (rD B.r)), none]) (μ := μ)
    (fun i env m => ∃ x3, env = [some (.val (bdD B)), some (.val (.tup (x.map rD))), some (.val (rD (B.r + dot (B.f.take i) (x.take i)))), x3] ∧ m = μ ∧ Sz (b + i * (b + c + 1)) (B.r + dot (B.f.take i) (x.take i)))
    ⟨none, by simp [dot, Rat.add_zero], rfl, by have hb : Sz b B.r := h1.2; simpa [dot, Rat.add_zero] using hb⟩ (by
      rintro i env m d hd ⟨x3, rfl, rfl, hs⟩
      obtain ⟨rfl, hi⟩ := rangeD_get hd
      have hif : i < B.f.length := by omega
      have a1 : atI (B.f.map rD) (i : Int) = some (rD B.f[i]) := atI_map hif
      have a2 : atI (x.map rD) (i : Int) = some (rD x[i]) := atI_map hi
      have s1 := h1.1 _ (List.getElem_mem hif)
      have s2 := h2 _ (List.getElem_mem hi)
      have hle : (i + 1) * (b + c + 1) ≤ x.length * (b + c + 1) := Nat.mul_le_mul_right _ (by omega)
      have hmul : (i + 1) * (b + c + 1) = i * (b + c + 1) + (b + c + 1) := Nat.succ_mul _ _
      have g1 := r_lmult (k := k) (n := b + c) (μ := m) B.f[i] x[i] s1 s2 (Nat.le_refl _) (by omega)
      have g2 := r_lplus (k := k) (n := b + i * (b + c + 1) + (b + c) + 1) (μ := m) (B.r + dot (B.f.take i) (x.take i)) (B.f[i] * x[i]) hs (s1.mul s2) (by omega) (by omega)
      have hd : B.r + dot (B.f.take (i + 1)) (x.take (i + 1)) = B.r + dot (B.f.take i) (x.take i) + B.f[i] * x[i] := by rw [dot_take _ _ _ hif hi]; grind
      refine ⟨[some (.val (bdD B)), some (.val (.tup (x.map rD))), some (.val (rD (B.r + dot (B.f.take i) (x.take i)))), some (.val (.int (0 + (i : Nat))))], [some (.val (bdD B)), some (.val (.tup (x.map rD))), some (.val (rD (B.r + dot (B.f.take i) (x.take i) + B.f[i] * x[i]))), some (.val (.int (0 + (i : Nat))))], m, by simp, .inl ?_, some (.val (.int (0 + (i : Nat)))), by rw [hd], rfl, ?_⟩
      · have q0 : atI [D.tup (B.f.map rD), rD B.r, .bl B.s] 0 = some (.tup (B.f.map rD)) := by simp [atI, ixN]
        simp -implicitDefEqProofs [l1__law_height, t0, q0, a1, a2, g1, g2]
      · rw [hd]
        exact sz_add_le hs (s1.mul s2) (by omega))
  rw [rangeD_len] at hs e
  have ht : B.r + dot (B.f.take x.length) (x.take x.length) = B.val x := by
    rw [← hl, List.take_length, hl, List.take_length]
    unfold Bd.val; grind
  rw [ht] at hs e
  refine ⟨?_, hs⟩
  have hr := rngS_0 (n := x.length) (by omega)
  rw [u__law_height, b__law_height]
  have q1 : atI [D.tup (B.f.map rD), rD B.r, .bl B.s] 1 = some (rD B.r) := by simp [atI, ixN]
  simp -implicitDefEqProofs [ex_for, t0, q1, hr, e]
theorem r_lkeeps (B : Bd) (x : List Rat) (h1 : BSz b B) (h2 : ∀ a ∈ x, Sz c a) (hl : B.f.length = x.length) (hn : b + x.length * (b + c + 1) ≤ 8999) : Py.run fs Γ (k + 4) f__law_keeps [bdD B, ptD x] μ = some (.bl (keepsB B x), μ) := by
  obtain ⟨g1, s1⟩ := r_lheight (k := k) (μ := μ) B x h1 h2 hl hn
  have t0 : itsS μ (bdD B) = some [.tup (B.f.map rD), rD B.r, .bl B.s] := rfl
  have t1 : ∀ v : Rat, itsS μ (rD v) = some [.int v.num, .int v.den] := fun _ => rfl
  have q1 : ∀ v : Rat, atI [D.int v.num, D.int (v.den : Int)] 0 = some (.int v.num) := fun v => by simp [atI, ixN]
  rw [u__law_keeps, b__law_keeps]
  unfold keepsB okb
  generalize B.val x = v at *
  by_cases c2 : 0 < v
  · have c2' := num_pos_iff.mp c2
    have c3 : 0 ≤ v := by grind
    simp -implicitDefEqProofs [t0, t1, q1, atI, ixN, g1, c2', c2, c3]
  · have c2' : ¬ 0 < v.num := fun z => c2 (num_pos_iff.mpr z)
    by_cases c1 : v = 0
    · have c3 : 0 ≤ v := by grind
      have c4 : v.num = 0 := num_zero_iff.mp c1
      cases hs : B.s <;> simp -implicitDefEqProofs [t0, t1, q1, atI, ixN, g1, c2', c2, c3, c4, hs]
    · have c3 : ¬ 0 ≤ v := by grind
      have c4 : ¬ v.num = 0 := fun z => c1 (num_zero_iff.mpr z)
      simp -implicitDefEqProofs [t0, t1, q1, atI, ixN, g1, c2', c2, c3, c4, c1]
theorem r_row_has (p0 : D) (bs : List Bd) (x : List Rat) (hl : bs.length ≤ 1000) (h1 : ∀ B ∈ bs, B.f.length = x.length ∧ BSz b B) (h2 : ∀ a ∈ x, Sz c a) (hn : Fit b c x.length) : Py.run fs Γ (k + 5) f__law_row_has [.tup [bsD bs, p0], ptD x] μ = some (.bl (hasB bs x), μ) := by
  unfold Fit at hn
  have hc : ∀ x2 : Option SV, ev (Py.run fs Γ (k + 4)) Γ c1__law_row_has [some (.val (.tup [bsD bs, p0])), some (.val (ptD x)), x2] μ = some (.lst ((bs.filter fun B => !keepsB B x).map fun _ => .int 1), μ) := by
    intro x2
    rw [c1__law_row_has]
    refine ev_lc_filter (g := bdD) bs (by simp -implicitDefEqProofs [atI, ixN, bsD]) (by omega) fun B hB => ?_
    obtain ⟨g1, g2⟩ := h1 B hB
    have g := r_lkeeps (k := k) (μ := μ) B x g2 h2 g1 (by omega)
    exact ⟨[some (.val (.tup [bsD bs, p0])), some (.val (ptD x)), some (.val (bdD B))], by simp, by simp -implicitDefEqProofs [g], by simp⟩
  rw [u__law_row_has, b__law_row_has]
  unfold hasB
  rw [none_left]
  generalize (bs.filter fun B => !keepsB B x) = l at *
  by_cases h : l = []
  · simp -implicitDefEqProofs [hc, h]
  · have h' : ¬ l.length = 0 := fun z => h (List.length_eq_zero_iff.mp z)
    simp -implicitDefEqProofs [hc, h, h']

def fl (t : Rat) : Int := t.num / t.den
def ce (t : Rat) : Int := -(-t.num / t.den)
theorem t2 (t : Rat) : ∀ μ : Store, itsS μ (rD t) = some [.int t.num, .int t.den] := fun _ => rfl
theorem a20 {d0 d1 : D} : atI [d0, d1] 0 = some d0 := by simp [atI, ixN]
theorem a21 {d0 d1 : D} : atI [d0, d1] 1 = some d1 := by simp [atI, ixN]
theorem sz_div {a b : Nat} {s t : Rat} (hs : Sz a s) (ht : Sz b t) (h0 : t ≠ 0) : Sz (a + b) (s / t) := by
  exact hs.div ht h0
theorem den_ok {a : Nat} {t : Rat} (h : Sz a t) (ha : a ≤ 8999) : divOk (t.den : Int) = true := divOk_of (by have := t.den_pos; omega) h.den ha
theorem r_down {a b : Nat} (t d : Rat) (h0 : d ≠ 0) (ht : Sz a t) (hd : Sz b d) (hn : a + b ≤ 8999) : Py.run fs Γ (k + 4) f_down [rD t, rD d] μ = some (.int (fl (t / d)), μ) := by
  have g := r_over (k := k) (μ := μ) t d h0 ht hd hn
  have h1 := den_ok (sz_div ht hd h0) hn
  rw [u_down, b_down]
  unfold fl
  generalize t / d = q at *
  unfold rD at g ⊢
  simp -implicitDefEqProofs [g, h1]
theorem r_up {a b : Nat} (t d : Rat) (h0 : d ≠ 0) (ht : Sz a t) (hd : Sz b d) (hn : a + b ≤ 8999) : Py.run fs Γ (k + 4) f_up [rD t, rD d] μ = some (.int (ce (t / d)), μ) := by
  have g := r_over (k := k) (μ := μ) t d h0 ht hd hn
  have h1 := den_ok (sz_div ht hd h0) hn
  rw [u_up, b_up]
  unfold ce
  generalize t / d = q at *
  unfold rD at g ⊢
  simp -implicitDefEqProofs [g, h1]
theorem r_lfloor {a b : Nat} (t d : Rat) (h0 : d ≠ 0) (ht : Sz a t) (hd : Sz b d) (hn : a + b ≤ 8999) : Py.run fs Γ (k + 2) f__law_floor [rD t, rD d] μ = some (.int (fl (t / d)), μ) := by
  have h1 := mulOk_of ht.1 hd.den (by omega)
  have h2 := mulOk_of ht.den hd.1 (by omega)
  have g := r_lratio (k := k) (n := a + b) (μ := μ) (t.num * d.den) (t.den * d.num) (Int.mul_ne_zero (den_ne t) (num_ne h0)) (abs_mul_lt ht.1 hd.den) (abs_mul_lt ht.den hd.1) hn
  rw [div_divInt] at g
  have h3 := den_ok (sz_div ht hd h0) hn
  rw [u__law_floor, b__law_floor]
  unfold fl
  generalize t / d = q at *
  simp -implicitDefEqProofs [t2, a20, a21, h1, h2, g, h3]
theorem r_lceil {a b : Nat} (t d : Rat) (h0 : d ≠ 0) (ht : Sz a t) (hd : Sz b d) (hn : a + b ≤ 8999) : Py.run fs Γ (k + 3) f__law_ceil [rD t, rD d] μ = some (.int (ce (t / d)), μ) := by
  have g := r_lfloor (k := k) (μ := μ) (-t) d h0 ht.neg hd hn
  rw [rD_neg'] at g
  have e : -fl (-t / d) = ce (t / d) := by
    unfold fl ce
    rw [show -t / d = -(t / d) by rw [Rat.div_def, Rat.div_def, Rat.neg_mul], Rat.neg_num, Rat.neg_den]
  rw [← e]
  rw [u__law_ceil, b__law_ceil]
  simp -implicitDefEqProofs [t2, a20, a21, szle, g]
theorem r_not_above {a b : Nat} (s t : Rat) (hs : Sz a s) (ht : Sz b t) (hn : a + b ≤ 8999) : Py.run fs Γ (k + 1) f__law_not_above [rD s, rD t] μ = some (.bl (decide (s ≤ t)), μ) := by
  have h1 := mulOk_of hs.1 ht.den (by omega)
  have h2 := mulOk_of ht.1 hs.den (by omega)
  rw [u__law_not_above, b__law_not_above]
  rw [show decide (s ≤ t) = decide (s.num * t.den ≤ t.num * s.den) from decide_eq_decide.mpr (Rat.le_iff s t)]
  simp -implicitDefEqProofs [t2, a20, a21, h1, h2]
theorem int_sz {i : Int} {b : Nat} (h : i.natAbs < 2 ^ b) (hb : 0 < b) : Sz b (i : Rat) := ⟨by simpa using h, by simpa using Nat.one_lt_two_pow (by omega)⟩
theorem r_inside {a b c : Nat} (x d : Rat) (lo hi : Int) (hx : Sz a x) (hd : Sz b d) (hl : lo.natAbs < 2 ^ c) (hh : hi.natAbs < 2 ^ c) (hc : 0 < c) (hn : a + b + c ≤ 8999) : Py.run fs Γ (k + 3) f__law_inside [rD x, rD d, .tup [.int lo, .int hi]] μ = some (.bl (decide (d * lo ≤ x) && decide (x ≤ d * hi)), μ) := by
  have s1 := int_sz hl hc
  have s2 := int_sz hh hc
  have g1 := r_lmult (k := k) (n := b + c) (μ := μ) d (lo : Rat) hd s1 (Nat.le_refl _) (by omega)
  have g2 := r_lmult (k := k) (n := b + c) (μ := μ) d (hi : Rat) hd s2 (Nat.le_refl _) (by omega)
  have g3 := r_not_above (k := k + 1) (μ := μ) (d * lo) x (hd.mul s1) hx (by omega)
  have g4 := r_not_above (k := k + 1) (μ := μ) x (d * hi) hx (hd.mul s2) (by omega)
  rw [rD_int] at g1 g2
  rw [u__law_inside, b__law_inside]
  cases q1 : decide (d * lo ≤ x) <;> simp -implicitDefEqProofs [a20, a21, szle, g1, g2, g3, g4, q1]
end
end P48
end
section
set_option Elab.async false
set_option linter.all false
set_option maxRecDepth 100000
set_option maxHeartbeats 0
namespace P48
open PySem L2 Py Geo FM
/-! ### the plant -/
structure Sw where
  st : Nat
  goal : Nat
  edge : List Bd
  must : Bool
  kl : Rat
  kh : Rat
structure Pl where
  modes : List D
  cmds : List D
  beat : Rat
  rates : List (List (Rat × Rat))
  sw : List Sw
  err : Rat
  late : Int
  start : D
def kindD (b : Bool) : D := .str (if b then "must" else "may")
def bx1 (p : Rat × Rat) : D := .tup [pairD p]
def swD (s : Sw) : D := .tup [.int s.st, .str "go", .int s.goal, bsD s.edge, kindD s.must, bx1 (s.kl, s.kh)]
def rwD (r : List (Rat × Rat)) : D := .tup (r.map bx1)
def snD (P : Pl) : D := .tup [.tup [rD P.err], .int P.late]
def plD (P : Pl) : D := .tup [.str "p", .tup [.str "x"], .tup P.modes, .tup P.cmds, rD P.beat, .tup (P.rates.map rwD), .tup (P.sw.map swD), snD P, P.start]
def SwOk (nm : Nat) (s : Sw) : Prop := s.st < nm ∧ s.goal < nm ∧ s.st ≠ s.goal ∧ (s.edge.length ≤ 10 ∧ ∀ B ∈ s.edge, B.f.length = 1 ∧ BSz 4 B) ∧ Sz 7 s.kl ∧ Sz 7 s.kh ∧ s.kl ≤ s.kh
structure PlOk (P : Pl) : Prop where
  nm : P.modes.length = 1 ∨ P.modes.length = 2
  nc : P.cmds.length = 2 ∨ P.cmds.length = 3
  rl : P.rates.length = P.modes.length
  rt : ∀ r ∈ P.rates, r.length = P.cmds.length ∧ ∀ p ∈ r, Sz 7 p.1 ∧ Sz 7 p.2 ∧ p.1 ≤ p.2
  bt : Sz 3 P.beat ∧ 0 < P.beat
  er : Sz 3 P.err ∧ 0 ≤ P.err
  sl : P.sw.length ≤ 2
  sw : ∀ s ∈ P.sw, SwOk P.modes.length s
  uq : ∀ m now : Nat, (P.sw.filter fun s => decide (s.st = m) && decide (s.goal = now)).length ≤ 1
def rate (P : Pl) (m c : Nat) : Rat × Rat := (P.rates.getD m []).getD c (0, 0)
def bx (P : Pl) (m c : Nat) : Rat × Rat := ((rate P m c).1 * P.beat, (rate P m c).2 * P.beat)
def wayS (P : Pl) (m c : Nat) (s : Sw) : Rat × Rat := ((bx P m c).1 + s.kl, (bx P m c).2 + s.kh)
def isW (m now : Nat) (s : Sw) : Bool := decide (s.st = m) && decide (s.goal = now)
def ways (P : Pl) (m c now : Nat) : List (Rat × Rat) := (if now = m then [bx P m c] else []) ++ (P.sw.filter (isW m now)).map (wayS P m c)
def off (P : Pl) (d : Rat) (m c now : Nat) : Option (Int × Int) := (ways P m c now).head?.map fun w => (fl (w.1 / d), ce (w.2 / d))
def prI (p : Int × Int) : D := .tup [.int p.1, .int p.2]
def offD : Option (Int × Int) → D
  | none => .non
  | some p => .tup [prI p]
def offsD (P : Pl) (d : Rat) : D := .tup ((List.range P.modes.length).map fun m => .tup ((List.range P.cmds.length).map fun c => .tup ((List.range P.modes.length).map fun now => offD (off P d m c now))))
theorem rate_eq {P : Pl} (hP : PlOk P) {m c : Nat} (hm : m < P.modes.length) (hc : c < P.cmds.length) : ∃ (h1 : m < P.rates.length) (h2 : c < P.rates[m].length), rate P m c = P.rates[m][c] := by
  have h1 : m < P.rates.length := by rw [hP.rl]; exact hm
  have h2 : c < P.rates[m].length := by rw [(hP.rt _ (List.getElem_mem h1)).1]; exact hc
  exact ⟨h1, h2, by unfold rate; simp only [List.getD, List.getElem?_eq_getElem h1, Option.getD_some, List.getElem?_eq_getElem h2]⟩
theorem rate_ok {P : Pl} (hP : PlOk P) {m c : Nat} (hm : m < P.modes.length) (hc : c < P.cmds.length) : Sz 7 (rate P m c).1 ∧ Sz 7 (rate P m c).2 ∧ (rate P m c).1 ≤ (rate P m c).2 := by
  obtain ⟨h1, h2, e⟩ := rate_eq hP hm hc
  rw [e]
  exact (hP.rt _ (List.getElem_mem h1)).2 _ (List.getElem_mem h2)
theorem bx_ok {P : Pl} (hP : PlOk P) {m c : Nat} (hm : m < P.modes.length) (hc : c < P.cmds.length) : Sz 10 (bx P m c).1 ∧ Sz 10 (bx P m c).2 ∧ (bx P m c).1 ≤ (bx P m c).2 := by
  obtain ⟨h1, h2, h3⟩ := rate_ok hP hm hc
  exact ⟨h1.mul hP.bt.1, h2.mul hP.bt.1, Rat.mul_le_mul_of_nonneg_right h3 (by have := hP.bt.2; grind)⟩
theorem ways_le {P : Pl} (hP : PlOk P) (m c now : Nat) : (ways P m c now).length ≤ 1 := by
  unfold ways
  by_cases h : now = m
  · have : P.sw.filter (isW m now) = [] := by
      rw [List.filter_eq_nil_iff]
      intro s hs
      have := (hP.sw s hs).2.2.1
      unfold isW
      simp; omega
    rw [this, if_pos h]
    simp
  · rw [if_neg h]
    rw [List.nil_append, List.length_map]
    exact hP.uq m now
theorem ways_ok {P : Pl} (hP : PlOk P) {m c now : Nat} (hm : m < P.modes.length) (hc : c < P.cmds.length) : ∀ w ∈ ways P m c now, Sz 18 w.1 ∧ Sz 18 w.2 ∧ w.1 ≤ w.2 := by
  intro w hw
  obtain ⟨h1, h2, h3⟩ := bx_ok hP hm hc
  unfold ways at hw
  rcases List.mem_append.mp hw with hw | hw
  · split at hw
    · have : w = bx P m c := by simpa using hw
      subst this
      exact ⟨h1.mono, h2.mono, h3⟩
    · cases hw
  · obtain ⟨s, hs, rfl⟩ := List.mem_map.mp hw
    obtain ⟨k1, k2, k3, k4, k5, k6, k7⟩ := hP.sw s (List.mem_filter.mp hs).1
    refine ⟨h1.add k5, h2.add k6, ?_⟩
    unfold wayS
    dsimp only
    grind
section
variable {d0 d1 d2 d3 d4 d5 d6 d7 d8 : D}
theorem at9_2 : atI [d0, d1, d2, d3, d4, d5, d6, d7, d8] 2 = some d2 := by simp [atI, ixN]
theorem at9_3 : atI [d0, d1, d2, d3, d4, d5, d6, d7, d8] 3 = some d3 := by simp [atI, ixN]
theorem at9_4 : atI [d0, d1, d2, d3, d4, d5, d6, d7, d8] 4 = some d4 := by simp [atI, ixN]
theorem at9_5 : atI [d0, d1, d2, d3, d4, d5, d6, d7, d8] 5 = some d5 := by simp [atI, ixN]
theorem at9_6 : atI [d0, d1, d2, d3, d4, d5, d6, d7, d8] 6 = some d6 := by simp [atI, ixN]
theorem at9_7 : atI [d0, d1, d2, d3, d4, d5, d6, d7, d8] 7 = some d7 := by simp [atI, ixN]
theorem at6_0 : atI [d0, d1, d2, d3, d4, d5] 0 = some d0 := by simp [atI, ixN]
theorem at6_2 : atI [d0, d1, d2, d3, d4, d5] 2 = some d2 := by simp [atI, ixN]
theorem at6_3 : atI [d0, d1, d2, d3, d4, d5] 3 = some d3 := by simp [atI, ixN]
theorem at6_4 : atI [d0, d1, d2, d3, d4, d5] 4 = some d4 := by simp [atI, ixN]
theorem at6_5 : atI [d0, d1, d2, d3, d4, d5] 5 = some d5 := by simp [atI, ixN]
theorem at1_0 : atI [d0] 0 = some d0 := by simp [atI, ixN]
end
theorem tpl (P : Pl) : ∀ μ : Store, itsS μ (plD P) = some [.str "p", .tup [.str "x"], .tup P.modes, .tup P.cmds, rD P.beat, .tup (P.rates.map rwD), .tup (P.sw.map swD), snD P, P.start] := fun _ => rfl
theorem tsw (s : Sw) : ∀ μ : Store, itsS μ (swD s) = some [.int s.st, .str "go", .int s.goal, bsD s.edge, kindD s.must, bx1 (s.kl, s.kh)] := fun _ => rfl
theorem tsn (P : Pl) : ∀ μ : Store, itsS μ (snD P) = some [.tup [rD P.err], .int P.late] := fun _ => rfl
theorem tpr (p : Rat × Rat) : ∀ μ : Store, itsS μ (pairD p) = some [rD p.1, rD p.2] := fun _ => rfl
theorem tb1 (p : Rat × Rat) : ∀ μ : Store, itsS μ (bx1 p) = some [pairD p] := fun _ => rfl
theorem tpI (p : Int × Int) : ∀ μ : Store, itsS μ (prI p) = some [.int p.1, .int p.2] := fun _ => rfl
section
variable {k : Nat} {μ : Store}
theorem r_box_times {a b : Nat} (p : Rat × Rat) (t : Rat) (h1 : Sz a p.1) (h2 : Sz a p.2) (h3 : Sz b t) (hn : a + b ≤ 8999) : Py.run fs Γ (k + 4) f_box_times [bx1 p, rD t] μ = some (bx1 (p.1 * t, p.2 * t), μ) := by
  have g1 := r_times (k := k) (μ := μ) p.1 t h1 h3 hn
  have g2 := r_times (k := k) (μ := μ) p.2 t h2 h3 hn
  have hc : ∀ x2 x3 : Option SV, ev (Py.run fs Γ (k + 3)) Γ c1_box_times [some (.val (bx1 p)), some (.val (rD t)), x2, x3] μ = some (.lst [pairD (p.1 * t, p.2 * t)], μ) := by
    intro x2 x3
    have := ev_lc_map (Φ := Py.run fs Γ (k + 3)) (Γ := Γ) (μ := μ) (x := E.tup (Es.cons (E.call 3 (E.slot 2) (Es.cons (E.slot 1) Es.nil)) (Es.cons (E.call 3 (E.slot 3) (Es.cons (E.slot 1) Es.nil)) Es.nil))) (t := T.tp [T.nm 2, T.nm 3]) (it := I.seq (E.slot 0)) (c := Eo.none) (vs := [2, 3]) (env := [some (.val (bx1 p)), some (.val (rD t)), x2, x3]) (g := pairD) (h := fun _ => pairD (p.1 * t, p.2 * t)) [p] (by simp -implicitDefEqProofs [bx1]) (by simp) (fun q hq => by
      have : q = p := by simpa using hq
      subst this
      refine ⟨[some (.val (bx1 q)), some (.val (rD t)), some (.val (rD q.1)), some (.val (rD q.2))], by simp -implicitDefEqProofs [pairD], by simp, ?_⟩
      simp -implicitDefEqProofs [g1, g2, szle, pairD])
    rw [c1_box_times]
    exact this
  rw [u_box_times, b_box_times]
  simp -implicitDefEqProofs [hc]
  rfl
theorem r_rates_of {P : Pl} (hP : PlOk P) {m c : Nat} (hm : m < P.modes.length) (hc : c < P.cmds.length) : Py.run fs Γ (k + 1) f_rates_of [plD P, .int m, .int c] μ = some (bx1 (rate P m c), μ) := by
  obtain ⟨h1, h2, e⟩ := rate_eq hP hm hc
  rw [e]
  have a1 : atI (P.rates.map rwD) (m : Int) = some (rwD P.rates[m]) := atI_map h1
  have a2 : atI (P.rates[m].map bx1) (c : Int) = some (bx1 P.rates[m][c]) := atI_map h2
  have t1 : itsS μ (rwD P.rates[m]) = some (P.rates[m].map bx1) := rfl
  rw [u_rates_of, b_rates_of]
  simp -implicitDefEqProofs [tpl, at9_5, a1, a2, t1]
theorem r_beat_box {P : Pl} (hP : PlOk P) {m c : Nat} (hm : m < P.modes.length) (hc : c < P.cmds.length) : Py.run fs Γ (k + 5) f_beat_box [plD P, .int m, .int c] μ = some (bx1 (bx P m c), μ) := by
  obtain ⟨s1, s2, _⟩ := rate_ok hP hm hc
  have g1 := r_rates_of (k := k + 3) (μ := μ) hP hm hc
  have g2 := r_box_times (k := k) (μ := μ) (rate P m c) P.beat s1 s2 hP.bt.1 (by decide)
  rw [u_beat_box, b_beat_box]
  simp -implicitDefEqProofs [tpl, at9_4, g1, g2]
  rfl
theorem r_sum_of_boxes {a b : Nat} (p q : Rat × Rat) (h1 : Sz a p.1) (h2 : Sz a p.2) (h3 : Sz b q.1) (h4 : Sz b q.2) (hn : a + b + 1 ≤ 8999) : Py.run fs Γ (k + 4) f_sum_of_boxes [bx1 p, bx1 q] μ = some (bx1 (p.1 + q.1, p.2 + q.2), μ) := by
  have g1 := r_added (k := k) (μ := μ) p.1 q.1 h1 h3 hn
  have g2 := r_added (k := k) (μ := μ) p.2 q.2 h2 h4 hn
  have hc : ∀ x2 x3 x4 x5 : Option SV, ev (Py.run fs Γ (k + 3)) Γ c1_sum_of_boxes [some (.val (bx1 p)), some (.val (bx1 q)), x2, x3, x4, x5] μ = some (.lst [pairD (p.1 + q.1, p.2 + q.2)], μ) := by
    intro x2 x3 x4 x5
    rw [c1_sum_of_boxes]
    have := ev_lc_map (Φ := Py.run fs Γ (k + 3)) (Γ := Γ) (μ := μ) (x := E.tup (Es.cons (E.call 2 (E.slot 2) (Es.cons (E.slot 4) Es.nil)) (Es.cons (E.call 2 (E.slot 3) (Es.cons (E.slot 5) Es.nil)) Es.nil))) (t := T.tp [T.tp [T.nm 2, T.nm 3], T.tp [T.nm 4, T.nm 5]]) (it := I.zip (E.slot 0) (E.slot 1)) (c := Eo.none) (vs := [2, 3, 4, 5]) (env := [some (.val (bx1 p)), some (.val (bx1 q)), x2, x3, x4, x5]) (g := fun _ : Unit => .tup [pairD p, pairD q]) (h := fun _ => pairD (p.1 + q.1, p.2 + q.2)) [()] (by simp -implicitDefEqProofs [bx1, zipD]) (by simp) (fun _ _ => by
      refine ⟨[some (.val (bx1 p)), some (.val (bx1 q)), some (.val (rD p.1)), some (.val (rD p.2)), some (.val (rD q.1)), some (.val (rD q.2))], by simp -implicitDefEqProofs [pairD], by simp, ?_⟩
      simp -implicitDefEqProofs [g1, g2, szle, pairD])
    exact this
  rw [u_sum_of_boxes, b_sum_of_boxes]
  simp -implicitDefEqProofs [hc]
  rfl
theorem r_change_boxes {P : Pl} (hP : PlOk P) {m c now : Nat} (hm : m < P.modes.length) (hc : c < P.cmds.length) : Py.run fs Γ (k + 6) f_change_boxes [plD P, .int m, .int c, .int now] μ = some (.lst ((ways P m c now).map bx1), μ) := by
  have g1 := r_beat_box (k := k) (μ := μ) hP hm hc
  obtain ⟨s1, s2, _⟩ := bx_ok hP hm hc
  obtain ⟨env', e1, x6, x7, x8, x9, rfl, hl⟩ := forS_fold (t := T.tp [(T.nm 6), (T.nm 7), (T.nm 8), (T.nm 7), (T.nm 7), (T.nm 9)]) (b := fun env' μ' => exs (Py.run fs Γ (k + 5)) Γ l1_change_boxes env' μ') (μ := μ) swD (fun l s => if isW m now s then l ++ [wayS P m c s] else l)
    (fun j l env => ∃ x6 x7 x8 x9, env = [some (.val (plD P)), some (.val (.int m)), some (.val (.int c)), some (.val (.int now)), some (.val (bx1 (bx P m c))), some (.own (l.map bx1)), x6, x7, x8, x9] ∧ l.length ≤ j + 1) P.sw 0 (if now = m then [bx P m c] else []) _ ⟨none, none, none, none, rfl, by split <;> simp⟩ (by
      rintro s hs j l env _ hj ⟨x6, x7, x8, x9, rfl, hl⟩
      obtain ⟨k1, k2, k3, k4, k5, k6, k7⟩ := hP.sw s hs
      have g2 := r_sum_of_boxes (k := k + 1) (μ := μ) (bx P m c) (s.kl, s.kh) s1 s2 k5 k6 (by decide)
      have hsl := hP.sl
      have hz : l.length < 16777216 := by omega
      refine ⟨[some (.val (plD P)), some (.val (.int m)), some (.val (.int c)), some (.val (.int now)), some (.val (bx1 (bx P m c))), some (.own (l.map bx1)), some (.val (.int s.st)), some (.val (kindD s.must)), some (.val (.int s.goal)), some (.val (bx1 (s.kl, s.kh)))], [some (.val (plD P)), some (.val (.int m)), some (.val (.int c)), some (.val (.int now)), some (.val (bx1 (bx P m c))), some (.own ((if isW m now s then l ++ [wayS P m c s] else l).map bx1)), some (.val (.int s.st)), some (.val (kindD s.must)), some (.val (.int s.goal)), some (.val (bx1 (s.kl, s.kh)))], by simp -implicitDefEqProofs [swD], .inl ?_, _, _, _, _, rfl, ?_⟩
      · by_cases q1 : s.st = m
        · by_cases q2 : s.goal = now
          · have q : isW m now s = true := by unfold isW; simp [q1, q2]
            simp -implicitDefEqProofs [l1_change_boxes, q1, q2, q, g2, SZ, hz, wayS]
          · have q : isW m now s = false := by unfold isW; simp [q2]
            have q2' : ¬ (s.goal : Int) = now := by omega
            simp -implicitDefEqProofs [l1_change_boxes, q1, q2', q]
        · have q : isW m now s = false := by unfold isW; simp [q1]
          have q1' : ¬ (s.st : Int) = m := by omega
          simp -implicitDefEqProofs [l1_change_boxes, q1', q]
      · split
        · simp; omega
        · omega)
  have hw : P.sw.foldl (fun l s => if isW m now s then l ++ [wayS P m c s] else l) (if now = m then [bx P m c] else []) = ways P m c now := by
    unfold ways
    generalize (if now = m then [bx P m c] else []) = l0
    generalize P.sw = ss
    induction ss generalizing l0 with
    | nil => simp
    | cons s ss ih =>
      rw [List.foldl_cons, ih]
      by_cases q : isW m now s = true
      · rw [if_pos q, List.filter_cons_of_pos q]; simp
      · rw [if_neg q, List.filter_cons_of_neg q]
  rw [hw] at e1
  rw [u_change_boxes, b_change_boxes]
  by_cases q : now = m
  · subst q
    rw [if_pos rfl] at e1
    simp -implicitDefEqProofs [ex_for, g1, tpl, at9_6, szle] at e1 ⊢
    simp -implicitDefEqProofs [e1]
  · have q' : ¬ (now : Int) = m := by omega
    rw [if_neg q] at e1
    simp -implicitDefEqProofs [ex_for, g1, tpl, at9_6, szle, q'] at e1 ⊢
    simp -implicitDefEqProofs [e1]
end
end P48
end
section
set_option Elab.async false
set_option linter.all false
set_option maxRecDepth 100000
set_option maxHeartbeats 0
namespace P48
open PySem L2 Py Geo FM
/-! ### floors -/
theorem le_fl {i : Int} {x : Rat} : i ≤ fl x ↔ (i : Rat) ≤ x := by
  unfold fl
  have hd : (0 : Int) < x.den := by have := x.den_pos; omega
  rw [Int.le_ediv_iff_mul_le hd, Rat.le_iff]
  simp
theorem ce_le {i : Int} {x : Rat} : ce x ≤ i ↔ x ≤ (i : Rat) := by
  have h := le_fl (i := -i) (x := -x)
  have e : ce x = -fl (-x) := by unfold ce fl; rw [Rat.neg_num, Rat.neg_den]
  rw [e]
  constructor
  · intro h1
    have := h.mp (by omega)
    have e2 : ((-i : Int) : Rat) = -(i : Rat) := by simp
    rw [e2] at this
    grind
  · intro h1
    have e2 : ((-i : Int) : Rat) = -(i : Rat) := by simp
    have := h.mpr (by rw [e2]; grind)
    omega
theorem fl_le (x : Rat) : (fl x : Rat) ≤ x := le_fl.mp (Int.le_refl _)
theorem le_ce (x : Rat) : x ≤ (ce x : Rat) := ce_le.mp (Int.le_refl _)
theorem fl_mono {x y : Rat} (h : x ≤ y) : fl x ≤ fl y := le_fl.mpr (by have := fl_le x; grind)
theorem ce_mono {x y : Rat} (h : x ≤ y) : ce x ≤ ce y := ce_le.mpr (by have := le_ce y; grind)
theorem fl_le_ce {x y : Rat} (h : x ≤ y) : fl x ≤ ce y := by
  have h1 := fl_le x
  have h2 := le_ce y
  have : (fl x : Rat) ≤ (ce y : Rat) := by grind
  exact_mod_cast this
/-! ### greatest of -/
def mx2 (a b : Int) : Int := if b > a then b else a
theorem mx2_l (a b : Int) : a ≤ mx2 a b := by unfold mx2; split <;> omega
theorem mx2_r (a b : Int) : b ≤ mx2 a b := by unfold mx2; split <;> omega
theorem mx2_le {a b c : Int} (h1 : a ≤ c) (h2 : b ≤ c) : mx2 a b ≤ c := by unfold mx2; split <;> omega
theorem mx2_or (a b : Int) : mx2 a b = a ∨ mx2 a b = b := by unfold mx2; split <;> simp
def mx (l : List Int) : Int := l.foldl mx2 0
theorem foldl_ge : ∀ (l : List Int) (a : Int), a ≤ l.foldl mx2 a
  | [], a => Int.le_refl _
  | x :: l, a => by rw [List.foldl_cons]; exact Int.le_trans (mx2_l a x) (foldl_ge l _)
theorem foldl_mem : ∀ (l : List Int) (a : Int), ∀ x ∈ l, x ≤ l.foldl mx2 a
  | [], a, x, h => by cases h
  | y :: l, a, x, h => by
    rw [List.foldl_cons]
    rcases List.mem_cons.mp h with h | h
    · subst h; exact Int.le_trans (mx2_r a x) (foldl_ge l _)
    · exact foldl_mem l _ x h
theorem foldl_le {c : Int} : ∀ (l : List Int) (a : Int), a ≤ c → (∀ x ∈ l, x ≤ c) → l.foldl mx2 a ≤ c
  | [], a, h, _ => h
  | y :: l, a, h, hl => by
    rw [List.foldl_cons]
    exact foldl_le l _ (mx2_le h (hl y (by simp))) fun x hx => hl x (by simp [hx])
theorem foldl_in : ∀ (l : List Int) (a : Int), l.foldl mx2 a = a ∨ l.foldl mx2 a ∈ l
  | [], a => .inl rfl
  | y :: l, a => by
    rw [List.foldl_cons]
    rcases foldl_in l (mx2 a y) with h | h
    · rw [h]
      rcases mx2_or a y with h | h
      · exact .inl h
      · rw [h]; exact .inr (by simp)
    · exact .inr (by simp [h])
theorem mx_nn (l : List Int) : 0 ≤ mx l := foldl_ge l 0
theorem le_mx {l : List Int} {x : Int} (h : x ∈ l) : x ≤ mx l := foldl_mem l 0 x h
theorem mx_le {l : List Int} {c : Int} (h0 : 0 ≤ c) (h : ∀ x ∈ l, x ≤ c) : mx l ≤ c := foldl_le l 0 h0 h
theorem mx_in {l : List Int} (hn : l ≠ []) (h : ∀ x ∈ l, 0 ≤ x) : mx l ∈ l := by
  rcases foldl_in l 0 with e | e
  · cases l with
    | nil => exact absurd rfl hn
    | cons x l =>
      have h1 := le_mx (l := x :: l) (x := x) (by simp)
      have h2 := h x (by simp)
      have e' : mx (x :: l) = 0 := e
      have : x = 0 := by omega
      rw [e', ← this]; simp
  · exact e
theorem mx_cons {x : Int} {l : List Int} (h : 0 ≤ x) : mx (x :: l) = l.foldl mx2 x := by
  unfold mx
  rw [List.foldl_cons]
  congr 1
  unfold mx2; split <;> omega
/-! ### widths -/
section
variable (nm nc : Nat) (O : Nat → Nat → Nat → Option (Int × Int))
def cells : List (Nat × Nat) := (List.range nm).flatMap fun m => (List.range nc).map fun c => (m, c)
def cand (w : Nat → Int) (now : Nat) : List Int := (cells nm nc).filterMap fun q => (O q.1 q.2 now).map fun p => w q.1 + (p.2 - p.1)
def wid (w0 : Int) : Nat → Nat → Int
  | 0, _ => w0
  | j + 1, now => mx (cand nm nc O (wid w0 j) now)
structure OOk : Prop where
  c0 : 0 < nc
  own : ∀ m, m < nm → ∀ c, c < nc → ∃ p, O m c m = some p
  nn : ∀ m, m < nm → ∀ c, c < nc → ∀ now, ∀ p, O m c now = some p → p.1 ≤ p.2
end
section
variable {nm nc : Nat} {O O' : Nat → Nat → Nat → Option (Int × Int)}
theorem mem_cells {q : Nat × Nat} : q ∈ cells nm nc ↔ q.1 < nm ∧ q.2 < nc := by
  unfold cells
  rw [List.mem_flatMap]
  constructor
  · rintro ⟨m, hm, h⟩
    obtain ⟨c, hc, rfl⟩ := List.mem_map.mp h
    exact ⟨List.mem_range.mp hm, List.mem_range.mp hc⟩
  · rintro ⟨h1, h2⟩
    exact ⟨q.1, List.mem_range.mpr h1, List.mem_map.mpr ⟨q.2, List.mem_range.mpr h2, rfl⟩⟩
theorem mem_cand {w : Nat → Int} {now : Nat} {x : Int} : x ∈ cand nm nc O w now ↔ ∃ m c p, m < nm ∧ c < nc ∧ O m c now = some p ∧ x = w m + (p.2 - p.1) := by
  unfold cand
  rw [List.mem_filterMap]
  constructor
  · rintro ⟨q, hq, h⟩
    obtain ⟨p, h1, h2⟩ := Option.map_eq_some_iff.mp h
    exact ⟨q.1, q.2, p, (mem_cells.mp hq).1, (mem_cells.mp hq).2, h1, h2.symm⟩
  · rintro ⟨m, c, p, h1, h2, h3, rfl⟩
    exact ⟨(m, c), mem_cells.mpr ⟨h1, h2⟩, by dsimp only; rw [h3]; rfl⟩
theorem wid_nn {w0 : Int} (h0 : 0 ≤ w0) : ∀ j now, 0 ≤ wid nm nc O w0 j now
  | 0, _ => h0
  | _ + 1, _ => mx_nn _
theorem cand_ne (hO : OOk nm nc O) {w : Nat → Int} {m : Nat} (hm : m < nm) : cand nm nc O w m ≠ [] := by
  obtain ⟨p, hp⟩ := hO.own m hm 0 hO.c0
  exact List.ne_nil_of_mem (mem_cand.mpr ⟨m, 0, p, hm, hO.c0, hp, rfl⟩)
theorem cand_nn (hO : OOk nm nc O) {w : Nat → Int} (hw : ∀ m, 0 ≤ w m) {now : Nat} : ∀ x ∈ cand nm nc O w now, 0 ≤ x := by
  intro x hx
  obtain ⟨m, c, p, h1, h2, h3, rfl⟩ := mem_cand.mp hx
  have := hO.nn m h1 c h2 now p h3
  have := hw m
  omega
theorem wid_step (hO : OOk nm nc O) {w0 : Int} {j m c now : Nat} {p : Int × Int} (hm : m < nm) (hc : c < nc) (h : O m c now = some p) : wid nm nc O w0 j m + (p.2 - p.1) ≤ wid nm nc O w0 (j + 1) now :=
  le_mx (mem_cand.mpr ⟨m, c, p, hm, hc, h, rfl⟩)
theorem wid_mono (hO : OOk nm nc O) {w0 : Int} {j m : Nat} (hm : m < nm) : wid nm nc O w0 j m ≤ wid nm nc O w0 (j + 1) m := by
  obtain ⟨p, hp⟩ := hO.own m hm 0 hO.c0
  have h1 := wid_step hO (w0 := w0) (j := j) hm hO.c0 hp
  have h2 := hO.nn m hm 0 hO.c0 m p hp
  omega
theorem wid_half {w0 w0' : Int} (h0 : 0 ≤ w0) (hw : w0' ≤ 2 * w0) (h : ∀ m, m < nm → ∀ c, c < nc → ∀ now p', O' m c now = some p' → ∃ p, O m c now = some p ∧ p'.2 - p'.1 ≤ 2 * (p.2 - p.1)) :
    ∀ j now, wid nm nc O' w0' j now ≤ 2 * wid nm nc O w0 j now
  | 0, _ => hw
  | j + 1, now => by
    refine mx_le (by have := wid_nn (nm := nm) (nc := nc) (O := O) h0 (j + 1) now; omega) fun x hx => ?_
    obtain ⟨m, c, p', h1, h2, h3, rfl⟩ := mem_cand.mp hx
    obtain ⟨p, h4, h5⟩ := h m h1 c h2 now p' h3
    have h6 := wid_half h0 hw h j m
    have h7 : wid nm nc O w0 j m + (p.2 - p.1) ≤ wid nm nc O w0 (j + 1) now := le_mx (mem_cand.mpr ⟨m, c, p, h1, h2, h4, rfl⟩)
    omega
/-! ### all ways -/
def grow (nm : Nat) (O : Nat → Nat → Nat → Option (Int × Int)) (L : List (Int × Nat)) (w : Int) (m c now : Nat) : List (Int × Nat) := match O m c now with
  | none => L
  | some p => if (w + (p.2 - p.1), now) ∈ L then L else L ++ [(w + (p.2 - p.1), now)]
def trips (nm nc : Nat) (l : List (Int × Nat)) : List (Int × Nat × Nat × Nat) := l.flatMap fun q => (List.range nc).flatMap fun c => (List.range nm).map fun now => (q.1, q.2, c, now)
def next (nm nc : Nat) (O : Nat → Nat → Nat → Option (Int × Int)) (l : List (Int × Nat)) : List (Int × Nat) := (trips nm nc l).foldl (fun L t => grow nm O L t.1 t.2.1 t.2.2.1 t.2.2.2) []
def level (nm nc : Nat) (O : Nat → Nat → Nat → Option (Int × Int)) (w0 : Int) : Nat → List (Int × Nat)
  | 0 => (List.range nm).map fun m => (w0, m)
  | j + 1 => next nm nc O (level nm nc O w0 j)
theorem mem_grow {L : List (Int × Nat)} {w : Int} {m c now : Nat} {q : Int × Nat} : q ∈ grow nm O L w m c now ↔ q ∈ L ∨ ∃ p, O m c now = some p ∧ q = (w + (p.2 - p.1), now) := by
  unfold grow
  cases h : O m c now with
  | none => simp
  | some p =>
    dsimp only
    split
    · rename_i hin
      constructor
      · exact .inl
      · rintro (h1 | ⟨p', h1, rfl⟩)
        · exact h1
        · cases h1; exact hin
    · constructor
      · intro h1
        rcases List.mem_append.mp h1 with h1 | h1
        · exact .inl h1
        · exact .inr ⟨p, rfl, by simpa using h1⟩
      · rintro (h1 | ⟨p', h1, rfl⟩)
        · exact List.mem_append_left _ h1
        · cases h1; simp
theorem mem_growF {q : Int × Nat} : ∀ (ts : List (Int × Nat × Nat × Nat)) (L : List (Int × Nat)), q ∈ ts.foldl (fun L t => grow nm O L t.1 t.2.1 t.2.2.1 t.2.2.2) L ↔ q ∈ L ∨ ∃ t ∈ ts, ∃ p, O t.2.1 t.2.2.1 t.2.2.2 = some p ∧ q = (t.1 + (p.2 - p.1), t.2.2.2)
  | [], L => by simp
  | t :: ts, L => by
    rw [List.foldl_cons, mem_growF ts, mem_grow]
    constructor
    · rintro ((h | ⟨p, h1, h2⟩) | ⟨t', ht, p, h1, h2⟩)
      · exact .inl h
      · exact .inr ⟨t, by simp, p, h1, h2⟩
      · exact .inr ⟨t', by simp [ht], p, h1, h2⟩
    · rintro (h | ⟨t', ht, p, h1, h2⟩)
      · exact .inl (.inl h)
      · rcases List.mem_cons.mp ht with ht | ht
        · subst ht; exact .inl (.inr ⟨p, h1, h2⟩)
        · exact .inr ⟨t', ht, p, h1, h2⟩
theorem mem_trips {l : List (Int × Nat)} {t : Int × Nat × Nat × Nat} : t ∈ trips nm nc l ↔ (t.1, t.2.1) ∈ l ∧ t.2.2.1 < nc ∧ t.2.2.2 < nm := by
  unfold trips
  rw [List.mem_flatMap]
  constructor
  · rintro ⟨q, hq, h⟩
    obtain ⟨c, hc, h⟩ := List.mem_flatMap.mp h
    obtain ⟨now, hn, rfl⟩ := List.mem_map.mp h
    exact ⟨hq, List.mem_range.mp hc, List.mem_range.mp hn⟩
  · rintro ⟨h1, h2, h3⟩
    exact ⟨_, h1, List.mem_flatMap.mpr ⟨t.2.2.1, List.mem_range.mpr h2, List.mem_map.mpr ⟨t.2.2.2, List.mem_range.mpr h3, rfl⟩⟩⟩
theorem mem_next {l : List (Int × Nat)} {q : Int × Nat} : q ∈ next nm nc O l ↔ ∃ r ∈ l, ∃ c p, c < nc ∧ q.2 < nm ∧ O r.2 c q.2 = some p ∧ q.1 = r.1 + (p.2 - p.1) := by
  unfold next
  rw [mem_growF]
  constructor
  · rintro (h | ⟨t, ht, p, h1, h2⟩)
    · cases h
    · obtain ⟨h3, h4, h5⟩ := mem_trips.mp ht
      subst h2
      exact ⟨_, h3, t.2.2.1, p, h4, h5, h1, rfl⟩
  · rintro ⟨r, hr, c, p, h1, h2, h3, h4⟩
    exact .inr ⟨(r.1, r.2, c, q.2), mem_trips.mpr ⟨hr, h1, h2⟩, p, h3, by rw [← h4]⟩
theorem level_ok (hO : OOk nm nc O) {w0 : Int} (h0 : 0 ≤ w0) : ∀ j, (∀ q ∈ level nm nc O w0 j, q.2 < nm ∧ 0 ≤ q.1 ∧ q.1 ≤ wid nm nc O w0 j q.2) ∧ ∀ m, m < nm → (wid nm nc O w0 j m, m) ∈ level nm nc O w0 j
  | 0 => ⟨fun q hq => by
      obtain ⟨m, hm, rfl⟩ := List.mem_map.mp hq
      exact ⟨List.mem_range.mp hm, h0, Int.le_refl _⟩, fun m hm => List.mem_map.mpr ⟨m, List.mem_range.mpr hm, rfl⟩⟩
  | j + 1 => by
    obtain ⟨h1, h2⟩ := level_ok hO h0 j
    constructor
    · intro q hq
      obtain ⟨r, hr, c, p, k1, k2, k3, k4⟩ := mem_next.mp hq
      obtain ⟨g1, g2, g3⟩ := h1 r hr
      have g4 := wid_step hO (w0 := w0) (j := j) g1 k1 k3
      have g5 := hO.nn _ g1 c k1 _ p k3
      exact ⟨k2, by omega, by omega⟩
    · intro m hm
      have e := mx_in (cand_ne hO (w := wid nm nc O w0 j) hm) (cand_nn hO (wid_nn h0 j))
      obtain ⟨m', c, p, k1, k2, k3, k4⟩ := mem_cand.mp e
      exact mem_next.mpr ⟨(wid nm nc O w0 j m', m'), h2 m' k1, c, p, k2, hm, k3, k4⟩
theorem foldl_grow_len : ∀ (ts : List (Int × Nat × Nat × Nat)) (L : List (Int × Nat)), (ts.foldl (fun L t => grow nm O L t.1 t.2.1 t.2.2.1 t.2.2.2) L).length ≤ L.length + ts.length
  | [], L => by simp
  | t :: ts, L => by
    rw [List.foldl_cons]
    have h := foldl_grow_len ts (grow nm O L t.1 t.2.1 t.2.2.1 t.2.2.2)
    have : (grow nm O L t.1 t.2.1 t.2.2.1 t.2.2.2).length ≤ L.length + 1 := by
      unfold grow
      split
      · omega
      · split
        · omega
        · simp
    simp only [List.length_cons]
    omega
end
end P48
end
section
set_option Elab.async false
set_option linter.all false
set_option maxRecDepth 100000
set_option maxHeartbeats 0
namespace P48
open PySem L2 Py Geo FM
theorem eqS_nil {n : Nat} {ds : List D} (h : pln n (.lst ds) = true) (hn : n ≤ 64 := by decide) : eqS (.lst ds) (.lst []) = some ds.isEmpty := by
  obtain ⟨p, h1, h2, h3, h4⟩ := pln_py n _ h
  have hs : SeqAt.shaped p = true := by unfold SeqAt.shaped; rw [h2, Bool.true_and]; exact decide_eq_true (by omega)
  have hs0 : SeqAt.shaped (.list []) = true := by decide +kernel
  unfold eqS
  rw [h1]
  dsimp only [Option.bind_some]
  rw [show toPy (.lst []) = some (.list []) by rw [toPy, toPys]; rfl]
  dsimp only [Option.bind_some]
  rw [hs, hs0, Bool.and_self, if_pos rfl]
  rw [toPy] at h1
  obtain ⟨ps, e1, rfl⟩ := Option.map_eq_some_iff.mp h1
  cases ds with
  | nil =>
    rw [toPys] at e1
    cases e1
    rw [PyData.eqv, PyData.eqvAll]
    rfl
  | cons d ds =>
    rw [toPys] at e1
    obtain ⟨q, _, e2⟩ := Option.bind_eq_some_iff.mp e1
    obtain ⟨qs, _, rfl⟩ := Option.map_eq_some_iff.mp e2
    rw [PyData.eqv, PyData.eqvAll] <;> first | rfl | (intros; contradiction)
theorem ways_form {P : Pl} (hP : PlOk P) (m c now : Nat) : ways P m c now = [] ∨ ∃ w, ways P m c now = [w] := by
  have h := ways_le hP m c now
  match hw : ways P m c now with
  | [] => exact .inl rfl
  | [w] => exact .inr ⟨w, rfl⟩
  | a :: b :: l => rw [hw] at h; simp at h
def unD (d : Rat) : D := .tup [rD d]
section
variable {k : Nat} {μ : Store}
theorem r_made_whole {a b : Nat} (d : Rat) (w : Rat × Rat) (h0 : d ≠ 0) (hd : Sz b d) (h1 : Sz a w.1) (h2 : Sz a w.2) (hn : a + b ≤ 8999) : Py.run fs Γ (k + 5) f_made_whole [unD d, bx1 w] μ = some (.tup [prI (fl (w.1 / d), ce (w.2 / d))], μ) := by
  have g1 := r_down (k := k) (μ := μ) w.1 d h0 h1 hd hn
  have g2 := r_up (k := k) (μ := μ) w.2 d h0 h2 hd hn
  have hc : ∀ x2 x3 x4 : Option SV, ev (Py.run fs Γ (k + 4)) Γ c1_made_whole [some (.val (unD d)), some (.val (bx1 w)), x2, x3, x4] μ = some (.lst [prI (fl (w.1 / d), ce (w.2 / d))], μ) := by
    intro x2 x3 x4
    have := ev_lc_map (Φ := Py.run fs Γ (k + 4)) (Γ := Γ) (μ := μ) (x := E.tup (Es.cons (E.call 10 (E.slot 3) (Es.cons (E.slot 2) Es.nil)) (Es.cons (E.call 11 (E.slot 4) (Es.cons (E.slot 2) Es.nil)) Es.nil))) (t := T.tp [T.nm 2, T.tp [T.nm 3, T.nm 4]]) (it := I.zip (E.slot 0) (E.slot 1)) (c := Eo.none) (vs := [2, 3, 4]) (env := [some (.val (unD d)), some (.val (bx1 w)), x2, x3, x4]) (g := fun _ : Unit => .tup [rD d, pairD w]) (h := fun _ => prI (fl (w.1 / d), ce (w.2 / d))) [()] (by simp -implicitDefEqProofs [bx1, unD, zipD]) (by simp) (fun _ _ => by
      refine ⟨[some (.val (unD d)), some (.val (bx1 w)), some (.val (rD d)), some (.val (rD w.1)), some (.val (rD w.2))], by simp -implicitDefEqProofs [pairD], by simp, ?_⟩
      simp -implicitDefEqProofs [g1, g2, szle, prI])
    rw [c1_made_whole]
    exact this
  rw [u_made_whole, b_made_whole]
  simp -implicitDefEqProofs [hc]
theorem r_offset_of {b : Nat} {P : Pl} (hP : PlOk P) {m c now : Nat} (hm : m < P.modes.length) (hc : c < P.cmds.length) (d : Rat) (h0 : d ≠ 0) (hd : Sz b d) (hb : b ≤ 8000) : Py.run fs Γ (k + 7) f_offset_of [plD P, unD d, .int m, .int c, .int now] μ = some (offD (off P d m c now), μ) := by
  have g1 := r_change_boxes (k := k) (μ := μ) (now := now) hP hm hc
  have hz := ways_ok (now := now) hP hm hc
  have n1 : ∀ w, isNon (bx1 w) = false := fun _ => rfl
  have n0 : isNon D.non = true := rfl
  rw [u_offset_of, b_offset_of]
  unfold off
  rcases ways_form hP m c now with e | ⟨w, e⟩
  · rw [e] at g1 ⊢
    simp -implicitDefEqProofs [ex_for, g1, forS, offD, n0]
  · rw [e] at g1 hz ⊢
    obtain ⟨s1, s2, _⟩ := hz w (by simp)
    have g2 := r_made_whole (k := k + 1) (μ := μ) d w h0 hd s1 s2 (by omega)
    simp -implicitDefEqProofs [ex_for, g1, forS, offD, n0, n1, l1_offset_of, g2]
theorem r_offsets_of {b : Nat} {P : Pl} (hP : PlOk P) (d : Rat) (h0 : d ≠ 0) (hd : Sz b d) (hb : b ≤ 8000) : Py.run fs Γ (k + 8) f_offsets_of [plD P, unD d] μ = some (offsD P d, μ) := by
  have hnm : P.modes.length ≤ 2 := by have := hP.nm; omega
  have hnc : P.cmds.length ≤ 3 := by have := hP.nc; omega
  have r1 := rngS_map (n := P.modes.length) (by omega)
  have r2 := rngS_map (n := P.cmds.length) (by omega)
  have c1 : ∀ (m c : Nat) (hm : m < P.modes.length) (hc : c < P.cmds.length) (x4 x6 : Option SV), ev (Py.run fs Γ (k + 7)) Γ c1_offsets_of [some (.val (plD P)), some (.val (unD d)), some (.val (.rg 0 P.modes.length)), some (.val (.rg 0 P.cmds.length)), x4, some (.val (.int m)), x6, some (.val (.int c))] μ = some (.lst ((List.range P.modes.length).map fun now => offD (off P d m c now)), μ) := by
    intro m c hm hc x4 x6
    rw [c1_offsets_of]
    refine ev_lc_map (g := fun now : Nat => .int (now : Int)) (List.range P.modes.length) (by simp -implicitDefEqProofs [r1]) (by simp; omega) fun now _ => ?_
    have g := r_offset_of (k := k) (μ := μ) (now := now) hP hm hc d h0 hd hb
    exact ⟨[some (.val (plD P)), some (.val (unD d)), some (.val (.rg 0 P.modes.length)), some (.val (.rg 0 P.cmds.length)), x4, some (.val (.int m)), some (.val (.int now)), some (.val (.int c))], by simp, by simp, by simp -implicitDefEqProofs [g]⟩
  have c2 : ∀ (m : Nat) (hm : m < P.modes.length) (x4 x6 x7 : Option SV), ev (Py.run fs Γ (k + 7)) Γ c2_offsets_of [some (.val (plD P)), some (.val (unD d)), some (.val (.rg 0 P.modes.length)), some (.val (.rg 0 P.cmds.length)), x4, some (.val (.int m)), x6, x7] μ = some (.lst ((List.range P.cmds.length).map fun c => .tup ((List.range P.modes.length).map fun now => offD (off P d m c now))), μ) := by
    intro m hm x4 x6 x7
    rw [c2_offsets_of]
    refine ev_lc_map (g := fun c : Nat => .int (c : Int)) (List.range P.cmds.length) (by simp -implicitDefEqProofs [r2]) (by simp; omega) fun c hc => ?_
    exact ⟨[some (.val (plD P)), some (.val (unD d)), some (.val (.rg 0 P.modes.length)), some (.val (.rg 0 P.cmds.length)), x4, some (.val (.int m)), x6, some (.val (.int c))], by simp, by simp, by simp -implicitDefEqProofs [c1 m c hm (List.mem_range.mp hc)]⟩
  obtain ⟨env', e1, x5, x6, x7, rfl, hl⟩ := forS_fold (t := T.nm 5) (b := fun env' μ' => exs (Py.run fs Γ (k + 7)) Γ l1_offsets_of env' μ') (μ := μ) (fun m : Nat => .int (m : Int)) (fun (l : List Nat) m => l ++ [m])
    (fun j l env => ∃ x5 x6 x7, env = [some (.val (plD P)), some (.val (unD d)), some (.val (.rg 0 P.modes.length)), some (.val (.rg 0 P.cmds.length)), some (.own (l.map fun m => .tup ((List.range P.cmds.length).map fun c => .tup ((List.range P.modes.length).map fun now => offD (off P d m c now))))), x5, x6, x7] ∧ l.length ≤ j) (List.range P.modes.length) 0 [] _ ⟨none, none, none, rfl, by simp⟩ (by
      rintro m hm j l env _ hj ⟨x5, x6, x7, rfl, hl⟩
      have hz : l.length < 16777216 := by simp at hj; omega
      refine ⟨[some (.val (plD P)), some (.val (unD d)), some (.val (.rg 0 P.modes.length)), some (.val (.rg 0 P.cmds.length)), some (.own (l.map fun m => .tup ((List.range P.cmds.length).map fun c => .tup ((List.range P.modes.length).map fun now => offD (off P d m c now))))), some (.val (.int m)), x6, x7], _, by simp, .inl ?_, some (.val (.int m)), x6, x7, rfl, by simp; omega⟩
      simp -implicitDefEqProofs [l1_offsets_of, c2 m (List.mem_range.mp hm), SZ, hz])
  have hf : ∀ (l l0 : List Nat), l.foldl (fun (l : List Nat) m => l ++ [m]) l0 = l0 ++ l := by
    intro l
    induction l with
    | nil => simp
    | cons x l ih => intro l0; rw [List.foldl_cons, ih]; simp
  rw [hf, List.nil_append] at e1
  rw [u_offsets_of, b_offsets_of]
  simp -implicitDefEqProofs [ex_for, tpl, at9_2, at9_3, r1, szle] at e1 ⊢
  simp -implicitDefEqProofs [e1, offsD]
/-! the law's own -/
theorem r_ways {P : Pl} (hP : PlOk P) {m c now : Nat} (hm : m < P.modes.length) (hc : c < P.cmds.length) : Py.run fs Γ (k + 3) f__law_ways [plD P, .int m, .int c, .int now] μ = some (.lst ((ways P m c now).map pairD), μ) := by
  obtain ⟨h1, h2, e⟩ := rate_eq hP hm hc
  obtain ⟨s1, s2, _⟩ := rate_ok hP hm hc
  obtain ⟨z1, z2, _⟩ := bx_ok hP hm hc
  have a1 : atI (P.rates.map rwD) (m : Int) = some (rwD P.rates[m]) := atI_map h1
  have a2 : atI (P.rates[m].map bx1) (c : Int) = some (bx1 P.rates[m][c]) := atI_map h2
  have t1 : itsS μ (rwD P.rates[m]) = some (P.rates[m].map bx1) := rfl
  rw [← e] at a2
  have hcm : ∀ x4 x5 x6 x7 x8 : Option SV, ev (Py.run fs Γ (k + 2)) Γ c1__law_ways [some (.val (plD P)), some (.val (.int m)), some (.val (.int c)), some (.val (.int now)), x4, x5, x6, x7, x8] μ = some (.lst [rD (bx P m c).1, rD (bx P m c).2], μ) := by
    intro x4 x5 x6 x7 x8
    have := ev_lc_map (Φ := Py.run fs Γ (k + 2)) (Γ := Γ) (μ := μ) (x := E.call 34 (E.ix (E.slot 0) (E.int 4)) (Es.cons (E.slot 6) Es.nil)) (t := T.nm 6) (it := I.seq (E.ix (E.ix (E.ix (E.ix (E.slot 0) (E.int 5)) (E.slot 1)) (E.slot 2)) (E.int 0))) (c := Eo.none) (vs := [6]) (env := [some (.val (plD P)), some (.val (.int m)), some (.val (.int c)), some (.val (.int now)), x4, x5, x6, x7, x8]) (g := rD) (h := fun t => rD (t * P.beat)) [(rate P m c).1, (rate P m c).2] (by simp -implicitDefEqProofs [tpl, at9_5, a1, a2, t1, tb1, at1_0, pairD]) (by simp) (fun t ht => by
      have hs : Sz 7 t := by
        rcases List.mem_cons.mp ht with h | h
        · subst h; exact s1
        · have : t = (rate P m c).2 := by simpa using h
          subst this; exact s2
      have g := r_lmult (k := k) (n := 10) (μ := μ) P.beat t hP.bt.1 hs (by decide) (by decide)
      rw [Rat.mul_comm] at g
      exact ⟨[some (.val (plD P)), some (.val (.int m)), some (.val (.int c)), some (.val (.int now)), x4, x5, some (.val (rD t)), x7, x8], by simp, by simp, by simp -implicitDefEqProofs [tpl, at9_4, g]⟩)
    rw [c1__law_ways]
    exact this
  obtain ⟨env', e1, x8, rfl, hl⟩ := forS_fold (t := T.nm 8) (b := fun env' μ' => exs (Py.run fs Γ (k + 2)) Γ l1__law_ways env' μ') (μ := μ) swD (fun l s => if isW m now s then l ++ [wayS P m c s] else l)
    (fun j l env => ∃ x8, env = [some (.val (plD P)), some (.val (.int m)), some (.val (.int c)), some (.val (.int now)), some (.val (rD (bx P m c).1)), some (.val (rD (bx P m c).2)), none, some (.own (l.map pairD)), x8] ∧ l.length ≤ j + 1) P.sw 0 (if now = m then [bx P m c] else []) _ ⟨none, rfl, by split <;> simp⟩ (by
      rintro s hs j l env _ hj ⟨x8, rfl, hl⟩
      obtain ⟨k1, k2, k3, k4, k5, k6, k7⟩ := hP.sw s hs
      have g2 := r_lplus (k := k) (n := 18) (μ := μ) (bx P m c).1 s.kl z1 k5 (by decide) (by decide)
      have g3 := r_lplus (k := k) (n := 18) (μ := μ) (bx P m c).2 s.kh z2 k6 (by decide) (by decide)
      have hsl := hP.sl
      have hz : l.length < 16777216 := by omega
      refine ⟨[some (.val (plD P)), some (.val (.int m)), some (.val (.int c)), some (.val (.int now)), some (.val (rD (bx P m c).1)), some (.val (rD (bx P m c).2)), none, some (.own (l.map pairD)), some (.val (swD s))], [some (.val (plD P)), some (.val (.int m)), some (.val (.int c)), some (.val (.int now)), some (.val (rD (bx P m c).1)), some (.val (rD (bx P m c).2)), none, some (.own ((if isW m now s then l ++ [wayS P m c s] else l).map pairD)), some (.val (swD s))], by simp, .inl ?_, _, rfl, ?_⟩
      · by_cases q1 : s.st = m
        · by_cases q2 : s.goal = now
          · have q : isW m now s = true := by unfold isW; simp [q1, q2]
            simp -implicitDefEqProofs [l1__law_ways, tsw, at6_0, at6_2, at6_5, tb1, tpr, at1_0, a20, a21, q1, q2, q, g2, g3, SZ, hz, wayS, pairD]
          · have q : isW m now s = false := by unfold isW; simp [q2]
            have q2' : ¬ (s.goal : Int) = now := by omega
            simp -implicitDefEqProofs [l1__law_ways, tsw, at6_0, at6_2, q1, q2', q]
        · have q : isW m now s = false := by unfold isW; simp [q1]
          have q1' : ¬ (s.st : Int) = m := by omega
          simp -implicitDefEqProofs [l1__law_ways, tsw, at6_0, at6_2, q1', q]
      · split
        · simp; omega
        · omega)
  have hw : P.sw.foldl (fun l s => if isW m now s then l ++ [wayS P m c s] else l) (if now = m then [bx P m c] else []) = ways P m c now := by
    unfold ways
    generalize (if now = m then [bx P m c] else []) = l0
    generalize P.sw = ss
    induction ss generalizing l0 with
    | nil => simp
    | cons s ss ih =>
      rw [List.foldl_cons, ih]
      by_cases q : isW m now s = true
      · rw [if_pos q, List.filter_cons_of_pos q]; simp
      · rw [if_neg q, List.filter_cons_of_neg q]
  rw [hw] at e1
  rw [u__law_ways, b__law_ways]
  by_cases q : now = m
  · subst q
    rw [if_pos rfl] at e1
    simp -implicitDefEqProofs [ex_for, hcm, tpl, at9_6, szle, pairD] at e1 ⊢
    simp -implicitDefEqProofs [e1]
  · have q' : ¬ (now : Int) = m := by omega
    rw [if_neg q] at e1
    simp -implicitDefEqProofs [ex_for, hcm, tpl, at9_6, szle, q'] at e1 ⊢
    simp -implicitDefEqProofs [e1]
theorem r_loffset {b : Nat} {P : Pl} (hP : PlOk P) {m c now : Nat} (hm : m < P.modes.length) (hc : c < P.cmds.length) (d : Rat) (h0 : d ≠ 0) (hd : Sz b d) (hb : b ≤ 8000) : Py.run fs Γ (k + 4) f__law_offset [plD P, rD d, .int m, .int c, .int now] μ = some (offD (off P d m c now), μ) := by
  have g1 := r_ways (k := k) (μ := μ) (now := now) hP hm hc
  have hz := ways_ok (now := now) hP hm hc
  have hq : ∀ l : List (Rat × Rat), l.length ≤ 1 → eqS (.lst (l.map pairD)) (.lst []) = some l.isEmpty := fun l hl => by
    rw [eqS_nil (n := 3) (plain_lst (by omega) fun p _ => by simp [pairD, pln, rD])]
    cases l <;> rfl
  have hq' := hq _ (ways_le hP m c now)
  rw [u__law_offset, b__law_offset]
  unfold off
  rcases ways_form hP m c now with e | ⟨w, e⟩
  · rw [e] at g1 hq' ⊢
    simp -implicitDefEqProofs [g1, offD] at hq' ⊢
    simp -implicitDefEqProofs [hq']
  · rw [e] at g1 hz hq' ⊢
    obtain ⟨s1, s2, _⟩ := hz w (by simp)
    have f1 := r_lfloor (k := k + 1) (μ := μ) w.1 d h0 s1 hd (by omega)
    have f2 := r_lceil (k := k) (μ := μ) w.2 d h0 s2 hd (by omega)
    have c1 : ∀ x6 : Option SV, ev (Py.run fs Γ (k + 3)) Γ c1__law_offset [some (.val (plD P)), some (.val (rD d)), some (.val (.int m)), some (.val (.int c)), some (.val (.int now)), some (.val (.lst [pairD w])), x6] μ = some (.lst [.int (ce (w.2 / d))], μ) := by
      intro x6
      have := ev_lc_map (Φ := Py.run fs Γ (k + 3)) (Γ := Γ) (μ := μ) (x := E.call 42 (E.ix (E.slot 6) (E.int 1)) (Es.cons (E.slot 1) Es.nil)) (t := T.nm 6) (it := I.seq (E.slot 5)) (c := Eo.none) (vs := [6]) (env := [some (.val (plD P)), some (.val (rD d)), some (.val (.int m)), some (.val (.int c)), some (.val (.int now)), some (.val (.lst [pairD w])), x6]) (g := fun _ : Unit => pairD w) (h := fun _ => .int (ce (w.2 / d))) [()] (by simp -implicitDefEqProofs) (by simp) (fun _ _ => ⟨[some (.val (plD P)), some (.val (rD d)), some (.val (.int m)), some (.val (.int c)), some (.val (.int now)), some (.val (.lst [pairD w])), some (.val (pairD w))], by simp, by simp, by simp -implicitDefEqProofs [tpr, a21, f2]⟩)
      rw [c1__law_offset]; exact this
    have c2 : ∀ x6 : Option SV, ev (Py.run fs Γ (k + 3)) Γ c2__law_offset [some (.val (plD P)), some (.val (rD d)), some (.val (.int m)), some (.val (.int c)), some (.val (.int now)), some (.val (.lst [pairD w])), x6] μ = some (.lst [.int (fl (w.1 / d))], μ) := by
      intro x6
      have := ev_lc_map (Φ := Py.run fs Γ (k + 3)) (Γ := Γ) (μ := μ) (x := E.call 41 (E.ix (E.slot 6) (E.int 0)) (Es.cons (E.slot 1) Es.nil)) (t := T.nm 6) (it := I.seq (E.slot 5)) (c := Eo.none) (vs := [6]) (env := [some (.val (plD P)), some (.val (rD d)), some (.val (.int m)), some (.val (.int c)), some (.val (.int now)), some (.val (.lst [pairD w])), x6]) (g := fun _ : Unit => pairD w) (h := fun _ => .int (fl (w.1 / d))) [()] (by simp -implicitDefEqProofs) (by simp) (fun _ _ => ⟨[some (.val (plD P)), some (.val (rD d)), some (.val (.int m)), some (.val (.int c)), some (.val (.int now)), some (.val (.lst [pairD w])), some (.val (pairD w))], by simp, by simp, by simp -implicitDefEqProofs [tpr, a20, f1]⟩)
      rw [c2__law_offset]; exact this
    have m1 : ∀ x : Int, biS μ .max [.lst [.int x]] = some (.int x) := fun x => by simp [biS, lstS, asInts, asInt, maxI]
    have m2 : ∀ x : Int, biS μ .min [.lst [.int x]] = some (.int x) := fun x => by simp [biS, lstS, asInts, asInt, minI]
    simp -implicitDefEqProofs [g1, offD, szle] at hq' ⊢
    simp -implicitDefEqProofs [hq', c1, c2, m1, m2, szle, prI]
theorem r_loffsets {b : Nat} {P : Pl} (hP : PlOk P) (d : Rat) (h0 : d ≠ 0) (hd : Sz b d) (hb : b ≤ 8000) : Py.run fs Γ (k + 5) f__law_offsets [plD P, rD d] μ = some (offsD P d, μ) := by
  have hnm : P.modes.length ≤ 2 := by have := hP.nm; omega
  have hnc : P.cmds.length ≤ 3 := by have := hP.nc; omega
  have r1 := rngS_map (n := P.modes.length) (by omega)
  have r2 := rngS_map (n := P.cmds.length) (by omega)
  have hM : (List.range P.modes.length).map (fun m : Nat => D.int (m : Int)) = (List.range P.modes.length).map fun m : Nat => D.int (m : Int) := rfl
  generalize hml : D.lst ((List.range P.modes.length).map fun m : Nat => D.int (m : Int)) = ML
  have tM' : seqOf ML = some ((List.range P.modes.length).map fun m : Nat => D.int (m : Int)) := by rw [← hml]; rfl
  have c1 : ∀ (m c : Nat) (hm : m < P.modes.length) (hc : c < P.cmds.length) (x3 : Option SV), ev (Py.run fs Γ (k + 4)) Γ c1__law_offsets [some (.val (plD P)), some (.val (rD d)), some (.val ML), x3, some (.val (.int c)), some (.val (.int m))] μ = some (.lst ((List.range P.modes.length).map fun now => offD (off P d m c now)), μ) := by
    intro m c hm hc x3
    rw [c1__law_offsets]
    refine ev_lc_map (g := fun now : Nat => .int (now : Int)) (List.range P.modes.length) (by simp -implicitDefEqProofs [tM']) (by simp; omega) fun now _ => ?_
    have g := r_loffset (k := k) (μ := μ) (now := now) hP hm hc d h0 hd hb
    exact ⟨[some (.val (plD P)), some (.val (rD d)), some (.val ML), some (.val (.int now)), some (.val (.int c)), some (.val (.int m))], by simp, by simp, by simp -implicitDefEqProofs [g]⟩
  have c2 : ∀ (m : Nat) (hm : m < P.modes.length) (x3 x4 : Option SV), ev (Py.run fs Γ (k + 4)) Γ c2__law_offsets [some (.val (plD P)), some (.val (rD d)), some (.val ML), x3, x4, some (.val (.int m))] μ = some (.lst ((List.range P.cmds.length).map fun c => .tup ((List.range P.modes.length).map fun now => offD (off P d m c now))), μ) := by
    intro m hm x3 x4
    rw [c2__law_offsets]
    refine ev_lc_map (g := fun c : Nat => .int (c : Int)) (List.range P.cmds.length) (by simp -implicitDefEqProofs [tpl, at9_3, r2]) (by simp; omega) fun c hc => ?_
    exact ⟨[some (.val (plD P)), some (.val (rD d)), some (.val ML), x3, some (.val (.int c)), some (.val (.int m))], by simp, by simp, by simp -implicitDefEqProofs [c1 m c hm (List.mem_range.mp hc)]⟩
  have c3 : ∀ (x3 x4 x5 : Option SV), ev (Py.run fs Γ (k + 4)) Γ c3__law_offsets [some (.val (plD P)), some (.val (rD d)), some (.val ML), x3, x4, x5] μ = some (.lst ((List.range P.modes.length).map fun m => .tup ((List.range P.cmds.length).map fun c => .tup ((List.range P.modes.length).map fun now => offD (off P d m c now)))), μ) := by
    intro x3 x4 x5
    rw [c3__law_offsets]
    refine ev_lc_map (g := fun m : Nat => .int (m : Int)) (List.range P.modes.length) (by simp -implicitDefEqProofs [tM']) (by simp; omega) fun m hm => ?_
    exact ⟨[some (.val (plD P)), some (.val (rD d)), some (.val ML), x3, x4, some (.val (.int m))], by simp, by simp, by simp -implicitDefEqProofs [c2 m (List.mem_range.mp hm)]⟩
  rw [u__law_offsets, b__law_offsets]
  simp -implicitDefEqProofs [tpl, at9_2, r1, hml, c3, offsD]
end
end P48
end
section
set_option Elab.async false
set_option linter.all false
set_option maxRecDepth 100000
set_option maxHeartbeats 0
namespace P48
open PySem L2 Py Geo FM
/-! ### widths, walked -/
def offsO (nm nc : Nat) (O : Nat → Nat → Nat → Option (Int × Int)) : D := .tup ((List.range nm).map fun m => .tup ((List.range nc).map fun c => .tup ((List.range nm).map fun now => offD (O m c now))))
def rowO (nm : Nat) (O : Nat → Nat → Nat → Option (Int × Int)) (m c : Nat) : D := .tup ((List.range nm).map fun now => offD (O m c now))
def bandO (nm nc : Nat) (O : Nat → Nat → Nat → Option (Int × Int)) (m : Nat) : D := .tup ((List.range nc).map (rowO nm O m))
theorem offsO_eq (nm nc : Nat) (O : Nat → Nat → Nat → Option (Int × Int)) : offsO nm nc O = .tup ((List.range nm).map (bandO nm nc O)) := rfl
theorem offsD_eq (P : Pl) (d : Rat) : offsD P d = offsO P.modes.length P.cmds.length (off P d) := rfl
def rdsD (a : Int) : D := .tup [prI (a, a + 1)]
def wdsD (nm : Nat) (w : Nat → Int) : D := .lst ((List.range nm).map fun m => .lst [.int (w m)])
def toD (q : Nat × (Int × Int)) : D := .tup [.int q.1, .tup [prI q.2]]
def tosR (nc : Nat) (O : Nat → Nat → Nat → Option (Int × Int)) (now m : Nat) : List (Nat × (Int × Int)) := (List.range nc).filterMap fun c => (O m c now).map fun p => (m, p)
def tos (nm nc : Nat) (O : Nat → Nat → Nat → Option (Int × Int)) (now : Nat) : List (Nat × (Int × Int)) := (List.range nm).flatMap (tosR nc O now)
theorem cand_tos (nm nc : Nat) (O : Nat → Nat → Nat → Option (Int × Int)) (w : Nat → Int) (now : Nat) : cand nm nc O w now = (tos nm nc O now).map fun q => w q.1 + (q.2.2 - q.2.1) := by
  unfold cand tos cells tosR
  rw [List.filterMap_flatMap, List.map_flatMap]
  congr 1
  funext m
  rw [List.filterMap_map, List.map_filterMap]
  congr 1
  funext c
  simp only [Function.comp]
  cases O m c now <;> rfl
theorem rowO_at {nm : Nat} {O : Nat → Nat → Nat → Option (Int × Int)} {m c now : Nat} (h : now < nm) : atI ((List.range nm).map fun now => offD (O m c now)) (now : Int) = some (offD (O m c now)) := by
  have := atI_map (g := fun now => offD (O m c now)) (l := List.range nm) (i := now) (by simpa using h)
  rw [this]; simp
theorem wdsD_at {nm : Nat} {w : Nat → Int} {m : Nat} (h : m < nm) : atI ((List.range nm).map fun m => D.lst [.int (w m)]) (m : Int) = some (.lst [.int (w m)]) := by
  have := atI_map (g := fun m => D.lst [.int (w m)]) (l := List.range nm) (i := m) (by simpa using h)
  rw [this]; simp
theorem offD_non {o : Option (Int × Int)} : isNon (offD o) = !o.isSome := by cases o <;> rfl
theorem tosR_eq (nc : Nat) (O : Nat → Nat → Nat → Option (Int × Int)) (now m : Nat) : ((List.range nc).filter fun c => (O m c now).isSome).map (fun c => D.tup [.int (m : Int), offD (O m c now)]) = (tosR nc O now m).map toD := by
  unfold tosR
  generalize List.range nc = l
  induction l with
  | nil => rfl
  | cons c l ih =>
    cases h : O m c now with
    | none => rw [List.filter_cons_of_neg (by simp [h]), List.filterMap_cons_none (by rw [h]; rfl)]; exact ih
    | some p => rw [List.filter_cons_of_pos (by simp [h]), List.filterMap_cons_some (by rw [h]; rfl), List.map_cons, List.map_cons, ih]; simp [h, offD, toD]
theorem tosR_len (nc : Nat) (O : Nat → Nat → Nat → Option (Int × Int)) (now m : Nat) : (tosR nc O now m).length ≤ nc := by
  have := List.length_filterMap_le (fun c => (O m c now).map fun p => (m, p)) (List.range nc)
  simpa [tosR] using this
theorem range_zipIdx (n : Nat) : (List.range n).zipIdx = (List.range n).map fun m => (m, m) := by
  apply List.ext_getElem
  · simp
  · intro i h1 h2
    simp
section
variable {k : Nat} {μ : Store} {nm nc : Nat} {O : Nat → Nat → Nat → Option (Int × Int)}
theorem r_widths_of (p : Int × Int) : Py.run fs Γ (k + 1) f_widths_of [.tup [prI p]] μ = some (.lst [.int (p.2 - p.1)], μ) := by
  have hc : ∀ x1 x2 : Option SV, ev (Py.run fs Γ k) Γ c1_widths_of [some (.val (.tup [prI p])), x1, x2] μ = some (.lst [.int (p.2 - p.1)], μ) := by
    intro x1 x2
    have := ev_lc_map (Φ := Py.run fs Γ k) (Γ := Γ) (μ := μ) (x := E.bin .Sub (E.slot 2) (E.slot 1)) (t := T.tp [T.nm 1, T.nm 2]) (it := I.seq (E.slot 0)) (c := Eo.none) (vs := [1, 2]) (env := [some (.val (.tup [prI p])), x1, x2]) (g := fun _ : Unit => prI p) (h := fun _ => .int (p.2 - p.1)) [()] (by simp -implicitDefEqProofs) (by simp) (fun _ _ => ⟨[some (.val (.tup [prI p])), some (.val (.int p.1)), some (.val (.int p.2))], by simp -implicitDefEqProofs [prI], by simp, by simp -implicitDefEqProofs⟩)
    rw [c1_widths_of]; exact this
  rw [u_widths_of, b_widths_of]
  simp -implicitDefEqProofs [hc]
theorem r_offsets_to (hm : nm ≤ 2) (hn : nc ≤ 3) (now : Nat) (hw : now < nm) : Py.run fs Γ (k + 1) f_offsets_to [offsO nm nc O, .int now] μ = some (.lst ((tos nm nc O now).map toD), μ) := by
  have c1 : ∀ (m : Nat) (x2 x5 : Option SV), ev (Py.run fs Γ k) Γ c1_offsets_to [some (.val (offsO nm nc O)), some (.val (.int now)), x2, some (.val (.int m)), some (.val (bandO nm nc O m)), x5] μ = some (.lst ((tosR nc O now m).map toD), μ) := by
    intro m x2 x5
    rw [c1_offsets_to, ← tosR_eq]
    refine ev_lc_filter (g := rowO nm O m) (h := fun c => D.tup [.int (m : Int), offD (O m c now)]) (p := fun c => (O m c now).isSome) (List.range nc) (by simp -implicitDefEqProofs [bandO]) (by simp; omega) fun c _ => ?_
    have t : ∀ μ : Store, itsS μ (rowO nm O m c) = some ((List.range nm).map fun now => offD (O m c now)) := fun _ => rfl
    refine ⟨[some (.val (offsO nm nc O)), some (.val (.int now)), x2, some (.val (.int m)), some (.val (bandO nm nc O m)), some (.val (rowO nm O m c))], by simp, ?_, fun _ => ?_⟩
    · simp -implicitDefEqProofs [t, rowO_at hw, offD_non]
    · simp -implicitDefEqProofs [t, rowO_at hw, szle]
  obtain ⟨env', e1, x3, x4, x5, rfl, hl⟩ := forS_fold (t := T.tp [T.nm 3, T.nm 4]) (b := fun env' μ' => exs (Py.run fs Γ k) Γ l1_offsets_to env' μ') (μ := μ) (fun m : Nat => .tup [.int (m : Int), bandO nm nc O m]) (fun (l : List (Nat × (Int × Int))) m => l ++ tosR nc O now m)
    (fun j l env => ∃ x3 x4 x5, env = [some (.val (offsO nm nc O)), some (.val (.int now)), some (.own (l.map toD)), x3, x4, x5] ∧ l.length ≤ j * 3) (List.range nm) 0 [] _ ⟨none, none, none, rfl, by simp⟩ (by
      rintro m hm' j l env _ hj ⟨x3, x4, x5, rfl, hl⟩
      have hz := tosR_len nc O now m
      have hz2 : l.length + (tosR nc O now m).length ≤ 16777216 := by simp at hj; omega
      refine ⟨[some (.val (offsO nm nc O)), some (.val (.int now)), some (.own (l.map toD)), some (.val (.int m)), some (.val (bandO nm nc O m)), x5], _, by simp, .inl ?_, some (.val (.int m)), some (.val (bandO nm nc O m)), x5, rfl, by simp; omega⟩
      simp -implicitDefEqProofs [l1_offsets_to, c1, SZ, hz2])
  have hf : ∀ (l : List Nat) (l0 : List (Nat × (Int × Int))), l.foldl (fun (l : List (Nat × (Int × Int))) m => l ++ tosR nc O now m) l0 = l0 ++ l.flatMap (tosR nc O now) := by
    intro l
    induction l with
    | nil => simp
    | cons x l ih => intro l0; rw [List.foldl_cons, ih]; simp
  rw [hf, List.nil_append] at e1
  have hen : enumD 0 ((List.range nm).map (bandO nm nc O)) = (List.range nm).map fun m : Nat => D.tup [.int (m : Int), bandO nm nc O m] := by
    rw [enumD_map, range_zipIdx, List.map_map]; rfl
  rw [u_offsets_to, b_offsets_to]
  rw [offsO_eq] at e1 ⊢
  simp -implicitDefEqProofs [ex_for, hen, szle] at e1 ⊢
  simp -implicitDefEqProofs [e1, tos]
end
end P48
end
section
set_option Elab.async false
set_option linter.all false
set_option maxRecDepth 100000
set_option maxHeartbeats 0
namespace P48
open PySem L2 Py Geo FM
def mostD : Option Int → D
  | none => .non
  | some x => .lst [.int x]
def mstep (w : Nat → Int) (s : Option Int) (q : Nat × (Int × Int)) : Option Int := some (match s with | none => w q.1 + (q.2.2 - q.2.1) | some x => mx2 x (w q.1 + (q.2.2 - q.2.1)))
theorem mfold (w : Nat → Int) : ∀ (l : List (Nat × (Int × Int))) (x : Int), l.foldl (mstep w) (some x) = some ((l.map fun q => w q.1 + (q.2.2 - q.2.1)).foldl mx2 x)
  | [], x => rfl
  | q :: l, x => by rw [List.foldl_cons, List.map_cons, List.foldl_cons, mstep]; exact mfold w l _
section
variable {k : Nat} {μ : Store} {nm nc : Nat} {O : Nat → Nat → Nat → Option (Int × Int)}
theorem r_wider (hO : OOk nm nc O) (hm : nm ≤ 2) (hn : nc ≤ 3) (w : Nat → Int) (hw : ∀ m, 0 ≤ w m) : Py.run fs Γ (k + 2) f_wider_widths [offsO nm nc O, wdsD nm w] μ = some (wdsD nm fun now => mx (cand nm nc O w now), μ) := by
  have tw : ∀ μ : Store, itsS μ (wdsD nm w) = some ((List.range nm).map fun m => .lst [.int (w m)]) := fun _ => rfl
  have n1 : ∀ s : Option Int, isNon (mostD s) = !s.isSome := fun s => by cases s <;> rfl
  have c1 : ∀ (now m : Nat) (p : Int × Int) (hmm : m < nm) (x2 x4 x7 x8 x9 x10 x11 : Option SV), ev (Py.run fs Γ (k + 1)) Γ c1_wider_widths [some (.val (offsO nm nc O)), some (.val (wdsD nm w)), x2, some (.val (.int now)), x4, some (.val (.int m)), some (.val (.tup [prI p])), x7, x8, x9, x10, x11] μ = some (.lst [.int (w m + (p.2 - p.1))], μ) := by
    intro now m p hmm x2 x4 x7 x8 x9 x10 x11
    have g := r_widths_of (k := k) (μ := μ) p
    have := ev_lc_map (Φ := Py.run fs Γ (k + 1)) (Γ := Γ) (μ := μ) (x := E.bin .Add (E.slot 8) (E.slot 9)) (t := T.tp [T.nm 8, T.nm 9]) (it := I.zip (E.ix (E.slot 1) (E.slot 5)) (E.call 14 (E.slot 6) Es.nil)) (c := Eo.none) (vs := [8, 9]) (env := [some (.val (offsO nm nc O)), some (.val (wdsD nm w)), x2, some (.val (.int now)), x4, some (.val (.int m)), some (.val (.tup [prI p])), x7, x8, x9, x10, x11]) (g := fun _ : Unit => .tup [.int (w m), .int (p.2 - p.1)]) (h := fun _ => .int (w m + (p.2 - p.1))) [()] (by simp -implicitDefEqProofs [tw, wdsD_at hmm, g, zipD]) (by simp) (fun _ _ => ⟨[some (.val (offsO nm nc O)), some (.val (wdsD nm w)), x2, some (.val (.int now)), x4, some (.val (.int m)), some (.val (.tup [prI p])), x7, some (.val (.int (w m))), some (.val (.int (p.2 - p.1))), x10, x11], by simp -implicitDefEqProofs, by simp, by simp -implicitDefEqProofs⟩)
    rw [c1_wider_widths]; exact this
  have c2 : ∀ (x y : Int) (x0 x1 x2 x3 x5 x6 x8 x9 x10 x11 : Option SV), ev (Py.run fs Γ (k + 1)) Γ c2_wider_widths [x0, x1, x2, x3, some (.val (.lst [.int x])), x5, x6, some (.val (.lst [.int y])), x8, x9, x10, x11] μ = some (.lst [.int (mx2 x y)], μ) := by
    intro x y x0 x1 x2 x3 x5 x6 x8 x9 x10 x11
    have := ev_lc_map (Φ := Py.run fs Γ (k + 1)) (Γ := Γ) (μ := μ) (x := E.bi .max (E.slot 10) (Es.cons (E.slot 11) Es.nil)) (t := T.tp [T.nm 10, T.nm 11]) (it := I.zip (E.slot 4) (E.slot 7)) (c := Eo.none) (vs := [10, 11]) (env := [x0, x1, x2, x3, some (.val (.lst [.int x])), x5, x6, some (.val (.lst [.int y])), x8, x9, x10, x11]) (g := fun _ : Unit => .tup [.int x, .int y]) (h := fun _ => .int (mx2 x y)) [()] (by simp -implicitDefEqProofs [zipD]) (by simp) (fun _ _ => ⟨[x0, x1, x2, x3, some (.val (.lst [.int x])), x5, x6, some (.val (.lst [.int y])), x8, x9, some (.val (.int x)), some (.val (.int y))], by simp -implicitDefEqProofs, by simp, by simp -implicitDefEqProofs [mx2]⟩)
    rw [c2_wider_widths]; exact this
  have lp : ∀ (now : Nat) (hnow : now < nm) (x2 x5 x6 x7 x8 x9 x10 x11 : Option SV), ∃ y5 y6 y7 y8 y9 y10 y11 : Option SV, forS (T.tp [T.nm 5, T.nm 6]) (fun env' μ' => exs (Py.run fs Γ (k + 1)) Γ l1_wider_widths env' μ') ((tos nm nc O now).map toD) [some (.val (offsO nm nc O)), some (.val (wdsD nm w)), x2, some (.val (.int now)), some (.val .non), x5, x6, x7, x8, x9, x10, x11] μ = some (.nx [some (.val (offsO nm nc O)), some (.val (wdsD nm w)), x2, some (.val (.int now)), some (.val (mostD ((tos nm nc O now).foldl (mstep w) none))), y5, y6, y7, y8, y9, y10, y11] μ) := by
    intro now hnow x2 x5 x6 x7 x8 x9 x10 x11
    obtain ⟨env', e1, y5, y6, y7, y8, y9, y10, y11, rfl⟩ := forS_fold (t := T.tp [T.nm 5, T.nm 6]) (b := fun env' μ' => exs (Py.run fs Γ (k + 1)) Γ l1_wider_widths env' μ') (μ := μ) toD (mstep w)
      (fun j s env => ∃ y5 y6 y7 y8 y9 y10 y11 : Option SV, env = [some (.val (offsO nm nc O)), some (.val (wdsD nm w)), x2, some (.val (.int now)), some (.val (mostD s)), y5, y6, y7, y8, y9, y10, y11]) (tos nm nc O now) 0 none _ ⟨x5, x6, x7, x8, x9, x10, x11, rfl⟩ (by
        rintro ⟨m, p⟩ hq j s env _ hj ⟨y5, y6, y7, y8, y9, y10, y11, rfl⟩
        have hmm : m < nm := by
          obtain ⟨m', h1, h2⟩ := List.mem_flatMap.mp hq
          obtain ⟨c, h3, h4⟩ := List.mem_filterMap.mp h2
          obtain ⟨p', _, h6⟩ := Option.map_eq_some_iff.mp h4
          cases h6
          exact List.mem_range.mp h1
        refine ⟨[some (.val (offsO nm nc O)), some (.val (wdsD nm w)), x2, some (.val (.int now)), some (.val (mostD s)), some (.val (.int m)), some (.val (.tup [prI p])), y7, y8, y9, y10, y11], [some (.val (offsO nm nc O)), some (.val (wdsD nm w)), x2, some (.val (.int now)), some (.val (mostD (mstep w s (m, p)))), some (.val (.int m)), some (.val (.tup [prI p])), some (.val (.lst [.int (w m + (p.2 - p.1))])), y8, y9, y10, y11], by simp -implicitDefEqProofs [toD], .inl ?_, _, _, _, _, _, _, _, rfl⟩
        cases s with
        | none => simp -implicitDefEqProofs [l1_wider_widths, c1 now m p hmm, n1, mstep, mostD]
        | some x =>
          have c2' := c2 x (w m + (p.2 - p.1))
          simp -implicitDefEqProofs [l1_wider_widths, c1 now m p hmm, n1, mstep, mostD, c2'])
    exact ⟨y5, y6, y7, y8, y9, y10, y11, e1⟩
  have val : ∀ now, now < nm → (tos nm nc O now).foldl (mstep w) none = some (mx (cand nm nc O w now)) := by
    intro now hnow
    have h1 := cand_ne hO (w := w) hnow
    have h2 := cand_nn hO hw (now := now)
    rw [cand_tos] at h1 h2 ⊢
    cases h : tos nm nc O now with
    | nil => rw [h] at h1; exact absurd rfl h1
    | cons q l =>
      rw [h] at h2
      rw [List.foldl_cons, mstep]
      rw [mfold, List.map_cons, mx_cons (h2 _ (by simp))]
  obtain ⟨env', e1, x3, x4, x5, x6, x7, x8, x9, x10, x11, rfl, hl⟩ := forS_fold (t := T.nm 3) (b := fun env' μ' => exs (Py.run fs Γ (k + 1)) Γ l2_wider_widths env' μ') (μ := μ) (fun m : Nat => .int (m : Int)) (fun (l : List Nat) m => l ++ [m])
    (fun j l env => ∃ x3 x4 x5 x6 x7 x8 x9 x10 x11, env = [some (.val (offsO nm nc O)), some (.val (wdsD nm w)), some (.own (l.map fun now => .lst [.int (mx (cand nm nc O w now))])), x3, x4, x5, x6, x7, x8, x9, x10, x11] ∧ l.length ≤ j) (List.range nm) 0 [] _ ⟨none, none, none, none, none, none, none, none, none, rfl, by simp⟩ (by
      rintro now hnow j l env _ hj ⟨x3, x4, x5, x6, x7, x8, x9, x10, x11, rfl, hl⟩
      have hnow' := List.mem_range.mp hnow
      have hz : l.length < 16777216 := by simp at hj; omega
      have g := r_offsets_to (k := k) (μ := μ) (O := O) hm hn now hnow'
      obtain ⟨y5, y6, y7, y8, y9, y10, y11, e⟩ := lp now hnow' (some (.own (l.map fun now => .lst [.int (mx (cand nm nc O w now))]))) x5 x6 x7 x8 x9 x10 x11
      rw [val now hnow'] at e
      refine ⟨[some (.val (offsO nm nc O)), some (.val (wdsD nm w)), some (.own (l.map fun now => .lst [.int (mx (cand nm nc O w now))])), some (.val (.int now)), x4, x5, x6, x7, x8, x9, x10, x11], _, by simp, .inl ?_, some (.val (.int now)), some (.val (mostD (some (mx (cand nm nc O w now))))), y5, y6, y7, y8, y9, y10, y11, rfl, by simp; omega⟩
      simp -implicitDefEqProofs [l2_wider_widths, ex_for, g, e, n1, mostD, SZ, hz])
  have hf : ∀ (l l0 : List Nat), l.foldl (fun (l : List Nat) m => l ++ [m]) l0 = l0 ++ l := by
    intro l
    induction l with
    | nil => simp
    | cons x l ih => intro l0; rw [List.foldl_cons, ih]; simp
  rw [hf, List.nil_append] at e1
  have r1 := rngS_map (n := nm) (by omega)
  have t0 : ∀ μ : Store, itsS μ (offsO nm nc O) = some ((List.range nm).map (bandO nm nc O)) := fun _ => rfl
  rw [u_wider_widths, b_wider_widths]
  simp -implicitDefEqProofs [ex_for, t0, r1, szle] at e1 ⊢
  simp -implicitDefEqProofs [e1]
  rfl
theorem r_failed (hO : OOk nm nc O) (hm : nm ≤ 2) (hn : nc ≤ 3) (a : Int) (ha : 0 ≤ a) (j : Nat) (hj : j ≤ 10) : Py.run fs Γ (k + 3) f_failed_widths [offsO nm nc O, rdsD a, .int j] μ = some (wdsD nm (wid nm nc O (a + (a + 1)) j), μ) := by
  have c1 : ∀ x2 x3 x4 x5 x6 : Option SV, ev (Py.run fs Γ (k + 2)) Γ c1_failed_widths [some (.val (offsO nm nc O)), some (.val (rdsD a)), x2, x3, x4, x5, x6] μ = some (.lst [.int (a + (a + 1))], μ) := by
    intro x2 x3 x4 x5 x6
    have := ev_lc_map (Φ := Py.run fs Γ (k + 2)) (Γ := Γ) (μ := μ) (x := E.bin .Add (E.slot 4) (E.slot 5)) (t := T.tp [T.nm 4, T.nm 5]) (it := I.seq (E.slot 1)) (c := Eo.none) (vs := [4, 5]) (env := [some (.val (offsO nm nc O)), some (.val (rdsD a)), x2, x3, x4, x5, x6]) (g := fun _ : Unit => prI (a, a + 1)) (h := fun _ => .int (a + (a + 1))) [()] (by simp -implicitDefEqProofs [rdsD]) (by simp) (fun _ _ => ⟨[some (.val (offsO nm nc O)), some (.val (rdsD a)), x2, x3, some (.val (.int a)), some (.val (.int (a + 1))), x6], by simp -implicitDefEqProofs [prI], by simp, by simp -implicitDefEqProofs⟩)
    rw [c1_failed_widths]; exact this
  have c2 : ∀ x2 x3 x4 x5 x6 : Option SV, ev (Py.run fs Γ (k + 2)) Γ c2_failed_widths [some (.val (offsO nm nc O)), some (.val (rdsD a)), x2, x3, x4, x5, x6] μ = some (wdsD nm fun _ => a + (a + 1), μ) := by
    intro x2 x3 x4 x5 x6
    rw [c2_failed_widths]
    exact ev_lc_map (g := bandO nm nc O) (h := fun _ => .lst [.int (a + (a + 1))]) (List.range nm) (by simp -implicitDefEqProofs [offsO_eq]) (by simp; omega) fun m _ => ⟨[some (.val (offsO nm nc O)), some (.val (rdsD a)), x2, x3, x4, x5, some (.val (bandO nm nc O m))], by simp, by simp, by simp -implicitDefEqProofs [c1]⟩
  have h0 : 0 ≤ a + (a + 1) := by omega
  obtain ⟨env', e1, x6, rfl⟩ := forS_fold (t := T.nm 6) (b := fun env' μ' => exs (Py.run fs Γ (k + 2)) Γ l1_failed_widths env' μ') (μ := μ) (fun m : Nat => .int (m : Int)) (fun (i : Nat) _ => i + 1)
    (fun _ i env => ∃ x6, env = [some (.val (offsO nm nc O)), some (.val (rdsD a)), some (.val (.int j)), some (.val (wdsD nm (wid nm nc O (a + (a + 1)) i))), none, none, x6]) (List.range j) 0 0 _ ⟨none, rfl⟩ (by
      rintro m _ _ i env _ _ ⟨x6, rfl⟩
      have g := r_wider (k := k) (μ := μ) hO hm hn (wid nm nc O (a + (a + 1)) i) (wid_nn h0 i)
      refine ⟨[some (.val (offsO nm nc O)), some (.val (rdsD a)), some (.val (.int j)), some (.val (wdsD nm (wid nm nc O (a + (a + 1)) i))), none, none, some (.val (.int m))], [some (.val (offsO nm nc O)), some (.val (rdsD a)), some (.val (.int j)), some (.val (wdsD nm (wid nm nc O (a + (a + 1)) (i + 1)))), none, none, some (.val (.int m))], by simp, .inl ?_, _, rfl⟩
      simp -implicitDefEqProofs [l1_failed_widths, g]
      rfl)
  have hf : ∀ (l : List Nat) (i : Nat), l.foldl (fun (i : Nat) _ => i + 1) i = i + l.length := by
    intro l
    induction l with
    | nil => simp
    | cons x l ih => intro i; rw [List.foldl_cons, ih, List.length_cons]; omega
  rw [hf, List.length_range, Nat.zero_add] at e1
  have r1 := rngS_map (n := j) (by omega)
  have w0 : wid nm nc O (a + (a + 1)) 0 = fun _ => a + (a + 1) := rfl
  rw [w0] at e1
  rw [u_failed_widths, b_failed_widths]
  simp -implicitDefEqProofs [ex_for, c2, r1] at e1 ⊢
  simp -implicitDefEqProofs [e1]
def tpW (nm nc : Nat) (O : Nat → Nat → Nat → Option (Int × Int)) (w0 : Int) (j : Nat) : Int := maxI ((List.range nm).map (wid nm nc O w0 j))
theorem max_ints (ns : List Int) (h : ns ≠ []) : biS μ .max [.lst (ns.map D.int)] = some (.int (maxI ns)) := by
  simp [biS, asInts_map, h]
theorem r_late (hO : OOk nm nc O) (h0 : 0 < nm) (hm : nm ≤ 2) (hn : nc ≤ 3) (a : Int) (ha : 0 ≤ a) (j : Nat) (hj : j ≤ 10) : Py.run fs Γ (k + 4) f_late_widths [offsO nm nc O, rdsD a, .int j] μ = some (.lst [.int (tpW nm nc O (a + (a + 1)) j)], μ) := by
  have g := r_failed (k := k) (μ := μ) hO hm hn a ha j hj
  have c1 : ∀ x4 : Option SV, ev (Py.run fs Γ (k + 3)) Γ c1_late_widths [some (.val (offsO nm nc O)), some (.val (rdsD a)), some (.val (.int j)), some (.val (wdsD nm (wid nm nc O (a + (a + 1)) j))), x4, some (.val (.int 0))] μ = some (.lst (((List.range nm).map (wid nm nc O (a + (a + 1)) j)).map D.int), μ) := by
    intro x4
    rw [c1_late_widths, List.map_map]
    exact ev_lc_map (g := fun m => D.lst [.int (wid nm nc O (a + (a + 1)) j m)]) (List.range nm) (by simp -implicitDefEqProofs [wdsD]) (by simp; omega) fun m _ => ⟨[some (.val (offsO nm nc O)), some (.val (rdsD a)), some (.val (.int j)), some (.val (wdsD nm (wid nm nc O (a + (a + 1)) j))), some (.val (.lst [.int (wid nm nc O (a + (a + 1)) j m)])), some (.val (.int 0))], by simp, by simp, by simp -implicitDefEqProofs [at1_0]⟩
  have hne : (List.range nm).map (wid nm nc O (a + (a + 1)) j) ≠ [] := by simp; omega
  have mm := max_ints (μ := μ) _ hne
  have c2 : ∀ x4 x5 : Option SV, ev (Py.run fs Γ (k + 3)) Γ c2_late_widths [some (.val (offsO nm nc O)), some (.val (rdsD a)), some (.val (.int j)), some (.val (wdsD nm (wid nm nc O (a + (a + 1)) j))), x4, x5] μ = some (.lst [.int (tpW nm nc O (a + (a + 1)) j)], μ) := by
    intro x4 x5
    have r1 : rngS 0 (1 : Int) = some [.int 0] := rngS_map (n := 1) (by decide)
    have := ev_lc_map (Φ := Py.run fs Γ (k + 3)) (Γ := Γ) (μ := μ) (x := E.bi .max c1_late_widths Es.nil) (t := T.nm 5) (it := I.rng1 (E.bi .len (E.slot 1) Es.nil)) (c := Eo.none) (vs := [5]) (env := [some (.val (offsO nm nc O)), some (.val (rdsD a)), some (.val (.int j)), some (.val (wdsD nm (wid nm nc O (a + (a + 1)) j))), x4, x5]) (g := fun _ : Unit => .int 0) (h := fun _ => .int (tpW nm nc O (a + (a + 1)) j)) [()] (by simp -implicitDefEqProofs [rdsD, r1]) (by simp) (fun _ _ => ⟨[some (.val (offsO nm nc O)), some (.val (rdsD a)), some (.val (.int j)), some (.val (wdsD nm (wid nm nc O (a + (a + 1)) j))), x4, some (.val (.int 0))], by simp, by simp, by simp -implicitDefEqProofs [-List.map_map, c1, mm, tpW]⟩)
    rw [c2_late_widths]; exact this
  rw [u_late_widths, b_late_widths]
  simp -implicitDefEqProofs [g, c2]
end
end P48
end
section
set_option Elab.async false
set_option linter.all false
set_option maxRecDepth 100000
set_option maxHeartbeats 0
namespace P48
open PySem L2 Py Geo FM
def mn2 (a b : Int) : Int := if b < a then b else a
section
variable {k : Nat} {μ : Store}
theorem r_read_pair {a b : Nat} (e d : Rat) (h0 : d ≠ 0) (he : Sz a e) (hd : Sz b d) (hn : a + b ≤ 8999) : Py.run fs Γ (k + 5) f_read_pair [rD e, rD d] μ = some (prI (ce (e / d), ce (e / d) + 1), μ) := by
  have g := r_up (k := k) (μ := μ) e d h0 he hd hn
  rw [u_read_pair, b_read_pair]
  simp -implicitDefEqProofs [g, szle, prI]
theorem r_read_pairs {b : Nat} {P : Pl} (hP : PlOk P) (d : Rat) (h0 : d ≠ 0) (hd : Sz b d) (hb : b ≤ 8000) : Py.run fs Γ (k + 6) f_read_pairs [plD P, unD d] μ = some (rdsD (ce (P.err / d)), μ) := by
  have g := r_read_pair (k := k) (μ := μ) P.err d h0 hP.er.1 hd (by omega)
  have hc : ∀ x2 x3 : Option SV, ev (Py.run fs Γ (k + 5)) Γ c1_read_pairs [some (.val (plD P)), some (.val (unD d)), x2, x3] μ = some (.lst [prI (ce (P.err / d), ce (P.err / d) + 1)], μ) := by
    intro x2 x3
    have := ev_lc_map (Φ := Py.run fs Γ (k + 5)) (Γ := Γ) (μ := μ) (x := E.call 15 (E.slot 2) (Es.cons (E.slot 3) Es.nil)) (t := T.tp [T.nm 2, T.nm 3]) (it := I.zip (E.ix (E.ix (E.slot 0) (E.int 7)) (E.int 0)) (E.slot 1)) (c := Eo.none) (vs := [2, 3]) (env := [some (.val (plD P)), some (.val (unD d)), x2, x3]) (g := fun _ : Unit => .tup [rD P.err, rD d]) (h := fun _ => prI (ce (P.err / d), ce (P.err / d) + 1)) [()] (by simp -implicitDefEqProofs [tpl, at9_7, tsn, a20, unD, zipD]) (by simp) (fun _ _ => ⟨[some (.val (plD P)), some (.val (unD d)), some (.val (rD P.err)), some (.val (rD d))], by simp -implicitDefEqProofs, by simp, by simp -implicitDefEqProofs [g]⟩)
    rw [c1_read_pairs]; exact this
  rw [u_read_pairs, b_read_pairs]
  simp -implicitDefEqProofs [hc, rdsD]
theorem r_lreads {b : Nat} {P : Pl} (hP : PlOk P) (d : Rat) (h0 : d ≠ 0) (hd : Sz b d) (hb : b ≤ 8000) : Py.run fs Γ (k + 4) f__law_reads [plD P, rD d] μ = some (rdsD (ce (P.err / d)), μ) := by
  have g := r_lceil (k := k) (μ := μ) P.err d h0 hP.er.1 hd (by omega)
  rw [u__law_reads, b__law_reads]
  simp -implicitDefEqProofs [tpl, at9_7, tsn, a20, at1_0, g, szle, rdsD, prI]
theorem r_read_box (a r : Int) : Py.run fs Γ (k + 1) f_read_box [rdsD a, .tup [.int r]] μ = some (.tup [prI (r - a, r + (a + 1))], μ) := by
  have hc : ∀ x2 x3 x4 : Option SV, ev (Py.run fs Γ k) Γ c1_read_box [some (.val (rdsD a)), some (.val (.tup [.int r])), x2, x3, x4] μ = some (.lst [prI (r - a, r + (a + 1))], μ) := by
    intro x2 x3 x4
    have := ev_lc_map (Φ := Py.run fs Γ k) (Γ := Γ) (μ := μ) (x := E.tup (Es.cons (E.bin .Sub (E.slot 4) (E.slot 2)) (Es.cons (E.bin .Add (E.slot 4) (E.slot 3)) Es.nil))) (t := T.tp [T.tp [T.nm 2, T.nm 3], T.nm 4]) (it := I.zip (E.slot 0) (E.slot 1)) (c := Eo.none) (vs := [4, 2, 3]) (env := [some (.val (rdsD a)), some (.val (.tup [.int r])), x2, x3, x4]) (g := fun _ : Unit => .tup [prI (a, a + 1), .int r]) (h := fun _ => prI (r - a, r + (a + 1))) [()] (by simp -implicitDefEqProofs [rdsD, zipD]) (by simp) (fun _ _ => ⟨[some (.val (rdsD a)), some (.val (.tup [.int r])), some (.val (.int a)), some (.val (.int (a + 1))), some (.val (.int r))], by simp -implicitDefEqProofs [prI], by simp, by simp -implicitDefEqProofs [szle, prI]⟩)
    rw [c1_read_box]; exact this
  rw [u_read_box, b_read_box]
  simp -implicitDefEqProofs [hc]
theorem r_gone_on (e o : Int × Int) : Py.run fs Γ (k + 1) f_gone_on [.tup [prI e], .tup [prI o]] μ = some (.tup [prI (e.1 + o.1, e.2 + o.2)], μ) := by
  have hc : ∀ x2 x3 x4 x5 : Option SV, ev (Py.run fs Γ k) Γ c1_gone_on [some (.val (.tup [prI e])), some (.val (.tup [prI o])), x2, x3, x4, x5] μ = some (.lst [prI (e.1 + o.1, e.2 + o.2)], μ) := by
    intro x2 x3 x4 x5
    have := ev_lc_map (Φ := Py.run fs Γ k) (Γ := Γ) (μ := μ) (x := E.tup (Es.cons (E.bin .Add (E.slot 2) (E.slot 4)) (Es.cons (E.bin .Add (E.slot 3) (E.slot 5)) Es.nil))) (t := T.tp [T.tp [T.nm 2, T.nm 3], T.tp [T.nm 4, T.nm 5]]) (it := I.zip (E.slot 0) (E.slot 1)) (c := Eo.none) (vs := [2, 3, 4, 5]) (env := [some (.val (.tup [prI e])), some (.val (.tup [prI o])), x2, x3, x4, x5]) (g := fun _ : Unit => .tup [prI e, prI o]) (h := fun _ => prI (e.1 + o.1, e.2 + o.2)) [()] (by simp -implicitDefEqProofs [zipD]) (by simp) (fun _ _ => ⟨[some (.val (.tup [prI e])), some (.val (.tup [prI o])), some (.val (.int e.1)), some (.val (.int e.2)), some (.val (.int o.1)), some (.val (.int o.2))], by simp -implicitDefEqProofs [prI], by simp, by simp -implicitDefEqProofs [szle, prI]⟩)
    rw [c1_gone_on]; exact this
  rw [u_gone_on, b_gone_on]
  simp -implicitDefEqProofs [hc]
theorem r_met_boxes (e o : Int × Int) (h : mx2 e.1 o.1 ≤ mn2 e.2 o.2) : Py.run fs Γ (k + 1) f_met_boxes [.tup [prI e], .tup [prI o]] μ = some (.tup [prI (mx2 e.1 o.1, mn2 e.2 o.2)], μ) := by
  have hc : ∀ x2 x3 x4 x5 x6 x7 x8 : Option SV, ev (Py.run fs Γ k) Γ c1_met_boxes [some (.val (.tup [prI e])), some (.val (.tup [prI o])), x2, x3, x4, x5, x6, x7, x8] μ = some (.lst [prI (mx2 e.1 o.1, mn2 e.2 o.2)], μ) := by
    intro x2 x3 x4 x5 x6 x7 x8
    have := ev_lc_map (Φ := Py.run fs Γ k) (Γ := Γ) (μ := μ) (x := E.tup (Es.cons (E.bi .max (E.slot 3) (Es.cons (E.slot 5) Es.nil)) (Es.cons (E.bi .min (E.slot 4) (Es.cons (E.slot 6) Es.nil)) Es.nil))) (t := T.tp [T.tp [T.nm 3, T.nm 4], T.tp [T.nm 5, T.nm 6]]) (it := I.zip (E.slot 0) (E.slot 1)) (c := Eo.none) (vs := [3, 4, 5, 6]) (env := [some (.val (.tup [prI e])), some (.val (.tup [prI o])), x2, x3, x4, x5, x6, x7, x8]) (g := fun _ : Unit => .tup [prI e, prI o]) (h := fun _ => prI (mx2 e.1 o.1, mn2 e.2 o.2)) [()] (by simp -implicitDefEqProofs [zipD]) (by simp) (fun _ _ => ⟨[some (.val (.tup [prI e])), some (.val (.tup [prI o])), x2, some (.val (.int e.1)), some (.val (.int e.2)), some (.val (.int o.1)), some (.val (.int o.2)), x7, x8], by simp -implicitDefEqProofs [prI], by simp, by simp -implicitDefEqProofs [szle, prI, mx2, mn2]⟩)
    rw [c1_met_boxes]; exact this
  generalize hm : (mx2 e.1 o.1, mn2 e.2 o.2) = m at *
  have hm1 : m.1 ≤ m.2 := by rw [← hm]; exact h
  have hc2 : ∀ x3 x4 x5 x6 x7 x8 : Option SV, ev (Py.run fs Γ k) Γ c2_met_boxes [some (.val (.tup [prI e])), some (.val (.tup [prI o])), some (.val (.tup [prI m])), x3, x4, x5, x6, x7, x8] μ = some (.lst [], μ) := by
    intro x3 x4 x5 x6 x7 x8
    have hn : ¬ m.2 < m.1 := by omega
    have := ev_lc_filter (Φ := Py.run fs Γ k) (Γ := Γ) (μ := μ) (x := E.int 1) (t := T.tp [T.nm 7, T.nm 8]) (it := I.seq (E.slot 2)) (c := Eo.some (E.cmp .Gt (E.slot 7) (E.slot 8))) (vs := [7, 8]) (env := [some (.val (.tup [prI e])), some (.val (.tup [prI o])), some (.val (.tup [prI m])), x3, x4, x5, x6, x7, x8]) (g := fun _ : Unit => prI m) (h := fun _ => .int 1) (p := fun _ => false) [()] (by simp -implicitDefEqProofs) (by simp) (fun _ _ => ⟨[some (.val (.tup [prI e])), some (.val (.tup [prI o])), some (.val (.tup [prI m])), x3, x4, x5, x6, some (.val (.int m.1)), some (.val (.int m.2))], by simp -implicitDefEqProofs [prI], by simp -implicitDefEqProofs [hn], fun z => by cases z⟩)
    rw [c2_met_boxes, this]
    rfl
  rw [u_met_boxes, b_met_boxes]
  simp -implicitDefEqProofs [hc, hc2]
theorem r_late_worths {a b : Nat} (d : Rat) (v : Int) (hd : Sz b d) (hv : Sz a (v : Rat)) (hn : a + b ≤ 8999) : Py.run fs Γ (k + 4) f_late_worths [unD d, .lst [.int v]] μ = some (.tup [rD (d * v)], μ) := by
  have g := r_times (k := k) (μ := μ) d (v : Rat) hd hv (by omega)
  rw [rD_int] at g
  have hc : ∀ x2 x3 : Option SV, ev (Py.run fs Γ (k + 3)) Γ c1_late_worths [some (.val (unD d)), some (.val (.lst [.int v])), x2, x3] μ = some (.lst [rD (d * v)], μ) := by
    intro x2 x3
    have := ev_lc_map (Φ := Py.run fs Γ (k + 3)) (Γ := Γ) (μ := μ) (x := E.call 3 (E.slot 2) (Es.cons (E.tup (Es.cons (E.slot 3) (Es.cons (E.int 1) Es.nil))) Es.nil)) (t := T.tp [T.nm 2, T.nm 3]) (it := I.zip (E.slot 0) (E.slot 1)) (c := Eo.none) (vs := [2, 3]) (env := [some (.val (unD d)), some (.val (.lst [.int v])), x2, x3]) (g := fun _ : Unit => .tup [rD d, .int v]) (h := fun _ => rD (d * v)) [()] (by simp -implicitDefEqProofs [unD, zipD]) (by simp) (fun _ _ => ⟨[some (.val (unD d)), some (.val (.lst [.int v])), some (.val (rD d)), some (.val (.int v))], by simp -implicitDefEqProofs, by simp, by simp -implicitDefEqProofs [szle, g]⟩)
    rw [c1_late_worths]; exact this
  rw [u_late_worths, b_late_worths]
  simp -implicitDefEqProofs [hc]
theorem rD_half : rD (1 / 2 : Rat) = .tup [.int 1, .int 2] := by
  have : (1 / 2 : Rat) = Rat.divInt 1 2 := by rw [Rat.divInt_eq_div]; rfl
  rw [this, rD_divInt (by decide)]
  rfl
theorem r_halved {b : Nat} (d : Rat) (hd : Sz b d) (hb : b ≤ 8000) : Py.run fs Γ (k + 4) f_halved_units [unD d, .int 1] μ = some (unD (d * (1 / 2)), μ) := by
  have sh : Sz 2 (1 / 2 : Rat) := by
    have : (1 / 2 : Rat) = Rat.divInt 1 2 := by rw [Rat.divInt_eq_div]; rfl
    rw [this]
    exact Sz.divInt (by decide) (by decide) (by decide)
  have g := r_times (k := k) (μ := μ) d (1 / 2 : Rat) hd sh (by omega)
  rw [rD_half] at g
  have hc : ∀ x3 x4 : Option SV, ev (Py.run fs Γ (k + 3)) Γ c1_halved_units [some (.val (unD d)), some (.val (.int 1)), some (.val (.lst [rD d])), x3, x4] μ = some (.lst [rD (d * (1 / 2))], μ) := by
    intro x3 x4
    have := ev_lc_map (Φ := Py.run fs Γ (k + 3)) (Γ := Γ) (μ := μ) (x := E.call 3 (E.slot 4) (Es.cons (E.glob 0) Es.nil)) (t := T.nm 4) (it := I.seq (E.slot 2)) (c := Eo.none) (vs := [4]) (env := [some (.val (unD d)), some (.val (.int 1)), some (.val (.lst [rD d])), x3, x4]) (g := fun _ : Unit => rD d) (h := fun _ => rD (d * (1 / 2))) [()] (by simp -implicitDefEqProofs) (by simp) (fun _ _ => ⟨[some (.val (unD d)), some (.val (.int 1)), some (.val (.lst [rD d])), x3, some (.val (rD d))], by simp -implicitDefEqProofs, by simp, by simp -implicitDefEqProofs [g]⟩)
    rw [c1_halved_units]; exact this
  have r1 : rngS 0 (1 : Int) = some [.int 0] := rngS_map (n := 1) (by decide)
  have tu : ∀ μ : Store, itsS μ (unD d) = some [rD d] := fun _ => rfl
  rw [u_halved_units, b_halved_units]
  simp -implicitDefEqProofs [ex_for, r1, forS, l1_halved_units, hc, tu]
  rfl
end
/-! the law's own widths -/
def st (w : Nat → Int) (O : Nat → Nat → Nat → Option (Int × Int)) (m c : Nat) (g : Nat → Int) : Nat → Int := fun now => match O m c now with
  | none => g now
  | some p => mx2 (g now) (w m + (p.2 - p.1))
theorem st_cells (w : Nat → Int) (O : Nat → Nat → Nat → Option (Int × Int)) (now : Nat) : ∀ (l : List (Nat × Nat)) (g : Nat → Int), (l.foldl (fun g q => st w O q.1 q.2 g) g) now = (l.filterMap fun q => (O q.1 q.2 now).map fun p => w q.1 + (p.2 - p.1)).foldl mx2 (g now)
  | [], g => rfl
  | q :: l, g => by
    rw [List.foldl_cons, st_cells w O now l]
    cases h : O q.1 q.2 now with
    | none => rw [List.filterMap_cons_none (by rw [h]; rfl)]; unfold st; rw [h]
    | some p => rw [List.filterMap_cons_some (by rw [h]; rfl), List.foldl_cons]; unfold st; rw [h]
def wlD (nm : Nat) (w : Nat → Int) : D := .lst ((List.range nm).map fun m => .int (w m))
theorem wl_at {nm : Nat} {w : Nat → Int} {m : Nat} (h : m < nm) : atI ((List.range nm).map fun m => D.int (w m)) (m : Int) = some (.int (w m)) := by
  have := atI_map (g := fun m => D.int (w m)) (l := List.range nm) (i := m) (by simpa using h)
  rw [this]; simp
theorem wl_set {nm : Nat} {g : Nat → Int} {m : Nat} {v : Int} (h : m < nm) : ((List.range nm).map fun m => D.int (g m)).set m (.int v) = (List.range nm).map fun i => D.int (if i = m then v else g i) := by
  apply List.ext_getElem
  · simp
  · intro i h1 h2
    rw [List.getElem_set]
    simp only [List.getElem_map, List.getElem_range]
    by_cases h : m = i
    · subst h; simp
    · rw [if_neg h, if_neg (Ne.symm h)]
section
variable {k : Nat} {μ : Store} {nm nc : Nat} {O : Nat → Nat → Nat → Option (Int × Int)}
theorem lf_row (hμ : scalS μ = true) (hm : nm ≤ 2) (w : Nat → Int) (m c : Nat) (hmm : m < nm) (g : Nat → Int) (x1 x2 x5 x8 : Option SV) : ∃ y8 : Option SV, forS (T.nm 8) (fun env' μ' => exs (Py.run fs Γ k) Γ l1__law_failed env' μ') (rangeD 0 nm) [some (.val (offsO nm nc O)), x1, x2, some (.val (wlD nm w)), some (.val (.int m)), x5, some (.own ((List.range nm).map fun i => .int (g i))), some (.val (rowO nm O m c)), x8] μ = some (.nx [some (.val (offsO nm nc O)), x1, x2, some (.val (wlD nm w)), some (.val (.int m)), x5, some (.own ((List.range nm).map fun i => .int (st w O m c g i))), some (.val (rowO nm O m c)), y8] μ) := by
  have t : ∀ μ : Store, itsS μ (rowO nm O m c) = some ((List.range nm).map fun now => offD (O m c now)) := fun _ => rfl
  have tw : ∀ μ : Store, itsS μ (wlD nm w) = some ((List.range nm).map fun m => .int (w m)) := fun _ => rfl
  obtain ⟨env', μ', e, y8, rfl, rfl⟩ := forS_inv (t := T.nm 8) (b := fun env' μ' => exs (Py.run fs Γ k) Γ l1__law_failed env' μ') (ds := rangeD 0 nm) (env := [some (.val (offsO nm nc O)), x1, x2, some (.val (wlD nm w)), some (.val (.int m)), x5, some (.own ((List.range nm).map fun i => .int (g i))), some (.val (rowO nm O m c)), x8]) (μ := μ)
    (fun i env μ' => ∃ y8 : Option SV, env = [some (.val (offsO nm nc O)), x1, x2, some (.val (wlD nm w)), some (.val (.int m)), x5, some (.own ((List.range nm).map fun q => .int (if q < i then st w O m c g q else g q))), some (.val (rowO nm O m c)), y8] ∧ μ' = μ) ⟨x8, by simp, rfl⟩ (by
      rintro i env m' d hd ⟨y8, rfl, rfl⟩
      obtain ⟨rfl, hi⟩ := rangeD_get hd
      refine ⟨[some (.val (offsO nm nc O)), x1, x2, some (.val (wlD nm w)), some (.val (.int m)), x5, some (.own ((List.range nm).map fun q => .int (if q < i then st w O m c g q else g q))), some (.val (rowO nm O m c)), some (.val (.int (0 + (i : Nat))))], [some (.val (offsO nm nc O)), x1, x2, some (.val (wlD nm w)), some (.val (.int m)), x5, some (.own ((List.range nm).map fun q => .int (if q < i + 1 then st w O m c g q else g q))), some (.val (rowO nm O m c)), some (.val (.int (0 + (i : Nat))))], m', by simp, .inl ?_, _, rfl, rfl⟩
      have hl := wl_at (nm := nm) (w := fun q => if q < i then st w O m c g q else g q) hi
      simp only [Nat.lt_irrefl, if_false] at hl
      cases ho : O m c i with
      | none =>
        have e : ∀ q, (if q < i + 1 then st w O m c g q else g q) = if q < i then st w O m c g q else g q := by
          intro q
          by_cases h1 : q < i
          · rw [if_pos h1, if_pos (by omega)]
          · rw [if_neg h1]
            by_cases h2 : q = i
            · subst h2; rw [if_pos (by omega)]; unfold st; rw [ho]
            · rw [if_neg (by omega)]
        have hr : atI ((List.range nm).map fun now => offD (O m c now)) (i : Int) = some .non := by rw [rowO_at hi, ho]; rfl
        have n1 : Py.isNon .non = true := rfl
        simp -implicitDefEqProofs [l1__law_failed, t, hr, e, n1]
      | some p =>
        have hr : atI ((List.range nm).map fun now => offD (O m c now)) (i : Int) = some (.tup [prI p]) := by rw [rowO_at hi, ho]; rfl
        have es : ((List.range nm).map fun q => D.int (if q < i then st w O m c g q else g q)).set i (.int (mx2 (g i) (w m + (p.2 - p.1)))) = (List.range nm).map fun q => D.int (if q < i + 1 then st w O m c g q else g q) := by
          rw [wl_set hi]
          congr 1
          funext q
          congr 1
          by_cases h2 : q = i
          · subst h2; rw [if_pos rfl, if_pos (by omega)]; unfold st; rw [ho]
          · rw [if_neg h2]
            by_cases h1 : q < i
            · rw [if_pos h1, if_pos (by omega)]
            · rw [if_neg h1, if_neg (by omega)]
        have hix : ixN nm (i : Int) = some i := by unfold ixN; simp [hi]
        have hv : w m + p.2 - p.1 = w m + (p.2 - p.1) := by omega
        have n0 : ∀ l, Py.isNon (.tup l) = false := fun _ => rfl
        simp -implicitDefEqProofs [l1__law_failed, t, tw, hr, n0, ev_bor, hl, wl_at hmm, tpI, a20, a21, at1_0, hv, hix, noL, hμ, ← es, mx2])
  rw [rangeD_len] at e
  refine ⟨y8, ?_⟩
  rw [e]
  have : (List.range nm).map (fun q => D.int (if q < nm then st w O m c g q else g q)) = (List.range nm).map fun i => D.int (st w O m c g i) := by
    apply List.map_congr_left
    intro q hq
    rw [if_pos (List.mem_range.mp hq)]
  rw [this]
end
end P48
end
section
set_option Elab.async false
set_option linter.all false
set_option maxRecDepth 100000
set_option maxHeartbeats 0
namespace P48
open PySem L2 Py Geo FM
theorem flc (w : Nat → Int) (O : Nat → Nat → Nat → Option (Int × Int)) (nm nc : Nat) (g : Nat → Int) : (List.range nm).foldl (fun g m => (List.range nc).foldl (fun g c => st w O m c g) g) g = (cells nm nc).foldl (fun g q => st w O q.1 q.2 g) g := by
  unfold cells
  rw [List.foldl_flatMap]
  congr 1
  funext g m
  rw [List.foldl_map]
section
variable {k : Nat} {μ : Store} {nm nc : Nat} {O : Nat → Nat → Nat → Option (Int × Int)}
theorem lf_band (hμ : scalS μ = true) (hm : nm ≤ 2) (w : Nat → Int) (m : Nat) (hmm : m < nm) (g : Nat → Int) (x1 x2 x5 x7 x8 : Option SV) : ∃ y7 y8 : Option SV, forS (T.nm 7) (fun env' μ' => exs (Py.run fs Γ k) Γ l2__law_failed env' μ') ((List.range nc).map (rowO nm O m)) [some (.val (offsO nm nc O)), x1, x2, some (.val (wlD nm w)), some (.val (.int m)), x5, some (.own ((List.range nm).map fun i => .int (g i))), x7, x8] μ = some (.nx [some (.val (offsO nm nc O)), x1, x2, some (.val (wlD nm w)), some (.val (.int m)), x5, some (.own ((List.range nm).map fun i => .int ((List.range nc).foldl (fun g c => st w O m c g) g i))), y7, y8] μ) := by
  have t0 : ∀ μ : Store, itsS μ (offsO nm nc O) = some ((List.range nm).map (bandO nm nc O)) := fun _ => rfl
  have r1 := rngS_0 (n := nm) (by omega)
  obtain ⟨env', e, y7, y8, rfl⟩ := forS_fold (t := T.nm 7) (b := fun env' μ' => exs (Py.run fs Γ k) Γ l2__law_failed env' μ') (μ := μ) (rowO nm O m) (fun (g : Nat → Int) c => st w O m c g)
    (fun j g env => ∃ y7 y8 : Option SV, env = [some (.val (offsO nm nc O)), x1, x2, some (.val (wlD nm w)), some (.val (.int m)), x5, some (.own ((List.range nm).map fun i => .int (g i))), y7, y8]) (List.range nc) 0 g _ ⟨x7, x8, rfl⟩ (by
      rintro c hc j g env _ _ ⟨y7, y8, rfl⟩
      obtain ⟨z8, e⟩ := lf_row (k := k) (nc := nc) (O := O) hμ hm w m c hmm g x1 x2 x5 y8
      refine ⟨[some (.val (offsO nm nc O)), x1, x2, some (.val (wlD nm w)), some (.val (.int m)), x5, some (.own ((List.range nm).map fun i => .int (g i))), some (.val (rowO nm O m c)), y8], [some (.val (offsO nm nc O)), x1, x2, some (.val (wlD nm w)), some (.val (.int m)), x5, some (.own ((List.range nm).map fun i => .int (st w O m c g i))), some (.val (rowO nm O m c)), z8], by simp, .inl ?_, some (.val (rowO nm O m c)), z8, rfl⟩
      simp -implicitDefEqProofs [l2__law_failed, ex_for, t0, r1, e])
  exact ⟨y7, y8, e⟩
theorem bandO_at {m : Nat} (h : m < nm) : atI ((List.range nm).map (bandO nm nc O)) (m : Int) = some (bandO nm nc O m) := by
  have := atI_map (g := bandO nm nc O) (l := List.range nm) (i := m) (by simpa using h)
  rw [this]; simp
theorem r_lfailed (hμ : scalS μ = true) (hm : nm ≤ 2) (hn : nc ≤ 3) (w0 : Int) (j : Nat) (hj : j ≤ 10) : Py.run fs Γ (k + 1) f__law_failed [offsO nm nc O, .int w0, .int j] μ = some (wlD nm (wid nm nc O w0 j), μ) := by
  have t0 : ∀ μ : Store, itsS μ (offsO nm nc O) = some ((List.range nm).map (bandO nm nc O)) := fun _ => rfl
  have s0 : seqOf (offsO nm nc O) = some ((List.range nm).map (bandO nm nc O)) := rfl
  have sb : ∀ m, seqOf (bandO nm nc O m) = some ((List.range nc).map (rowO nm O m)) := fun _ => rfl
  have r1 := rngS_map (n := nm) (by omega)
  have rj := rngS_map (n := j) (by omega)
  have c1 : ∀ x3 x4 x5 x6 x7 x8 : Option SV, ev (Py.run fs Γ k) Γ c1__law_failed [some (.val (offsO nm nc O)), some (.val (.int w0)), some (.val (.int j)), x3, x4, x5, x6, x7, x8] μ = some (wlD nm fun _ => w0, μ) := by
    intro x3 x4 x5 x6 x7 x8
    rw [c1__law_failed]
    exact ev_lc_map (g := bandO nm nc O) (h := fun _ => .int w0) (List.range nm) (by simp -implicitDefEqProofs [s0]) (by simp; omega) fun m _ => ⟨[some (.val (offsO nm nc O)), some (.val (.int w0)), some (.val (.int j)), x3, some (.val (bandO nm nc O m)), x5, x6, x7, x8], by simp, by simp, by simp -implicitDefEqProofs⟩
  have c2 : ∀ x1 x2 x3 x4 x5 x6 x7 x8 : Option SV, ev (Py.run fs Γ k) Γ c2__law_failed [some (.val (offsO nm nc O)), x1, x2, x3, x4, x5, x6, x7, x8] μ = some (.lst ((List.range nm).map fun _ => .int 0), μ) := by
    intro x1 x2 x3 x4 x5 x6 x7 x8
    rw [c2__law_failed]
    exact ev_lc_map (g := bandO nm nc O) (h := fun _ => .int 0) (List.range nm) (by simp -implicitDefEqProofs [s0]) (by simp; omega) fun m _ => ⟨[some (.val (offsO nm nc O)), x1, x2, x3, some (.val (bandO nm nc O m)), x5, x6, x7, x8], by simp, by simp, by simp -implicitDefEqProofs⟩
  have step : ∀ (w : Nat → Int) (x4 x5 x6 x7 x8 : Option SV), ∃ y4 y6 y7 y8 : Option SV, exs (Py.run fs Γ k) Γ l4__law_failed [some (.val (offsO nm nc O)), some (.val (.int w0)), some (.val (.int j)), some (.val (wlD nm w)), x4, x5, x6, x7, x8] μ = some (.nx [some (.val (offsO nm nc O)), some (.val (.int w0)), some (.val (.int j)), some (.val (wlD nm fun now => mx (cand nm nc O w now))), y4, x5, y6, y7, y8] μ) := by
    intro w x4 x5 x6 x7 x8
    obtain ⟨env', e, y4, y7, y8, rfl⟩ := forS_fold (t := T.nm 4) (b := fun env' μ' => exs (Py.run fs Γ k) Γ l3__law_failed env' μ') (μ := μ) (fun m : Nat => .int (m : Int)) (fun (g : Nat → Int) m => (List.range nc).foldl (fun g c => st w O m c g) g)
      (fun _ g env => ∃ y4 y7 y8 : Option SV, env = [some (.val (offsO nm nc O)), some (.val (.int w0)), some (.val (.int j)), some (.val (wlD nm w)), y4, x5, some (.own ((List.range nm).map fun i => .int (g i))), y7, y8]) (List.range nm) 0 (fun _ => 0) _ ⟨x4, x7, x8, rfl⟩ (by
        rintro m hm' i g env _ _ ⟨y4, y7, y8, rfl⟩
        have hmm := List.mem_range.mp hm'
        obtain ⟨z7, z8, e⟩ := lf_band (k := k) (nc := nc) (O := O) hμ hm w m hmm g (some (.val (.int w0))) (some (.val (.int j))) x5 y7 y8
        refine ⟨[some (.val (offsO nm nc O)), some (.val (.int w0)), some (.val (.int j)), some (.val (wlD nm w)), some (.val (.int m)), x5, some (.own ((List.range nm).map fun i => .int (g i))), y7, y8], _, by simp, .inl ?_, some (.val (.int m)), z7, z8, rfl⟩
        simp -implicitDefEqProofs [l3__law_failed, ex_for, t0, bandO_at hmm, sb, e])
    rw [flc] at e
    have hg : ∀ i, (cells nm nc).foldl (fun g q => st w O q.1 q.2 g) (fun _ => 0) i = mx (cand nm nc O w i) := fun i => st_cells w O i (cells nm nc) fun _ => 0
    simp only [hg] at e
    refine ⟨y4, some (.val (wlD nm fun now => mx (cand nm nc O w now))), y7, y8, ?_⟩
    simp -implicitDefEqProofs [l4__law_failed, ex_for, c2, t0, r1] at e ⊢
    simp -implicitDefEqProofs [e]
    rfl
  obtain ⟨env', e1, x4, x5, x6, x7, x8, rfl⟩ := forS_fold (t := T.nm 5) (b := fun env' μ' => exs (Py.run fs Γ k) Γ l4__law_failed env' μ') (μ := μ) (fun m : Nat => .int (m : Int)) (fun (i : Nat) _ => i + 1)
    (fun _ i env => ∃ x4 x5 x6 x7 x8 : Option SV, env = [some (.val (offsO nm nc O)), some (.val (.int w0)), some (.val (.int j)), some (.val (wlD nm (wid nm nc O w0 i))), x4, x5, x6, x7, x8]) (List.range j) 0 0 _ ⟨none, none, none, none, none, rfl⟩ (by
      rintro m _ _ i env _ _ ⟨x4, x5, x6, x7, x8, rfl⟩
      obtain ⟨y4, y6, y7, y8, e⟩ := step (wid nm nc O w0 i) x4 (some (.val (.int m))) x6 x7 x8
      exact ⟨[some (.val (offsO nm nc O)), some (.val (.int w0)), some (.val (.int j)), some (.val (wlD nm (wid nm nc O w0 i))), x4, some (.val (.int m)), x6, x7, x8], _, by simp, .inl e, y4, _, y6, y7, y8, rfl⟩)
  have hf : ∀ (l : List Nat) (i : Nat), l.foldl (fun (i : Nat) _ => i + 1) i = i + l.length := by
    intro l
    induction l with
    | nil => simp
    | cons x l ih => intro i; rw [List.foldl_cons, ih, List.length_cons]; omega
  rw [hf, List.length_range, Nat.zero_add] at e1
  have w00 : wid nm nc O w0 0 = fun _ => w0 := rfl
  rw [w00] at e1
  rw [u__law_failed, b__law_failed]
  simp -implicitDefEqProofs [ex_for, c1, rj] at e1 ⊢
  simp -implicitDefEqProofs [e1]
/-! all ways -/
def lvD (q : Int × Nat) : D := .tup [.int q.1, .int q.2]
theorem lvT (q : Int × Nat) : ∀ μ : Store, itsS μ (lvD q) = some [.int q.1, .int q.2] := fun _ => rfl
theorem inS_lv (q : Int × Nat) (l : List (Int × Nat)) (hl : l.length ≤ 10000) : inS (lvD q) (.lst (l.map lvD)) = some (decide (q ∈ l)) := by
  obtain ⟨p, h1, h2, h3, h4⟩ := pln_py 2 (.lst (l.map lvD)) (plain_lst hl fun a _ => by simp [lvD, pln])
  have hs : SeqAt.shaped p = true := by unfold SeqAt.shaped; rw [h2, Bool.true_and]; exact decide_eq_true (by omega)
  obtain ⟨p', g1, g2, g3, _⟩ := pln_py 1 (lvD q) (by simp [lvD, pln])
  have hs' : SeqAt.shaped p' = true := by unfold SeqAt.shaped; rw [g2, Bool.true_and]; exact decide_eq_true (by omega)
  have ty : ∀ r : Int × Nat, toPy (lvD r) = some (.tuple [.int r.1, .int r.2]) := fun r => by unfold lvD; rw [toPy, toPys, toPy, toPys, toPy, toPys]; rfl
  have tys : ∀ l : List (Int × Nat), toPys (l.map lvD) = some (l.map fun r => .tuple [.int r.1, .int r.2]) := by
    intro l
    induction l with
    | nil => rw [List.map_nil, toPys]; rfl
    | cons r l ih => rw [List.map_cons, toPys, ty, ih]; rfl
  rw [toPy, tys] at h1
  cases h1
  rw [ty] at g1
  cases g1
  unfold inS
  rw [ty]
  dsimp only [Option.bind_some]
  rw [toPy, tys]
  dsimp only [Option.bind_some, Option.map_some]
  rw [hs', hs, Bool.and_self, if_pos rfl]
  congr 1
  clear h2 h3 h4 hs hl
  induction l with
  | nil => rfl
  | cons r l ih =>
    rw [List.map_cons, List.any_cons, ih]
    have : PyData.eqv (.tuple [.int r.1, .int r.2]) (.tuple [.int q.1, .int q.2]) = decide (q = r) := by
      simp only [PyData.eqv, PyData.eqvAll, Bool.and_true]
      rw [Bool.eq_iff_iff]
      obtain ⟨a, b⟩ := r
      obtain ⟨c, d⟩ := q
      simp
      omega
    rw [this, Bool.eq_iff_iff]
    simp
end
end P48
end
section
set_option Elab.async false
set_option linter.all false
set_option maxRecDepth 100000
set_option maxHeartbeats 0
namespace P48
open PySem L2 Py Geo FM
section
variable {k : Nat} {μ : Store} {nm nc : Nat} {O : Nat → Nat → Nat → Option (Int × Int)}
theorem grow_len (L : List (Int × Nat)) (w : Int) (m c now : Nat) : (grow nm O L w m c now).length ≤ L.length + 1 := by
  unfold grow
  split
  · omega
  · split
    · omega
    · simp
theorem aw_row (hμ : scalS μ = true) (hm : nm ≤ 2) (w : Int) (m c : Nat) (L : List (Int × Nat)) (hL : L.length ≤ 5000) (x1 x2 x3 x4 x5 x6 x10 x11 : Option SV) : ∃ y10 : Option SV, forS (T.nm 10) (fun env' μ' => exs (Py.run fs Γ k) Γ l1__law_all_ways env' μ') ((List.range nm).map fun i : Nat => .int (i : Int)) [some (.val (offsO nm nc O)), x1, x2, x3, x4, x5, x6, some (.own (L.map lvD)), some (.val (.int w)), some (.val (rowO nm O m c)), x10, x11] μ = some (.nx [some (.val (offsO nm nc O)), x1, x2, x3, x4, x5, x6, some (.own (((List.range nm).foldl (fun L now => grow nm O L w m c now) L).map lvD)), some (.val (.int w)), some (.val (rowO nm O m c)), y10, x11] μ) := by
  have t : ∀ μ : Store, itsS μ (rowO nm O m c) = some ((List.range nm).map fun now => offD (O m c now)) := fun _ => rfl
  obtain ⟨env', e, y10, rfl, _⟩ := forS_fold (t := T.nm 10) (b := fun env' μ' => exs (Py.run fs Γ k) Γ l1__law_all_ways env' μ') (μ := μ) (fun i : Nat => .int (i : Int)) (fun L now => grow nm O L w m c now)
    (fun j L env => ∃ y10 : Option SV, env = [some (.val (offsO nm nc O)), x1, x2, x3, x4, x5, x6, some (.own (L.map lvD)), some (.val (.int w)), some (.val (rowO nm O m c)), y10, x11] ∧ L.length ≤ 5000 + j) (List.range nm) 0 L _ ⟨x10, rfl, by omega⟩ (by
      rintro i hi' j L env _ hj ⟨y10, rfl, hl⟩
      have hi := List.mem_range.mp hi'
      have hj' : j < nm := by simpa using hj
      have hin := inS_lv
      refine ⟨[some (.val (offsO nm nc O)), x1, x2, x3, x4, x5, x6, some (.own (L.map lvD)), some (.val (.int w)), some (.val (rowO nm O m c)), some (.val (.int i)), x11], [some (.val (offsO nm nc O)), x1, x2, x3, x4, x5, x6, some (.own ((grow nm O L w m c i).map lvD)), some (.val (.int w)), some (.val (rowO nm O m c)), some (.val (.int i)), x11], by simp, .inl ?_, some (.val (.int i)), rfl, by have := grow_len (nm := nm) (O := O) L w m c i; omega⟩
      have hz : L.length < 16777216 := by omega
      cases ho : O m c i with
      | none =>
        have hr : atI ((List.range nm).map fun now => offD (O m c now)) (i : Int) = some .non := by rw [rowO_at hi, ho]; rfl
        have n1 : Py.isNon .non = true := rfl
        have hg : grow nm O L w m c i = L := by unfold grow; rw [ho]
        rw [hg]
        simp -implicitDefEqProofs [l1__law_all_ways, evT_bor, t, hr, n1, hμ]
      | some p =>
        have hr : atI ((List.range nm).map fun now => offD (O m c now)) (i : Int) = some (.tup [prI p]) := by rw [rowO_at hi, ho]; rfl
        have n0 : ∀ l, Py.isNon (.tup l) = false := fun _ => rfl
        have hv : w + p.2 - p.1 = w + (p.2 - p.1) := by omega
        have hin := inS_lv (w + (p.2 - p.1), i) L (by omega)
        have hlv : lvD (w + (p.2 - p.1), i) = .tup [.int (w + (p.2 - p.1)), .int i] := rfl
        rw [hlv] at hin
        unfold grow
        rw [ho]
        dsimp only
        by_cases q : (w + (p.2 - p.1), i) ∈ L
        · rw [if_pos q]
          simp -implicitDefEqProofs [l1__law_all_ways, evT_bor, t, hr, n0, hμ, tpI, a20, a21, at1_0, hv, szle, hin, q]
        · rw [if_neg q, List.map_append, List.map_cons, hlv]
          simp -implicitDefEqProofs [l1__law_all_ways, evT_bor, t, hr, n0, hμ, tpI, a20, a21, at1_0, hv, szle, hin, q, SZ, hz])
  exact ⟨y10, e⟩
theorem fold_len {α : Type} {f : List (Int × Nat) → α → List (Int × Nat)} {b : Nat} (hf : ∀ L a, (f L a).length ≤ L.length + b) : ∀ (l : List α) (L : List (Int × Nat)), (l.foldl f L).length ≤ L.length + b * l.length
  | [], L => by simp
  | a :: l, L => by
    rw [List.foldl_cons]
    have h1 := fold_len hf l (f L a)
    have h2 := hf L a
    rw [List.length_cons, Nat.mul_add]
    omega
theorem aw_band (hμ : scalS μ = true) (hm : nm ≤ 2) (hn : nc ≤ 3) (w : Int) (m : Nat) (L : List (Int × Nat)) (hL : L.length ≤ 4000) (x1 x2 x3 x4 x5 x6 x9 x10 x11 : Option SV) : ∃ y9 y10 : Option SV, forS (T.nm 9) (fun env' μ' => exs (Py.run fs Γ k) Γ l2__law_all_ways env' μ') ((List.range nc).map (rowO nm O m)) [some (.val (offsO nm nc O)), x1, x2, x3, x4, x5, x6, some (.own (L.map lvD)), some (.val (.int w)), x9, x10, x11] μ = some (.nx [some (.val (offsO nm nc O)), x1, x2, x3, x4, x5, x6, some (.own (((List.range nc).foldl (fun L c => (List.range nm).foldl (fun L now => grow nm O L w m c now) L) L).map lvD)), some (.val (.int w)), y9, y10, x11] μ) := by
  have t0 : ∀ μ : Store, itsS μ (offsO nm nc O) = some ((List.range nm).map (bandO nm nc O)) := fun _ => rfl
  have r1 := rngS_map (n := nm) (by omega)
  obtain ⟨env', e, y9, y10, rfl, _⟩ := forS_fold (t := T.nm 9) (b := fun env' μ' => exs (Py.run fs Γ k) Γ l2__law_all_ways env' μ') (μ := μ) (rowO nm O m) (fun L c => (List.range nm).foldl (fun L now => grow nm O L w m c now) L)
    (fun j L env => ∃ y9 y10 : Option SV, env = [some (.val (offsO nm nc O)), x1, x2, x3, x4, x5, x6, some (.own (L.map lvD)), some (.val (.int w)), y9, y10, x11] ∧ L.length ≤ 4000 + 2 * j) (List.range nc) 0 L _ ⟨x9, x10, rfl, by omega⟩ (by
      rintro c hc j L env _ hj ⟨y9, y10, rfl, hl⟩
      have hj' : j < nc := by simpa using hj
      obtain ⟨z10, e⟩ := aw_row (k := k) (nc := nc) (O := O) hμ hm w m c L (by omega) x1 x2 x3 x4 x5 x6 y10 x11
      refine ⟨[some (.val (offsO nm nc O)), x1, x2, x3, x4, x5, x6, some (.own (L.map lvD)), some (.val (.int w)), some (.val (rowO nm O m c)), y10, x11], [some (.val (offsO nm nc O)), x1, x2, x3, x4, x5, x6, some (.own (((List.range nm).foldl (fun L now => grow nm O L w m c now) L).map lvD)), some (.val (.int w)), some (.val (rowO nm O m c)), z10, x11], by simp, .inl ?_, some (.val (rowO nm O m c)), z10, rfl, ?_⟩
      · simp -implicitDefEqProofs [l2__law_all_ways, ex_for, t0, r1, e]
      · have := fold_len (f := fun L now => grow nm O L w m c now) (b := 1) (fun L a => grow_len L w m c a) (List.range nm) L
        simp only [List.length_range] at this
        omega)
  exact ⟨y9, y10, e⟩
theorem aw_level (hμ : scalS μ = true) (hm : nm ≤ 2) (hn : nc ≤ 3) (l : List (Int × Nat)) (hl : l.length ≤ 500) (hlm : ∀ q ∈ l, q.2 < nm) (x1 x2 x3 x4 x5 x6 x8 x9 x10 x11 : Option SV) : ∃ y4 y8 y9 y10 : Option SV, forS (T.tp [T.nm 8, T.nm 4]) (fun env' μ' => exs (Py.run fs Γ k) Γ l3__law_all_ways env' μ') (l.map lvD) [some (.val (offsO nm nc O)), x1, x2, x3, x4, x5, x6, some (.own []), x8, x9, x10, x11] μ = some (.nx [some (.val (offsO nm nc O)), x1, x2, x3, y4, x5, x6, some (.own ((next nm nc O l).map lvD)), y8, y9, y10, x11] μ) := by
  have t0 : ∀ μ : Store, itsS μ (offsO nm nc O) = some ((List.range nm).map (bandO nm nc O)) := fun _ => rfl
  have sb : ∀ m, seqOf (bandO nm nc O m) = some ((List.range nc).map (rowO nm O m)) := fun _ => rfl
  obtain ⟨env', e, y4, y8, y9, y10, rfl, _⟩ := forS_fold (t := T.tp [T.nm 8, T.nm 4]) (b := fun env' μ' => exs (Py.run fs Γ k) Γ l3__law_all_ways env' μ') (μ := μ) lvD (fun L (q : Int × Nat) => (List.range nc).foldl (fun L c => (List.range nm).foldl (fun L now => grow nm O L q.1 q.2 c now) L) L)
    (fun j L env => ∃ y4 y8 y9 y10 : Option SV, env = [some (.val (offsO nm nc O)), x1, x2, x3, y4, x5, x6, some (.own (L.map lvD)), y8, y9, y10, x11] ∧ L.length ≤ 6 * j) l 0 [] _ ⟨x4, x8, x9, x10, rfl, by simp⟩ (by
      rintro q hq j L env _ hj ⟨y4, y8, y9, y10, rfl, hL⟩
      have hmm := hlm q hq
      obtain ⟨z9, z10, e⟩ := aw_band (k := k) (O := O) hμ hm hn q.1 q.2 L (by omega) x1 x2 x3 (some (.val (.int q.2))) x5 x6 y9 y10 x11
      refine ⟨[some (.val (offsO nm nc O)), x1, x2, x3, some (.val (.int q.2)), x5, x6, some (.own (L.map lvD)), some (.val (.int q.1)), y9, y10, x11], [some (.val (offsO nm nc O)), x1, x2, x3, some (.val (.int q.2)), x5, x6, some (.own (((List.range nc).foldl (fun L c => (List.range nm).foldl (fun L now => grow nm O L q.1 q.2 c now) L) L).map lvD)), some (.val (.int q.1)), z9, z10, x11], by simp -implicitDefEqProofs [lvD], .inl ?_, some (.val (.int q.2)), some (.val (.int q.1)), z9, z10, rfl, ?_⟩
      · simp -implicitDefEqProofs [l3__law_all_ways, ex_for, t0, bandO_at hmm, sb, e]
      · have h1 := fold_len (f := fun L c => (List.range nm).foldl (fun L now => grow nm O L q.1 q.2 c now) L) (b := 2) (fun L c => by
          have := fold_len (f := fun L now => grow nm O L q.1 q.2 c now) (b := 1) (fun L a => grow_len L q.1 q.2 c a) (List.range nm) L
          simp only [List.length_range] at this
          omega) (List.range nc) L
        simp only [List.length_range] at h1
        omega)
  refine ⟨y4, y8, y9, y10, ?_⟩
  rw [List.map_nil] at e
  rw [e]
  have : l.foldl (fun L (q : Int × Nat) => (List.range nc).foldl (fun L c => (List.range nm).foldl (fun L now => grow nm O L q.1 q.2 c now) L) L) [] = next nm nc O l := by
    unfold next trips
    rw [List.foldl_flatMap]
    congr 1
    funext L q
    rw [List.foldl_flatMap]
    congr 1
    funext L c
    rw [List.foldl_map]
  rw [this]
theorem next_len (hm : nm ≤ 2) (hn : nc ≤ 3) (l : List (Int × Nat)) : (next nm nc O l).length ≤ 6 * l.length := by
  have h2 : (trips nm nc l).length ≤ 6 * l.length := by
    unfold trips
    induction l with
    | nil => simp
    | cons q l ih =>
      rw [List.flatMap_cons, List.length_append]
      have : ((List.range nc).flatMap fun c => (List.range nm).map fun now => (q.1, q.2, c, now)).length = nc * nm := by
        rw [List.length_flatMap]
        have hs : ∀ l : List Nat, (l.map fun c => ((List.range nm).map fun now => (q.1, q.2, c, now)).length).sum = l.length * nm := by
          intro l
          induction l with
          | nil => simp
          | cons x l ih => rw [List.map_cons, List.sum_cons, ih, List.length_map, List.length_range, List.length_cons, Nat.succ_mul]; omega
        rw [hs, List.length_range]
      rw [this, List.length_cons]
      have : nc * nm ≤ 3 * 2 := Nat.mul_le_mul hn hm
      omega
  have h := foldl_grow_len (nm := nm) (O := O) (trips nm nc l) []
  unfold next
  simp only [List.length_nil] at h
  omega
theorem level_len (hm : nm ≤ 2) (hn : nc ≤ 3) (w0 : Int) : ∀ j, (level nm nc O w0 j).length ≤ 2 * 6 ^ j
  | 0 => by rw [level]; simp; omega
  | j + 1 => by
    have h := next_len (O := O) hm hn (level nm nc O w0 j)
    have h2 := level_len hm hn w0 j
    rw [level, Nat.pow_succ]
    omega
theorem r_all_ways (hμ : scalS μ = true) (hO : OOk nm nc O) (hm : nm ≤ 2) (hn : nc ≤ 3) (w0 : Int) (h0 : 0 ≤ w0) (j : Nat) (hj : j ≤ 3) : Py.run fs Γ (k + 1) f__law_all_ways [offsO nm nc O, .int w0, .int j] μ = some (wlD nm (wid nm nc O w0 j), μ) := by
  have t0 : ∀ μ : Store, itsS μ (offsO nm nc O) = some ((List.range nm).map (bandO nm nc O)) := fun _ => rfl
  have r1 := rngS_map (n := nm) (by omega)
  have rj := rngS_map (n := j) (by omega)
  have hle : ∀ i, i ≤ 3 → (level nm nc O w0 i).length ≤ 500 := fun i hi => by
    have h := level_len (O := O) hm hn w0 i
    have : 6 ^ i ≤ 6 ^ 3 := Nat.pow_le_pow_right (by decide) hi
    omega
  have c1 : ∀ x3 x4 x5 x6 x7 x8 x9 x10 x11 : Option SV, ev (Py.run fs Γ k) Γ c1__law_all_ways [some (.val (offsO nm nc O)), some (.val (.int w0)), some (.val (.int j)), x3, x4, x5, x6, x7, x8, x9, x10, x11] μ = some (.lst ((List.range nm).map fun m => .lst [lvD (w0, m)]), μ) := by
    intro x3 x4 x5 x6 x7 x8 x9 x10 x11
    rw [c1__law_all_ways]
    exact ev_lc_map (g := fun m : Nat => .int (m : Int)) (h := fun m => .lst [lvD (w0, m)]) (List.range nm) (by simp -implicitDefEqProofs [t0, r1]) (by simp; omega) fun m _ => ⟨[some (.val (offsO nm nc O)), some (.val (.int w0)), some (.val (.int j)), x3, some (.val (.int m)), x5, x6, x7, x8, x9, x10, x11], by simp, by simp, by simp -implicitDefEqProofs [szle, lvD]⟩
  have c2 : ∀ x3 x4 x5 x6 x7 x8 x9 x10 x11 : Option SV, ev (Py.run fs Γ k) Γ c2__law_all_ways [some (.val (offsO nm nc O)), some (.val (.int w0)), some (.val (.int j)), x3, x4, x5, x6, x7, x8, x9, x10, x11] μ = some (.lst ((level nm nc O w0 0).map lvD), μ) := by
    intro x3 x4 x5 x6 x7 x8 x9 x10 x11
    rw [c2__law_all_ways, level, List.map_map]
    exact ev_lc_map (g := fun m : Nat => .int (m : Int)) (h := lvD ∘ fun m => (w0, m)) (List.range nm) (by simp -implicitDefEqProofs [t0, r1]) (by simp; omega) fun m _ => ⟨[some (.val (offsO nm nc O)), some (.val (.int w0)), some (.val (.int j)), x3, some (.val (.int m)), x5, x6, x7, x8, x9, x10, x11], by simp, by simp, by simp -implicitDefEqProofs [szle, lvD]⟩
  have c3 : ∀ (i m : Nat) (hi : i ≤ 3) (x3 x6 x7 x8 x9 x10 x11 : Option SV), ev (Py.run fs Γ k) Γ c3__law_all_ways [some (.val (offsO nm nc O)), some (.val (.int w0)), some (.val (.int j)), x3, some (.val (.int m)), some (.val (.lst ((level nm nc O w0 i).map lvD))), x6, x7, x8, x9, x10, x11] μ = some (.lst (((level nm nc O w0 i).filter fun q => decide (q.2 = m)).map lvD), μ) := by
    intro i m hi x3 x6 x7 x8 x9 x10 x11
    rw [c3__law_all_ways]
    refine ev_lc_filter (g := lvD) (h := lvD) (level nm nc O w0 i) (by simp -implicitDefEqProofs) (by have := hle i hi; omega) fun q _ => ⟨[some (.val (offsO nm nc O)), some (.val (.int w0)), some (.val (.int j)), x3, some (.val (.int m)), some (.val (.lst ((level nm nc O w0 i).map lvD))), x6, x7, x8, x9, x10, some (.val (lvD q))], by simp, ?_, fun _ => by simp⟩
    simp -implicitDefEqProofs [lvT, a21]
    omega
  have c4 : ∀ (i : Nat) (hi : i ≤ 3) (x3 x4 x6 x7 x8 x9 x10 x11 : Option SV), ev (Py.run fs Γ k) Γ c4__law_all_ways [some (.val (offsO nm nc O)), some (.val (.int w0)), some (.val (.int j)), x3, x4, some (.val (.lst ((level nm nc O w0 i).map lvD))), x6, x7, x8, x9, x10, x11] μ = some (.lst ((List.range nm).map fun m => .lst (((level nm nc O w0 i).filter fun q => decide (q.2 = m)).map lvD)), μ) := by
    intro i hi x3 x4 x6 x7 x8 x9 x10 x11
    rw [c4__law_all_ways]
    refine ev_lc_map (g := fun m : Nat => .int (m : Int)) (h := fun m => .lst (((level nm nc O w0 i).filter fun q => decide (q.2 = m)).map lvD)) (List.range nm) ?_ ?_ fun m _ => ?_
    · simp -implicitDefEqProofs [t0, r1]
    · simp; omega
    · exact ⟨[some (.val (offsO nm nc O)), some (.val (.int w0)), some (.val (.int j)), x3, some (.val (.int m)), some (.val (.lst ((level nm nc O w0 i).map lvD))), x6, x7, x8, x9, x10, x11], by simp, by simp, by simp -implicitDefEqProofs [c3 i m hi]⟩
  have hmax : ∀ m, m < nm → maxI (((level nm nc O w0 j).filter fun q => decide (q.2 = m)).map (·.1)) = wid nm nc O w0 j m ∧ ((level nm nc O w0 j).filter fun q => decide (q.2 = m)).map (·.1) ≠ [] := by
    intro m hmm
    obtain ⟨h1, h2⟩ := level_ok hO h0 j
    have hin : wid nm nc O w0 j m ∈ ((level nm nc O w0 j).filter fun q => decide (q.2 = m)).map (·.1) := List.mem_map.mpr ⟨(wid nm nc O w0 j m, m), List.mem_filter.mpr ⟨h2 m hmm, by simp⟩, rfl⟩
    have hne := List.ne_nil_of_mem hin
    obtain ⟨g1, g2⟩ := maxI_mem _ hne
    refine ⟨?_, hne⟩
    have g3 := g2 _ hin
    obtain ⟨q, hq, e⟩ := List.mem_map.mp g1
    obtain ⟨k1, k2⟩ := List.mem_filter.mp hq
    have k3 : q.2 = m := by simpa using k2
    have k4 := (h1 q k1).2.2
    rw [k3] at k4
    rw [← e] at g3 ⊢
    omega
  have c6 : ∀ x4 x5 x6 x7 x8 x9 x10 x11 : Option SV, ev (Py.run fs Γ k) Γ c6__law_all_ways [some (.val (offsO nm nc O)), some (.val (.int w0)), some (.val (.int j)), some (.val (.lst ((List.range nm).map fun m => .lst (((level nm nc O w0 j).filter fun q => decide (q.2 = m)).map lvD)))), x4, x5, x6, x7, x8, x9, x10, x11] μ = some (wlD nm (wid nm nc O w0 j), μ) := by
    intro x4 x5 x6 x7 x8 x9 x10 x11
    rw [c6__law_all_ways]
    refine ev_lc_map (g := fun m => D.lst (((level nm nc O w0 j).filter fun q => decide (q.2 = m)).map lvD)) (h := fun m => .int (wid nm nc O w0 j m)) (List.range nm) (by simp -implicitDefEqProofs) (by simp; omega) fun m hm' => ?_
    have hmm := List.mem_range.mp hm'
    obtain ⟨m1, m2⟩ := hmax m hmm
    have hx := max_ints (μ := μ) _ m2
    rw [m1] at hx
    have c5 : ev (Py.run fs Γ k) Γ c5__law_all_ways [some (.val (offsO nm nc O)), some (.val (.int w0)), some (.val (.int j)), some (.val (.lst ((List.range nm).map fun m => .lst (((level nm nc O w0 j).filter fun q => decide (q.2 = m)).map lvD)))), x4, x5, x6, x7, x8, some (.val (.lst (((level nm nc O w0 j).filter fun q => decide (q.2 = m)).map lvD))), x10, x11] μ = some (.lst ((((level nm nc O w0 j).filter fun q => decide (q.2 = m)).map (·.1)).map D.int), μ) := by
      rw [c5__law_all_ways, List.map_map]
      refine ev_lc_map (g := lvD) (h := D.int ∘ (·.1)) ((level nm nc O w0 j).filter fun q => decide (q.2 = m)) (by simp -implicitDefEqProofs) (by have := hle j hj; have := List.length_filter_le (fun q : Int × Nat => decide (q.2 = m)) (level nm nc O w0 j); omega) fun q _ => ⟨_, by simp; rfl, by simp, ?_⟩
      simp -implicitDefEqProofs [lvT, a20]
    refine ⟨_, by simp; rfl, by simp, ?_⟩
    simp -implicitDefEqProofs [-List.map_map, c5, hx]
  have hl0 : ∀ m, m < nm → ((level nm nc O w0 0).filter fun q => decide (q.2 = m)) = [(w0, m)] := by
    intro m hmm
    rw [level, List.filter_map]
    have : (List.range nm).filter ((fun q : Int × Nat => decide (q.2 = m)) ∘ fun m => (w0, m)) = [m] := by
      have h : nm = 0 ∨ nm = 1 ∨ nm = 2 := by omega
      rcases h with h | h | h
      · omega
      · subst h; have : m = 0 := by omega
        subst this; rfl
      · subst h
        have : m = 0 ∨ m = 1 := by omega
        rcases this with h | h <;> subst h <;> rfl
    rw [this]; rfl
  have hf0 : (List.range nm).map (fun m => D.lst [lvD (w0, m)]) = (List.range nm).map fun m => .lst (((level nm nc O w0 0).filter fun q => decide (q.2 = m)).map lvD) := by
    apply List.map_congr_left
    intro m hm'
    rw [hl0 m (List.mem_range.mp hm')]; rfl
  obtain ⟨env', e1, x4, x7, x8, x9, x10, x6, rfl, hij⟩ := forS_fold (t := T.nm 6) (b := fun env' μ' => exs (Py.run fs Γ k) Γ l4__law_all_ways env' μ') (μ := μ) (fun m : Nat => .int (m : Int)) (fun (i : Nat) _ => i + 1)
    (fun q i env => ∃ x4 x7 x8 x9 x10 x6 : Option SV, env = [some (.val (offsO nm nc O)), some (.val (.int w0)), some (.val (.int j)), some (.val (.lst ((List.range nm).map fun m => .lst [lvD (w0, m)]))), x4, some (.val (.lst ((level nm nc O w0 i).map lvD))), x6, x7, x8, x9, x10, none] ∧ i = q) (List.range j) 0 0 _ ⟨none, none, none, none, none, none, rfl, rfl⟩ (by
      rintro m _ q i env _ hq ⟨x4, x7, x8, x9, x10, x6, rfl, rfl⟩
      have hi : i < j := by simpa using hq
      obtain ⟨y4, y8, y9, y10, e⟩ := aw_level (k := k) (O := O) hμ hm hn (level nm nc O w0 i) (hle i (by omega)) (fun q hq => ((level_ok hO h0 i).1 q hq).1) (some (.val (.int w0))) (some (.val (.int j))) (some (.val (.lst ((List.range nm).map fun m => .lst [lvD (w0, m)])))) x4 (some (.val (.lst ((level nm nc O w0 i).map lvD)))) (some (.val (.int m))) x8 x9 x10 none
      refine ⟨[some (.val (offsO nm nc O)), some (.val (.int w0)), some (.val (.int j)), some (.val (.lst ((List.range nm).map fun m => .lst [lvD (w0, m)]))), x4, some (.val (.lst ((level nm nc O w0 i).map lvD))), some (.val (.int m)), x7, x8, x9, x10, none], [some (.val (offsO nm nc O)), some (.val (.int w0)), some (.val (.int j)), some (.val (.lst ((List.range nm).map fun m => .lst [lvD (w0, m)]))), y4, some (.val (.lst ((level nm nc O w0 (i + 1)).map lvD))), some (.val (.int m)), some (.val (.lst ((next nm nc O (level nm nc O w0 i)).map lvD))), y8, y9, y10, none], by simp, .inl ?_, y4, _, y8, y9, y10, _, rfl, rfl⟩
      simp -implicitDefEqProofs [l4__law_all_ways, ex_for, e, level, szle])
  have hf : ∀ (l : List Nat) (i : Nat), l.foldl (fun (i : Nat) _ => i + 1) i = i + l.length := by
    intro l
    induction l with
    | nil => simp
    | cons x l ih => intro i; rw [List.foldl_cons, ih, List.length_cons]; omega
  rw [hf, List.length_range, Nat.zero_add] at e1
  rw [u__law_all_ways, b__law_all_ways]
  by_cases hj0 : j = 0
  · have hp : ¬ (0 : Int) < j := by omega
    have hp' : ¬ 0 < j := by omega
    have hf0' : (List.range nm).map (fun m => D.lst [lvD (w0, m)]) = (List.range nm).map fun m => .lst (((level nm nc O w0 j).filter fun q => decide (q.2 = m)).map lvD) := by rw [hj0]; exact hf0
    simp -implicitDefEqProofs [ex_for, c1, c2, rj] at e1 ⊢
    rw [e1]
    simp -implicitDefEqProofs [hp, hp']
    rw [hf0']
    simp -implicitDefEqProofs [c6]
  · have hp : (0 : Int) < j := by omega
    have hp' : 0 < j := by omega
    have c4' := c4 j (by omega)
    simp -implicitDefEqProofs [ex_for, c1, c2, rj] at e1 ⊢
    rw [e1]
    simp -implicitDefEqProofs [c4', c6, hp, hp']
end
end P48
end
section
set_option Elab.async false
set_option linter.all false
set_option maxRecDepth 100000
set_option maxHeartbeats 0
namespace P48
open PySem L2 Py Geo FM
/-! ### what is drawn -/
section
variable {k : Nat} (ns : List Int) (t : Int) (h : DealOk ns t)
include h
theorem r_takeN (m : Nat) (hm : 0 < m) (a : Nat) (ha : a < 100000) : ∃ r : Nat, r < m ∧ Py.run fs Γ (k + 1) f__law_take [dealD ns t, .int (m : Int)] (Sa a) = some (.int (r : Int), Sa (a + 1)) := by
  obtain ⟨r, h1, h2, e⟩ := r_take (k := k) (a := a) ns t (m : Int) h (by omega) ha
  obtain ⟨r', rfl⟩ := Int.eq_ofNat_of_zero_le h1
  exact ⟨r', by omega, e⟩
omit h in
theorem r_line {μ : Store} (n i : Nat) (lo hi : Rat) (hn : n ≤ 1000) : Py.run fs Γ (k + 1) f__law_line [.int i, .int n, rD lo, rD hi] μ = some (.tup [bdD ⟨unitL n i 1, -lo, false⟩, bdD ⟨unitL n i (-1), hi, false⟩], μ) := by
  have hr := rngS_map (n := n) (by omega)
  have hm : ∀ v : Rat, (unitL n i v).map rD = (List.range n).map fun m => rD (if m = i then v else 0) := fun v => by unfold unitL; rw [List.map_map]; rfl
  have e1 : ∀ x4 x5 x6 : Option SV, ev (Py.run fs Γ k) Γ c1__law_line [some (.val (.int i)), some (.val (.int n)), some (.val (rD lo)), some (.val (rD hi)), x4, x5, x6] μ = some (.lst ((unitL n i 1).map rD), μ) := by
    intro x4 x5 x6
    rw [c1__law_line, hm]
    refine ev_lc_map (g := fun m : Nat => D.int (m : Int)) (List.range n) (by simp -implicitDefEqProofs [hr]) (by simp; omega) fun m _ => ?_
    refine ⟨[some (.val (.int i)), some (.val (.int n)), some (.val (rD lo)), some (.val (rD hi)), x4, some (.val (.int (m : Int))), x6], by simp, by simp, ?_⟩
    by_cases c : m = i
    · subst c
      simp -implicitDefEqProofs [szle, eqS_int, rD_one]
    · have c' : ¬ (m : Int) = i := by omega
      simp -implicitDefEqProofs [szle, eqS_int, rD_zero, c, c']
  have e2 : ∀ x4 x5 x6 : Option SV, ev (Py.run fs Γ k) Γ c2__law_line [some (.val (.int i)), some (.val (.int n)), some (.val (rD lo)), some (.val (rD hi)), x4, x5, x6] μ = some (.lst ((unitL n i (-1)).map rD), μ) := by
    intro x4 x5 x6
    rw [c2__law_line, hm]
    refine ev_lc_map (g := fun m : Nat => D.int (m : Int)) (List.range n) (by simp -implicitDefEqProofs [hr]) (by simp; omega) fun m _ => ?_
    refine ⟨[some (.val (.int i)), some (.val (.int n)), some (.val (rD lo)), some (.val (rD hi)), x4, some (.val (.int (m : Int))), x6], by simp, by simp, ?_⟩
    have h1 : rD (-1) = .tup [.int (-1), .int 1] := rfl
    by_cases c : m = i
    · subst c
      simp -implicitDefEqProofs [szle, eqS_int, h1]
    · have c' : ¬ (m : Int) = i := by omega
      simp -implicitDefEqProofs [szle, eqS_int, rD_zero, c, c']
  have t1 : itsS μ (rD lo) = some [.int lo.num, .int lo.den] := rfl
  rw [u__law_line, b__law_line]
  unfold bdD
  simp -implicitDefEqProofs [e1, e2, szle, t1, atI, ixN, rD_neg']
theorem r_pick (ds : List D) (hl : 0 < ds.length) (hl2 : ds.length ≤ 1000) (a : Nat) (ha : a < 90000) : ∃ (j : Nat) (hj : j < ds.length), Py.run fs Γ (k + 2) f__law_pick [dealD ns t, .lst ds] (Sa a) = some (ds[j], Sa (a + 1)) := by
  obtain ⟨r, c1, e⟩ := r_takeN (k := k) ns t h ds.length hl a (by omega)
  refine ⟨r, c1, ?_⟩
  have hat : atI ds (r : Int) = some ds[r] := atI_of c1
  rw [u__law_pick, b__law_pick]
  simp -implicitDefEqProofs [e, hat]

omit h in
theorem rD_f (q : Nat) (hq : 0 < q) : rD (Rat.divInt 1 q) = .tup [.int 1, .int q] := by
  have h : (0 : Int) < q := by omega
  rw [rD_divInt h]
  have : Int.gcd 1 (q : Int) = 1 := Int.one_gcd
  rw [this]
  simp
theorem r_unit (a : Nat) (ha : a < 90000) : ∃ d : Rat, Py.run fs Γ (k + 2) f__law_unit [dealD ns t] (Sa a) = some (rD d, Sa (a + 1)) ∧ Sz 3 d ∧ 0 < d := by
  obtain ⟨r, c1, e⟩ := r_takeN (k := k) ns t h 4 (by decide) a (by omega)
  have hc : ((4 : Nat) : Int) = 4 := rfl
  rw [hc] at e
  have hq : ∀ q : Nat, 0 < q → q < 8 → Sz 3 (Rat.divInt 1 q) ∧ 0 < Rat.divInt 1 q := fun q h1 h2 => ⟨Sz.divInt (by decide) (by omega) (by omega), divInt_pos (by decide) (by omega)⟩
  have key : ∃ q : Nat, 0 < q ∧ q < 8 ∧ atI [D.tup [.int 1, .int 2], .tup [.int 1, .int 4], .tup [.int 1, .int 1], .tup [.int 1, .int 3]] (r : Int) = some (.tup [.int 1, .int q]) := by
    have : r = 0 ∨ r = 1 ∨ r = 2 ∨ r = 3 := by omega
    rcases this with c | c | c | c <;> subst c
    · exact ⟨2, by decide, by decide, rfl⟩
    · exact ⟨4, by decide, by decide, rfl⟩
    · exact ⟨1, by decide, by decide, rfl⟩
    · exact ⟨3, by decide, by decide, rfl⟩
  obtain ⟨q, h1, h2, h3⟩ := key
  obtain ⟨h4, h5⟩ := hq q h1 h2
  refine ⟨Rat.divInt 1 q, ?_, h4, h5⟩
  rw [u__law_unit, b__law_unit, rD_f q h1]
  simp -implicitDefEqProofs [e, szle, h3]
theorem r_edge (a : Nat) (ha : a < 90000) : ∃ bs a', Py.run fs Γ (k + 2) f__law_edge [dealD ns t] (Sa a) = some (bsD bs, Sa a') ∧ a ≤ a' ∧ a' ≤ a + 3 ∧ bs.length ≤ 10 ∧ ∀ B ∈ bs, B.f.length = 1 ∧ BSz 4 B := by
  obtain ⟨r1, b1, b2, e1⟩ := r_take (k := k) (a := a) ns t 2 h (by decide) (by omega)
  rw [u__law_edge, b__law_edge]
  by_cases c : r1 = 0
  · subst c
    refine ⟨[], a + 1, ?_, by omega, by omega, by simp, by simp⟩
    simp -implicitDefEqProofs [e1, bsD, szle]
  · obtain ⟨r2, b3, b4, e2⟩ := r_take (k := k) (a := a + 1) ns t 2 h (by decide) (by omega)
    obtain ⟨r3, b5, b6, e3⟩ := r_take (k := k) (a := a + 2) ns t 3 h (by decide) (by omega)
    have key : ∃ v : Int, (v = 1 ∨ v = -1) ∧ atI [D.int 1, .int (-1)] r2 = some (.int v) := by
      have : r2 = 0 ∨ r2 = 1 := by omega
      rcases this with c | c <;> subst c
      · exact ⟨1, .inl rfl, rfl⟩
      · exact ⟨-1, .inr rfl, rfl⟩
    obtain ⟨v, hv, hat⟩ := key
    refine ⟨[⟨[(v : Rat)], ((-r3 : Int) : Rat), false⟩], a + 3, ?_, by omega, by omega, by simp, ?_⟩
    · simp -implicitDefEqProofs [e1, e2, e3, c, hat, szle, bsD, bdD, rD_int]
      rw [show (-(r3 : Rat)) = ((-r3 : Int) : Rat) by simp, rD_int]
    · intro B hB
      have : B = ⟨[(v : Rat)], ((-r3 : Int) : Rat), false⟩ := by simpa using hB
      subst this
      refine ⟨rfl, ⟨fun x hx => ?_, int_sz (by omega) (by decide)⟩⟩
      have : x = (v : Rat) := by simpa using hx
      subst this
      exact int_sz (by omega) (by decide)
theorem r_between {b : Nat} (lo hi : Rat) (h1 : Sz b lo) (h2 : Sz b hi) (hle : lo ≤ hi) (hb : b ≤ 2000) (a : Nat) (ha : a < 90000) : ∃ v, Py.run fs Γ (k + 4) f__law_between [dealD ns t, rD lo, rD hi] (Sa a) = some (rD v, Sa (a + 1)) ∧ lo ≤ v ∧ v ≤ hi ∧ Sz (b + (2 * b + 4) + 1) v := by
  obtain ⟨r, b1, b2, e⟩ := r_take (k := k + 2) (a := a) ns t 5 h (by decide) (by omega)
  have g1 := r_lminus (k := k) (n := 2 * b + 1) (μ := Sa (a + 1)) hi lo h2 h1 (by omega) (by omega)
  have hw : Sz (2 * b + 1) (hi - lo) := (h2.sub h1).mono (by omega)
  have r5 : r.natAbs < 2 ^ 3 := by omega
  have m1 := mulOk_of hw.1 r5 (by omega)
  have m2 := mulOk_of hw.den (show (4 : Int).natAbs < 2 ^ 3 by decide) (by omega)
  have hq0 : ((hi - lo).den : Int) * 4 ≠ 0 := Int.mul_ne_zero (den_ne _) (by decide)
  have s1 := abs_mul_lt hw.1 r5
  have s2 := abs_mul_lt hw.den (show (4 : Int).natAbs < 2 ^ 3 by decide)
  have g2 := r_lratio (k := k + 2) (n := 2 * b + 1 + 3) (μ := Sa (a + 1)) ((hi - lo).num * r) ((hi - lo).den * 4) hq0 s1 s2 (by omega)
  have hs : Sz (2 * b + 4) (Rat.divInt ((hi - lo).num * r) ((hi - lo).den * 4)) := Sz.divInt s1 s2 hq0
  have g3 := r_lplus (k := k + 1) (n := b + (2 * b + 4) + 1) (μ := Sa (a + 1)) lo (Rat.divInt ((hi - lo).num * r) ((hi - lo).den * 4)) h1 hs (Nat.le_refl _) (by omega)
  have hval : Rat.divInt ((hi - lo).num * r) ((hi - lo).den * 4) = (hi - lo) * Rat.divInt r 4 := by
    rw [← Rat.divInt_mul_divInt, Rat.num_divInt_den]
  have p0 : 0 ≤ Rat.divInt r 4 := by rw [Rat.divInt_nonneg_iff_of_pos_right (by decide)]; exact b1
  have p1 : Rat.divInt r 4 ≤ 1 := by
    have e4 : (r : Rat) ≤ ((4 : Int) : Rat) := Rat.intCast_le_intCast.mpr (by omega)
    have e5 : ((4 : Int) : Rat) = 4 := rfl
    rw [e5] at e4
    rw [Rat.divInt_eq_div]
    have e6 : (((4 : Int) : Rat)) = 4 := rfl
    rw [e6]
    grind
  have d0 : 0 ≤ hi - lo := by grind
  refine ⟨lo + Rat.divInt ((hi - lo).num * r) ((hi - lo).den * 4), ?_, ?_, ?_, h1.add hs⟩
  · rw [u__law_between, b__law_between]
    simp -implicitDefEqProofs [e, g1, t2, a20, a21, m1, m2, g2, g3]
  · rw [hval]
    have := Rat.mul_nonneg d0 p0
    grind
  · rw [hval]
    have : (hi - lo) * Rat.divInt r 4 ≤ (hi - lo) * 1 := Rat.mul_le_mul_of_nonneg_left p1 d0
    grind
theorem r_reading {b e : Nat} {P : Pl} (hP : PlOk P) (d x : Rat) (h0 : d ≠ 0) (hd : Sz e d) (hx : Sz b x) (hb : b ≤ 3000) (he : e ≤ 100) (a : Nat) (ha : a < 90000) : ∃ i : Int, Py.run fs Γ (k + 5) f__law_reading [dealD ns t, plD P, rD d, rD x] (Sa a) = some (.int i, Sa (a + 1)) ∧ i.natAbs < 2 ^ (b + 14 + 1 + e) ∧ ∃ v : Rat, -P.err ≤ v ∧ v ≤ P.err ∧ i = fl ((x + v) / d) := by
  have hen := hP.er.1.neg
  obtain ⟨v, g1, v1, v2, v3⟩ := r_between (k := k) ns t h (-P.err) P.err hen hP.er.1 (by have := hP.er.2; grind) (by decide) a ha
  rw [rD_neg'] at g1
  have g2 := r_lplus (k := k + 2) (n := b + 14 + 1) (μ := Sa (a + 1)) x v hx v3 (by omega) (by omega)
  have hs := hx.add v3
  have g3 := r_lfloor (k := k + 2) (μ := Sa (a + 1)) (x + v) d h0 hs hd (by omega)
  refine ⟨fl ((x + v) / d), ?_, Nat.lt_of_le_of_lt (Int.natAbs_ediv_le_natAbs _ _) (hs.div hd h0).1, v, v1, v2, rfl⟩
  rw [u__law_reading, b__law_reading]
  simp -implicitDefEqProofs [tpl, at9_7, tsn, a20, a21, at1_0, t2, szle, g1, g2, g3]
end
end P48
end
section
set_option Elab.async false
set_option linter.all false
set_option maxRecDepth 100000
set_option maxHeartbeats 0
namespace P48
open PySem L2 Py Geo FM
/-- what a drawn beat may come to -/
def Goes (P : Pl) (m c : Nat) (x : Rat) (now : Nat) (here later : Rat) : Prop := (x + (bx P m c).1 ≤ here ∧ here ≤ x + (bx P m c).2) ∧ ∃ w ∈ ways P m c now, x + w.1 ≤ later ∧ later ≤ x + w.2
def pO (P : Pl) (m : Nat) (y : Rat) (i : Nat) : Bool := match P.sw[i]? with
  | some s => decide (s.st = m) && hasB s.edge [y]
  | none => false
def pM (P : Pl) (i : Nat) : Bool := match P.sw[i]? with
  | some s => s.must
  | none => false
theorem eqS_must (b : Bool) : eqS (kindD b) (.str "must") = some b := by cases b <;> decide +kernel
section
variable {k : Nat} (ns : List Int) (t : Int) (h : DealOk ns t)
include h
theorem r_ahead {b : Nat} {P : Pl} (hP : PlOk P) (m c : Nat) (hm : m < P.modes.length) (hc : c < P.cmds.length) (x : Rat) (hx : Sz b x) (hb : b ≤ 2000) (a : Nat) (ha : a < 80000) :
    ∃ (now : Nat) (here later : Rat) (a' : Nat), Py.run fs Γ (k + 6) f__law_ahead [dealD ns t, plD P, .int m, .int c, rD x] (Sa a) = some (.tup [.int now, rD here, rD later], Sa a') ∧ a ≤ a' ∧ a' ≤ a + 3 ∧ now < P.modes.length ∧ Goes P m c x now here later ∧ Sz (b + 30) here ∧ Sz (b + 57) later := by
  obtain ⟨h1, h2, e⟩ := rate_eq hP hm hc
  obtain ⟨s1, s2, s3⟩ := rate_ok hP hm hc
  have a1 : atI (P.rates.map rwD) (m : Int) = some (rwD P.rates[m]) := atI_map h1
  have a2 : atI (P.rates[m].map bx1) (c : Int) = some (bx1 P.rates[m][c]) := atI_map h2
  have t1 : ∀ μ : Store, itsS μ (rwD P.rates[m]) = some (P.rates[m].map bx1) := fun _ => rfl
  rw [← e] at a2
  obtain ⟨r, g1, v1, v2, v3⟩ := r_between (k := k + 1) ns t h (rate P m c).1 (rate P m c).2 s1 s2 s3 (by decide) a (by omega)
  have g2 := r_lmult (k := k + 3) (n := 29) (μ := Sa (a + 1)) P.beat r hP.bt.1 v3 (by decide) (by decide)
  have hbr := hP.bt.1.mul v3
  have g3 := r_lplus (k := k + 3) (n := b + 29 + 1) (μ := Sa (a + 1)) x (P.beat * r) hx hbr (by omega) (by omega)
  have hy : Sz (b + 30) (x + P.beat * r) := hx.add hbr
  have hin : x + (bx P m c).1 ≤ x + P.beat * r ∧ x + P.beat * r ≤ x + (bx P m c).2 := by
    have hb0 : 0 ≤ P.beat := by have := hP.bt.2; grind
    have q1 := Rat.mul_le_mul_of_nonneg_left v1 hb0
    have q2 := Rat.mul_le_mul_of_nonneg_left v2 hb0
    unfold bx
    dsimp only
    rw [Rat.mul_comm (rate P m c).1, Rat.mul_comm (rate P m c).2]
    constructor <;> grind
  generalize x + P.beat * r = y at *
  have hsl := hP.sl
  have r1 := rngS_map (n := P.sw.length) (by omega)
  have hat : ∀ i, (hi : i < P.sw.length) → atI (P.sw.map swD) (i : Int) = some (swD P.sw[i]) := fun i hi => atI_map hi
  have c1 : ∀ x8 x9 x10 x11 x12 : Option SV, ev (Py.run fs Γ (k + 5)) Γ c1__law_ahead [some (.val (dealD ns t)), some (.val (plD P)), some (.val (.int m)), some (.val (.int c)), some (.val (rD x)), some (.val (rD (rate P m c).1)), some (.val (rD (rate P m c).2)), some (.val (rD y)), x8, x9, x10, x11, x12] (Sa (a + 1)) = some (.lst (((List.range P.sw.length).filter (pO P m y)).map fun i : Nat => .int (i : Int)), Sa (a + 1)) := by
    intro x8 x9 x10 x11 x12
    rw [c1__law_ahead]
    refine ev_lc_filter (g := fun i : Nat => .int (i : Int)) (List.range P.sw.length) (by simp -implicitDefEqProofs [tpl, at9_6, r1]) (by simp; omega) fun i hi' => ?_
    have hi := List.mem_range.mp hi'
    obtain ⟨k1, k2, k3, ⟨k4, k4'⟩, _⟩ := hP.sw _ (List.getElem_mem hi)
    have gr := r_row_has (k := k) (μ := Sa (a + 1)) (b := 4) (c := b + 30) (.int 0) P.sw[i].edge [y] (by omega) (fun B hB => ⟨(k4' B hB).1, (k4' B hB).2⟩) (fun z hz => List.mem_singleton.mp hz ▸ hy) (by unfold Fit; simp only [List.length_cons, List.length_nil]; omega)
    have hpt : ptD [y] = .tup [rD y] := rfl
    rw [hpt] at gr
    have hp : pO P m y i = (decide (P.sw[i].st = m) && hasB P.sw[i].edge [y]) := by unfold pO; rw [List.getElem?_eq_getElem hi]
    refine ⟨[some (.val (dealD ns t)), some (.val (plD P)), some (.val (.int m)), some (.val (.int c)), some (.val (rD x)), some (.val (rD (rate P m c).1)), some (.val (rD (rate P m c).2)), some (.val (rD y)), x8, some (.val (.int i)), x10, x11, x12], by simp, ?_, fun _ => by simp⟩
    rw [hp]
    by_cases q : P.sw[i].st = m
    · simp -implicitDefEqProofs [tpl, at9_6, hat i hi, tsw, at6_0, at6_3, q, szle, gr]
      cases hasB P.sw[i].edge [y] <;> rfl
    · have q' : ¬ (P.sw[i].st : Int) = m := by omega
      simp -implicitDefEqProofs [tpl, at9_6, hat i hi, tsw, at6_0, at6_3, q, q']
  generalize hO1 : (List.range P.sw.length).filter (pO P m y) = O1 at *
  have hO1m : ∀ i ∈ O1, ∃ hi : i < P.sw.length, P.sw[i].st = m := by
    intro i hi'
    rw [← hO1] at hi'
    obtain ⟨k1, k2⟩ := List.mem_filter.mp hi'
    have hi := List.mem_range.mp k1
    refine ⟨hi, ?_⟩
    unfold pO at k2
    rw [List.getElem?_eq_getElem hi] at k2
    simp only [Bool.and_eq_true, decide_eq_true_eq] at k2
    exact k2.1
  have hO1l : O1.length ≤ 2 := by rw [← hO1]; exact Nat.le_trans (List.length_filter_le _ _) (by simpa using hsl)
  have c2 : ∀ x9 x10 x11 x12 : Option SV, ev (Py.run fs Γ (k + 5)) Γ c2__law_ahead [some (.val (dealD ns t)), some (.val (plD P)), some (.val (.int m)), some (.val (.int c)), some (.val (rD x)), some (.val (rD (rate P m c).1)), some (.val (rD (rate P m c).2)), some (.val (rD y)), some (.val (.lst (O1.map fun i : Nat => .int (i : Int)))), x9, x10, x11, x12] (Sa (a + 1)) = some (.lst ((O1.filter (pM P)).map fun i : Nat => .int (i : Int)), Sa (a + 1)) := by
    intro x9 x10 x11 x12
    rw [c2__law_ahead]
    refine ev_lc_filter (g := fun i : Nat => .int (i : Int)) O1 (by simp -implicitDefEqProofs) (by omega) fun i hi' => ?_
    obtain ⟨hi, _⟩ := hO1m i hi'
    have hp : pM P i = P.sw[i].must := by unfold pM; rw [List.getElem?_eq_getElem hi]
    refine ⟨[some (.val (dealD ns t)), some (.val (plD P)), some (.val (.int m)), some (.val (.int c)), some (.val (rD x)), some (.val (rD (rate P m c).1)), some (.val (rD (rate P m c).2)), some (.val (rD y)), some (.val (.lst (O1.map fun i : Nat => .int (i : Int)))), some (.val (.int i)), x10, x11, x12], by simp, ?_, fun _ => by simp⟩
    rw [hp]
    simp -implicitDefEqProofs [tpl, at9_6, hat i hi, tsw, at6_4, eqS_must]
  generalize hO2 : O1.filter (pM P) = O2 at *
  have hO2m : ∀ i ∈ O2, i ∈ O1 := fun i hi => by rw [← hO2] at hi; exact (List.mem_filter.mp hi).1
  have hO2l : O2.length ≤ 2 := by rw [← hO2]; exact Nat.le_trans (List.length_filter_le _ _) hO1l
  have hen : eqS (.lst (O2.map fun i : Nat => D.int (i : Int))) (.lst []) = some O2.isEmpty := by
    rw [eqS_nil (n := 1) (plain_lst (by omega) fun i _ => by simp [pln])]
    cases O2 <;> rfl
  have hOW : ∃ OW : List D, 0 < OW.length ∧ OW.length ≤ 10 ∧ (∀ d ∈ OW, d = .non ∨ ∃ i ∈ O1, d = .int (i : Int)) ∧ OW = if O2.isEmpty then (O1.map fun i : Nat => D.int (i : Int)) ++ [.non] else O2.map fun i : Nat => D.int (i : Int) := by
    refine ⟨_, ?_, ?_, ?_, rfl⟩
    · cases O2 <;> simp
    · cases O2 with
      | nil => simp; omega
      | cons i l => simp at hO2l ⊢; omega
    · intro d hd
      cases O2 with
      | nil =>
        have hd' : d ∈ (O1.map fun i : Nat => D.int (i : Int)) ++ [.non] := hd
        rcases List.mem_append.mp hd' with hd | hd
        · obtain ⟨i, hi, rfl⟩ := List.mem_map.mp hd; exact .inr ⟨i, hi, rfl⟩
        · exact .inl (by simpa using hd)
      | cons i l =>
        have hd' : d ∈ (i :: l).map fun i : Nat => D.int (i : Int) := hd
        obtain ⟨i, hi, rfl⟩ := List.mem_map.mp hd'
        exact .inr ⟨i, hO2m i hi, rfl⟩
  obtain ⟨OW, l1, l2, hmem, hOW⟩ := hOW
  obtain ⟨j, hj, f1⟩ := r_takeN (k := k + 4) ns t h OW.length l1 (a + 1) (by omega)
  have hjat : atI OW (j : Int) = some OW[j] := atI_of hj
  have hjm := hmem _ (List.getElem_mem hj)
  have pre : ∀ (b0 : Bool), O2.isEmpty = b0 → OW = (if b0 then (O1.map fun i : Nat => D.int (i : Int)) ++ [.non] else O2.map fun i : Nat => D.int (i : Int)) := fun b0 hb0 => by rw [hOW, hb0]
  generalize hdd : OW[j] = d at *
  have hz : O1.length + 1 ≤ 16777216 := by omega
  have main : ∀ (R : D) (μ' : Store) (dd : D), dd = d →
      (fin (exs (Py.run fs Γ (k + 5)) Γ [(S.iff (E.isN (E.slot 11)) [(S.ret (E.tup (Es.cons (E.slot 2) (Es.cons (E.slot 7) (Es.cons (E.slot 7) Es.nil)))))] []), (S.asg (T.nm 12) (E.ix (E.ix (E.ix (E.ix (E.slot 1) (E.int 6)) (E.slot 11)) (E.int 5)) (E.int 0))), (S.ret (E.tup (Es.cons (E.ix (E.ix (E.ix (E.slot 1) (E.int 6)) (E.slot 11)) (E.int 2)) (Es.cons (E.slot 7) (Es.cons (E.call 33 (E.slot 7) (Es.cons (E.call 51 (E.slot 0) (Es.cons (E.ix (E.slot 12) (E.int 0)) (Es.cons (E.ix (E.slot 12) (E.int 1)) Es.nil))) Es.nil)) Es.nil)))))] [some (.val (dealD ns t)), some (.val (plD P)), some (.val (.int m)), some (.val (.int c)), some (.val (rD x)), some (.val (rD (rate P m c).1)), some (.val (rD (rate P m c).2)), some (.val (rD y)), some (.val (.lst OW)), none, some (.val (.lst (O2.map fun i : Nat => .int (i : Int)))), some (.val dd), none] (Sa (a + 1 + 1))) = some (R, μ')) →
      Py.run fs Γ (k + 6) f__law_ahead [dealD ns t, plD P, .int m, .int c, rD x] (Sa a) = some (R, μ') := by
    intro R μ' dd hdd' hR
    subst hdd'
    rw [u__law_ahead, b__law_ahead, ← hR]
    cases hb0 : O2.isEmpty with
    | true =>
      have ho := pre true hb0
      simp only [if_true] at ho
      rw [hb0] at hen
      have hlen : OW.length = O1.length + 1 := by rw [ho]; simp
      rw [hlen] at f1
      simp only [Int.natCast_add, Int.natCast_one] at f1
      rw [ho] at hjat ⊢
      simp -implicitDefEqProofs [tpl, at9_5, at9_4, a1, a2, t1, tb1, at1_0, pairD, g1, g2, g3, c1, c2, hen, szle, hz, f1, hjat, -List.map_append]
    | false =>
      have ho := pre false hb0
      simp only [Bool.false_eq_true, if_false] at ho
      rw [hb0] at hen
      have hlen : OW.length = O2.length := by rw [ho]; simp
      rw [hlen] at f1
      rw [ho] at hjat ⊢
      simp -implicitDefEqProofs [tpl, at9_5, at9_4, a1, a2, t1, tb1, at1_0, pairD, g1, g2, g3, c1, c2, hen, szle, f1, hjat]
  rcases hjm with hd | ⟨i, hi', hd⟩
  · refine ⟨m, y, y, a + 1 + 1, main _ _ .non hd.symm ?_, by omega, by omega, hm, ⟨hin, bx P m c, ?_, hin⟩, hy, hy.mono (by omega)⟩
    · have n1 : Py.isNon .non = true := rfl
      simp -implicitDefEqProofs [n1, szle]
    · unfold ways; rw [if_pos rfl]; simp
  · obtain ⟨hi, hst⟩ := hO1m i hi'
    obtain ⟨k1, k2, k3, k4, k5, k6, k7⟩ := hP.sw _ (List.getElem_mem hi)
    obtain ⟨v, w1, w2, w3, w4⟩ := r_between (k := k + 1) ns t h P.sw[i].kl P.sw[i].kh k5 k6 k7 (by decide) (a + 1 + 1) (by omega)
    have f3 := r_lplus (k := k + 3) (n := b + 57) (μ := Sa (a + 1 + 1 + 1)) y v hy w4 (by omega) (by omega)
    refine ⟨P.sw[i].goal, y, y + v, a + 1 + 1 + 1, main _ _ (.int i) hd.symm ?_, by omega, by omega, k2, ⟨hin, wayS P m c P.sw[i], ?_, ?_⟩, hy, (hy.add w4).mono (by omega)⟩
    · have n0 : Py.isNon (.int (i : Int)) = false := rfl
      simp -implicitDefEqProofs [n0, szle, tpl, at9_6, hat i hi, tsw, at6_2, at6_5, tb1, at1_0, tpr, a20, a21, w1, f3]
    · unfold ways
      refine List.mem_append_right _ (List.mem_map.mpr ⟨P.sw[i], List.mem_filter.mpr ⟨List.getElem_mem hi, ?_⟩, rfl⟩)
      unfold isW; simp [hst]
    · unfold wayS
      dsimp only
      constructor <;> grind
end
end P48
end
section
set_option Elab.async false
set_option linter.all false
set_option maxRecDepth 100000
set_option maxHeartbeats 0
namespace P48
open PySem L2 Py Geo FM
/-! ### the plain law -/
theorem fl_sz {n : Nat} {x : Rat} (h : Sz n x) : (fl x).natAbs < 2 ^ n := Nat.lt_of_le_of_lt (Int.natAbs_ediv_le_natAbs _ _) h.1
theorem ce_sz {n : Nat} {x : Rat} (h : Sz n x) : (ce x).natAbs < 2 ^ n := by
  unfold ce
  rw [Int.natAbs_neg]
  exact Nat.lt_of_le_of_lt (Int.natAbs_ediv_le_natAbs _ _) (by rw [Int.natAbs_neg]; exact h.1)
theorem mul_div_self {d w : Rat} (hd : 0 < d) : d * (w / d) = w := by
  have : d ≠ 0 := by grind
  rw [Rat.mul_comm, Rat.div_mul_cancel this]
theorem dfl {d : Rat} (hd : 0 < d) (w : Rat) : d * (fl (w / d) : Rat) ≤ w := by
  have h := Rat.mul_le_mul_of_nonneg_left (fl_le (w / d)) (show 0 ≤ d by grind)
  rw [mul_div_self hd] at h
  exact h
theorem dce {d : Rat} (hd : 0 < d) (w : Rat) : w ≤ d * (ce (w / d) : Rat) := by
  have h := Rat.mul_le_mul_of_nonneg_left (le_ce (w / d)) (show 0 ≤ d by grind)
  rw [mul_div_self hd] at h
  exact h
theorem dfl1 {d : Rat} (hd : 0 < d) (w : Rat) : w ≤ d * ((fl (w / d) + 1 : Int) : Rat) := by
  have h1 : w / d ≤ ((fl (w / d) + 1 : Int) : Rat) := by
    have : ¬ ((fl (w / d) + 1 : Int) : Rat) ≤ w / d := fun z => by have := le_fl.mpr z; omega
    grind
  have h := Rat.mul_le_mul_of_nonneg_left h1 (show 0 ≤ d by grind)
  rw [mul_div_self hd] at h
  exact h
theorem int_le_of_mul {d : Rat} (hd : 0 < d) {i j : Int} {x : Rat} (h1 : d * i ≤ x) (h2 : x ≤ d * j) : i ≤ j := by
  have h3 : d * (i : Rat) ≤ d * (j : Rat) := by grind
  have h4 : (i : Rat) ≤ (j : Rat) := Rat.le_of_mul_le_mul_left h3 hd
  exact Rat.intCast_le_intCast.mp h4
section
variable {P : Pl} {d : Rat}
theorem off_some {m c now : Nat} {w : Rat × Rat} (h : ways P m c now = [w]) : off P d m c now = some (fl (w.1 / d), ce (w.2 / d)) := by unfold off; rw [h]; rfl
theorem off_of_mem (hP : PlOk P) {m c now : Nat} {w : Rat × Rat} (h : w ∈ ways P m c now) : off P d m c now = some (fl (w.1 / d), ce (w.2 / d)) := by
  rcases ways_form hP m c now with e | ⟨w', e⟩
  · rw [e] at h; cases h
  · rw [e] at h
    have : w = w' := by simpa using h
    subst this
    exact off_some e
theorem of_off (hP : PlOk P) {m c now : Nat} {p : Int × Int} (h : off P d m c now = some p) : ∃ w ∈ ways P m c now, p = (fl (w.1 / d), ce (w.2 / d)) := by
  unfold off at h
  obtain ⟨w, h1, h2⟩ := Option.map_eq_some_iff.mp h
  exact ⟨w, List.mem_of_mem_head? h1, h2.symm⟩
theorem div_mono {a b d : Rat} (hd : 0 < d) (h : a ≤ b) : a / d ≤ b / d := by
  rw [Rat.div_def, Rat.div_def]
  exact Rat.mul_le_mul_of_nonneg_right h (by have := Rat.inv_pos.mpr hd; grind)
theorem ook (hP : PlOk P) (hd : 0 < d) : OOk P.modes.length P.cmds.length (off P d) where
  c0 := by have := hP.nc; omega
  own := fun m hm c hc => ⟨_, off_of_mem hP (show bx P m c ∈ ways P m c m by unfold ways; rw [if_pos rfl]; simp)⟩
  nn := fun m hm c hc now p h => by
    obtain ⟨w, h1, rfl⟩ := of_off hP h
    exact fl_le_ce (div_mono hd (ways_ok hP hm hc w h1).2.2)
theorem half_div (w : Rat) : w / (d * (1 / 2)) = 2 * (w / d) := by
  have : (1 / 2 : Rat)⁻¹ = 2 := by decide +kernel
  rw [Rat.div_def w (d * (1 / 2)), Rat.div_def w d, Rat.inv_mul_rev, this]
  grind
theorem half_ce (x : Rat) : ce (2 * x) ≤ 2 * ce x := by
  rw [ce_le]
  have := le_ce x
  have e : ((2 * ce x : Int) : Rat) = 2 * (ce x : Rat) := by simp
  rw [e]
  grind
theorem half_fl (x : Rat) : 2 * fl x ≤ fl (2 * x) := by
  rw [le_fl]
  have := fl_le x
  have e : ((2 * fl x : Int) : Rat) = 2 * (fl x : Rat) := by simp
  rw [e]
  grind
theorem half_off (hP : PlOk P) {m c now : Nat} {p' : Int × Int} (h : off P (d * (1 / 2)) m c now = some p') : ∃ p, off P d m c now = some p ∧ p'.2 - p'.1 ≤ 2 * (p.2 - p.1) := by
  obtain ⟨w, h1, rfl⟩ := of_off hP h
  refine ⟨_, off_of_mem hP h1, ?_⟩
  dsimp only
  rw [half_div, half_div]
  have a1 := half_ce (w.2 / d)
  have a2 := half_fl (w.1 / d)
  omega
theorem off_sz (hP : PlOk P) {b : Nat} (hd0 : d ≠ 0) (hd : Sz b d) {m c now : Nat} (hm : m < P.modes.length) (hc : c < P.cmds.length) {p : Int × Int} (h : off P d m c now = some p) : p.1.natAbs < 2 ^ (18 + b) ∧ p.2.natAbs < 2 ^ (18 + b) := by
  obtain ⟨w, h1, rfl⟩ := of_off hP h
  obtain ⟨s1, s2, _⟩ := ways_ok hP hm hc w h1
  exact ⟨fl_sz (s1.div hd hd0), ce_sz (s2.div hd hd0)⟩
theorem wid_le {nm nc : Nat} {O : Nat → Nat → Nat → Option (Int × Int)} {M w0 : Int} (h0 : 0 ≤ w0) (hM : 0 ≤ M) (h : ∀ m, m < nm → ∀ c, c < nc → ∀ now p, O m c now = some p → p.2 - p.1 ≤ M) : ∀ (j now : Nat), wid nm nc O w0 j now ≤ w0 + j * M
  | 0, _ => by simp [wid]
  | j + 1, now => by
    have e : ((j + 1 : Nat) : Int) * M = j * M + M := by rw [Int.natCast_add, Int.add_mul]; simp
    have hj : 0 ≤ (j : Int) * M := Int.mul_nonneg (by omega) hM
    refine mx_le (by rw [e]; omega) fun x hx => ?_
    obtain ⟨m, c, p, h1, h2, h3, rfl⟩ := mem_cand.mp hx
    have a1 := wid_le h0 hM h j m
    have a2 := h m h1 c h2 now p h3
    rw [e]
    omega
theorem tp_mem {nm nc : Nat} {O : Nat → Nat → Nat → Option (Int × Int)} {w0 : Int} {j : Nat} (h : 0 < nm) : (∃ m, m < nm ∧ tpW nm nc O w0 j = wid nm nc O w0 j m) ∧ ∀ m, m < nm → wid nm nc O w0 j m ≤ tpW nm nc O w0 j := by
  have hne : (List.range nm).map (wid nm nc O w0 j) ≠ [] := by simp; omega
  obtain ⟨g1, g2⟩ := maxI_mem _ hne
  constructor
  · obtain ⟨m, hm, e⟩ := List.mem_map.mp g1
    exact ⟨m, List.mem_range.mp hm, e.symm⟩
  · intro m hm
    exact g2 _ (List.mem_map.mpr ⟨m, List.mem_range.mpr hm, rfl⟩)
/-- the estimate has the point and is as wide as told -/
def Est (P : Pl) (d : Rat) (e : Int × Int) (x : Rat) (f m : Nat) : Prop := d * (e.1 : Rat) ≤ x ∧ x ≤ d * (e.2 : Rat) ∧ e.2 - e.1 ≤ wid P.modes.length P.cmds.length (off P d) (ce (P.err / d) + (ce (P.err / d) + 1)) f m
theorem est_go (hP : PlOk P) (hd : 0 < d) {e : Int × Int} {x here later : Rat} {f m c now : Nat} (hm : m < P.modes.length) (hc : c < P.cmds.length) (h : Est P d e x f m) (g : Goes P m c x now here later) :
    ∃ p, off P d m c now = some p ∧ Est P d (e.1 + p.1, e.2 + p.2) later (f + 1) now := by
  obtain ⟨_, w, hw, g1, g2⟩ := g
  obtain ⟨h1, h2, h3⟩ := h
  have ho := off_of_mem (d := d) hP hw
  refine ⟨_, ho, ?_, ?_, ?_⟩
  · have := dfl hd w.1
    have e : ((e.1 + fl (w.1 / d) : Int) : Rat) = (e.1 : Rat) + (fl (w.1 / d) : Rat) := by simp
    dsimp only
    rw [e, Rat.mul_add]
    grind
  · have := dce hd w.2
    have e : ((e.2 + ce (w.2 / d) : Int) : Rat) = (e.2 : Rat) + (ce (w.2 / d) : Rat) := by simp
    dsimp only
    rw [e, Rat.mul_add]
    grind
  · have := wid_step (ook hP hd) (w0 := ce (P.err / d) + (ce (P.err / d) + 1)) (j := f) hm hc ho
    dsimp only at this ⊢
    omega
theorem read_in (hd : 0 < d) {x v : Rat} {a : Int} (ha : P.err ≤ d * (a : Rat)) (v1 : -P.err ≤ v) (v2 : v ≤ P.err) : d * ((fl ((x + v) / d) - a : Int) : Rat) ≤ x ∧ x ≤ d * ((fl ((x + v) / d) + (a + 1) : Int) : Rat) := by
  have h1 := dfl hd (x + v)
  have h2 := dfl1 hd (x + v)
  have e1 : ((fl ((x + v) / d) - a : Int) : Rat) = (fl ((x + v) / d) : Rat) - (a : Rat) := by simp
  have e2 : ((fl ((x + v) / d) + (a + 1) : Int) : Rat) = ((fl ((x + v) / d) + 1 : Int) : Rat) + (a : Rat) := by
    rw [show fl ((x + v) / d) + (a + 1) = fl ((x + v) / d) + 1 + a by omega]; simp
  rw [e1, e2, Rat.mul_add]
  generalize ((fl ((x + v) / d) + 1 : Int) : Rat) = q at *
  generalize (fl ((x + v) / d) : Rat) = r at *
  have e3 : d * (r - (a : Rat)) = d * r - d * (a : Rat) := by grind
  rw [e3]
  constructor <;> grind
theorem est_meet (hd : 0 < d) {e : Int × Int} {x : Rat} {i : Int} (h1 : d * (e.1 : Rat) ≤ x) (h2 : x ≤ d * (e.2 : Rat)) (m : Nat) (h3 : d * ((i - ce (P.err / d) : Int) : Rat) ≤ x ∧ x ≤ d * ((i + (ce (P.err / d) + 1) : Int) : Rat)) :
    mx2 e.1 (i - ce (P.err / d)) ≤ mn2 e.2 (i + (ce (P.err / d) + 1)) ∧ Est P d (mx2 e.1 (i - ce (P.err / d)), mn2 e.2 (i + (ce (P.err / d) + 1))) x 0 m := by
  have k1 : d * ((mx2 e.1 (i - ce (P.err / d)) : Int) : Rat) ≤ x := by
    unfold mx2; split
    · exact h3.1
    · exact h1
  have k2 : x ≤ d * ((mn2 e.2 (i + (ce (P.err / d) + 1)) : Int) : Rat) := by
    unfold mn2; split
    · exact h3.2
    · exact h2
  refine ⟨int_le_of_mul hd k1 k2, k1, k2, ?_⟩
  have a1 := mx2_r e.1 (i - ce (P.err / d))
  have a2 : mn2 e.2 (i + (ce (P.err / d) + 1)) ≤ i + (ce (P.err / d) + 1) := by unfold mn2; split <;> omega
  show _ ≤ ce (P.err / d) + (ce (P.err / d) + 1)
  dsimp only
  omega
end
end P48
end
section
set_option Elab.async false
set_option linter.all false
set_option maxRecDepth 100000
set_option maxHeartbeats 0
namespace P48
open PySem L2 Py Geo FM
/-! ### the plant, drawn -/
def rawP (a b q : Int) : D := .tup [.tup [.tup [.int a, .int q], .tup [.int b, .int q]]]
def raw3 (s : Int × Int) : List D := [rawP s.1 (s.1 + s.2) 1, rawP (-s.1 - s.2) (-s.1) 1, rawP ((-1) * s.2) s.2 2]
def rawR (nc : Nat) (s : Int × Int) : D := .tup ((raw3 s).take nc)
def row3 (s : Int × Int) : List (Rat × Rat) := [(Rat.divInt s.1 1, Rat.divInt (s.1 + s.2) 1), (Rat.divInt (-s.1 - s.2) 1, Rat.divInt (-s.1) 1), (Rat.divInt ((-1) * s.2) 2, Rat.divInt s.2 2)]
def Drn (s : Int × Int) : Prop := 2 ≤ s.1 ∧ s.1 < 5 ∧ 0 ≤ s.2 ∧ s.2 < 2
section
variable {k : Nat} (ns : List Int) (t : Int) (h : DealOk ns t)
include h
theorem pl_l1 (ms cs : List D) (nc : Nat) (hnc : cs.length = nc) : ∀ (l : List D) (L : List (Int × Int)) (x4 x5 x6 x7 x8 : Option SV) (a : Nat), a + 2 * l.length < 80000 → L.length + l.length ≤ 10 → (∀ s ∈ L, Drn s) →
    ∃ (L' : List (Int × Int)) (y4 y5 y6 y7 y8 : Option SV), forS (T.nm 4) (fun env' μ' => exs (Py.run fs Γ (k + 1)) Γ l1__law_plant_of env' μ') l [some (.val (dealD ns t)), some (.val (.tup ms)), some (.val (.tup cs)), some (.own (L.map (rawR nc))), x4, x5, x6, x7, x8, none, none, none, none, none, none, none, none, none, none, none] (Sa a) =
      some (.nx [some (.val (dealD ns t)), some (.val (.tup ms)), some (.val (.tup cs)), some (.own (L'.map (rawR nc))), y4, y5, y6, y7, y8, none, none, none, none, none, none, none, none, none, none, none] (Sa (a + 2 * l.length))) ∧ L'.length = L.length + l.length ∧ ∀ s ∈ L', Drn s
  | [], L, x4, x5, x6, x7, x8, a, _, _, hL => ⟨L, x4, x5, x6, x7, x8, rfl, by simp, hL⟩
  | d :: l, L, x4, x5, x6, x7, x8, a, ha, hl, hL => by
    simp only [List.length_cons] at ha hl
    obtain ⟨r1, b1, b2, e1⟩ := r_take (k := k) (a := a) ns t 3 h (by decide) (by omega)
    obtain ⟨r2, b3, b4, e2⟩ := r_take (k := k) (a := a + 1) ns t 2 h (by decide) (by omega)
    have hs : Drn (2 + r1, r2) := ⟨by dsimp only; omega, by dsimp only; omega, b3, b4⟩
    obtain ⟨L', y4, y5, y6, y7, y8, e, hl', hd'⟩ := pl_l1 ms cs nc hnc l (L ++ [(2 + r1, r2)]) (some (.val d)) (some (.val (.int (2 + r1)))) (some (.val (.int r2))) (some (.val (rawP (2 + r1) (2 + r1 + r2) 1))) (some (.val (rawP (-(2 + r1) - r2) (-(2 + r1)) 1))) (a + 2) (by omega) (by simp; omega) (fun s hs' => by
      rcases List.mem_append.mp hs' with h1 | h1
      · exact hL s h1
      · have : s = (2 + r1, r2) := by simpa using h1
        subst this; exact hs)
    refine ⟨L', y4, y5, y6, y7, y8, ?_, by rw [hl']; simp; omega, hd'⟩
    rw [show a + 2 * (d :: l).length = a + 2 + 2 * l.length by simp only [List.length_cons]; omega]
    rw [← e]
    have hz : L.length < 16777216 := by omega
    have hcut : cutS [rawP (2 + r1) (2 + r1 + r2) 1, rawP (-(2 + r1) - r2) (-(2 + r1)) 1, rawP ((-1) * r2) r2 2] none (some (cs.length : Int)) = (raw3 (2 + r1, r2)).take nc := by rw [cutS_take, hnc]; rfl
    have hm : mulOk (-1) r2 = true := mul64 (by omega) (by omega)
    refine forS_go (env1 := [some (.val (dealD ns t)), some (.val (.tup ms)), some (.val (.tup cs)), some (.own (L.map (rawR nc))), some (.val d), x5, x6, x7, x8, none, none, none, none, none, none, none, none, none, none, none]) (by simp) ?_
    unfold rawP at hcut
    simp -implicitDefEqProofs [l1__law_plant_of, e1, e2, szle, SZ, hz, hm, slcS, rawP, rawR] at hcut ⊢
    simp -implicitDefEqProofs [hcut]
end
section
variable {k : Nat} {μ : Store}
/-- the rows in lowest terms -/
theorem pl_box (x0 x1 x2 x3 x4 x5 x6 x7 x8 x9 x10 x12 x13 x14 x15 x16 x17 x18 x19 : Option SV) (a b q : Int) (hq : 0 < q) (hq2 : q < 8) (ha : a.natAbs < 64) (hb : b.natAbs < 64) : ev (Py.run fs Γ (k + 1)) Γ c1__law_plant_of [x0, x1, x2, x3, x4, x5, x6, x7, x8, x9, x10, some (.val (rawP a b q)), x12, x13, x14, x15, x16, x17, x18, x19] μ = some (.lst [pairD (Rat.divInt a q, Rat.divInt b q)], μ) := by
  have g1 := r_lratio (k := k) (n := 7) (μ := μ) a q (by omega) (by omega) (by omega) (by decide)
  have g2 := r_lratio (k := k) (n := 7) (μ := μ) b q (by omega) (by omega) (by omega) (by decide)
  have := ev_lc_map (Φ := Py.run fs Γ (k + 1)) (Γ := Γ) (μ := μ) (x := E.tup (Es.cons (E.call 32 (E.ix (E.slot 9) (E.int 0)) (Es.cons (E.ix (E.slot 9) (E.int 1)) Es.nil)) (Es.cons (E.call 32 (E.ix (E.slot 10) (E.int 0)) (Es.cons (E.ix (E.slot 10) (E.int 1)) Es.nil)) Es.nil))) (t := T.tp [T.nm 9, T.nm 10]) (it := I.seq (E.slot 11)) (c := Eo.none) (vs := [9, 10]) (env := [x0, x1, x2, x3, x4, x5, x6, x7, x8, x9, x10, some (.val (rawP a b q)), x12, x13, x14, x15, x16, x17, x18, x19]) (g := fun _ : Unit => .tup [.tup [.int a, .int q], .tup [.int b, .int q]]) (h := fun _ => pairD (Rat.divInt a q, Rat.divInt b q)) [()] (by simp -implicitDefEqProofs [rawP]) (by simp) (fun _ _ => ⟨[x0, x1, x2, x3, x4, x5, x6, x7, x8, some (.val (.tup [.int a, .int q])), some (.val (.tup [.int b, .int q])), some (.val (rawP a b q)), x12, x13, x14, x15, x16, x17, x18, x19], by simp, by simp, by simp -implicitDefEqProofs [a20, a21, g1, g2, szle, pairD]⟩)
  rw [c1__law_plant_of]; exact this
theorem pl_row (nc : Nat) (s : Int × Int) (hs : Drn s) (x0 x1 x2 x3 x4 x5 x6 x7 x8 x9 x10 x11 x13 x14 x15 x16 x17 x18 x19 : Option SV) : ev (Py.run fs Γ (k + 1)) Γ c2__law_plant_of [x0, x1, x2, x3, x4, x5, x6, x7, x8, x9, x10, x11, some (.val (rawR nc s)), x13, x14, x15, x16, x17, x18, x19] μ = some (.lst (((row3 s).take nc).map bx1), μ) := by
  obtain ⟨h1, h2, h3, h4⟩ := hs
  have key : ((row3 s).take nc).map bx1 = ([(rawP s.1 (s.1 + s.2) 1, (Rat.divInt s.1 1, Rat.divInt (s.1 + s.2) 1)), (rawP (-s.1 - s.2) (-s.1) 1, (Rat.divInt (-s.1 - s.2) 1, Rat.divInt (-s.1) 1)), (rawP ((-1) * s.2) s.2 2, (Rat.divInt ((-1) * s.2) 2, Rat.divInt s.2 2))].take nc).map fun q => bx1 q.2 := by
    rw [List.map_take, List.map_take]; rfl
  have key2 : (raw3 s).take nc = ([(rawP s.1 (s.1 + s.2) 1, (Rat.divInt s.1 1, Rat.divInt (s.1 + s.2) 1)), (rawP (-s.1 - s.2) (-s.1) 1, (Rat.divInt (-s.1 - s.2) 1, Rat.divInt (-s.1) 1)), (rawP ((-1) * s.2) s.2 2, (Rat.divInt ((-1) * s.2) 2, Rat.divInt s.2 2))].take nc).map (·.1) := by
    rw [List.map_take]; rfl
  rw [c2__law_plant_of, key]
  refine ev_lc_map (g := fun q : D × (Rat × Rat) => q.1) _ (by rw [← key2]; simp -implicitDefEqProofs [rawR]) (by simp; omega) fun q hq => ?_
  have hq' := List.mem_of_mem_take hq
  refine ⟨[x0, x1, x2, x3, x4, x5, x6, x7, x8, x9, x10, some (.val q.1), some (.val (rawR nc s)), x13, x14, x15, x16, x17, x18, x19], by simp, by simp, ?_⟩
  have hb : ∀ p : Rat × Rat, D.tup [pairD p] = bx1 p := fun _ => rfl
  simp only [List.mem_cons, List.not_mem_nil, or_false] at hq'
  rcases hq' with e | e | e <;> subst e
  · have := pl_box (k := k) (μ := μ) x0 x1 x2 x3 x4 x5 x6 x7 x8 x9 x10 (some (.val (rawR nc s))) x13 x14 x15 x16 x17 x18 x19 s.1 (s.1 + s.2) 1 (by decide) (by decide) (by omega) (by omega)
    simp -implicitDefEqProofs [this, hb]
  · have := pl_box (k := k) (μ := μ) x0 x1 x2 x3 x4 x5 x6 x7 x8 x9 x10 (some (.val (rawR nc s))) x13 x14 x15 x16 x17 x18 x19 (-s.1 - s.2) (-s.1) 1 (by decide) (by decide) (by omega) (by omega)
    simp -implicitDefEqProofs [this, hb]
  · have := pl_box (k := k) (μ := μ) x0 x1 x2 x3 x4 x5 x6 x7 x8 x9 x10 (some (.val (rawR nc s))) x13 x14 x15 x16 x17 x18 x19 ((-1) * s.2) s.2 2 (by decide) (by decide) (by omega) (by omega)
    simp -implicitDefEqProofs [this, hb] at this ⊢
    simp -implicitDefEqProofs [this, hb]
theorem pl_rows (nc : Nat) (L : List (Int × Int)) (hL : ∀ s ∈ L, Drn s) (hl : L.length ≤ 10) (x0 x1 x2 x4 x5 x6 x7 x8 x9 x10 x11 x12 x13 x14 x15 x16 x17 x18 x19 : Option SV) : ev (Py.run fs Γ (k + 1)) Γ c3__law_plant_of [x0, x1, x2, some (.val (.lst (L.map (rawR nc)))), x4, x5, x6, x7, x8, x9, x10, x11, x12, x13, x14, x15, x16, x17, x18, x19] μ = some (.lst (L.map fun s => rwD ((row3 s).take nc)), μ) := by
  rw [c3__law_plant_of]
  refine ev_lc_map (g := rawR nc) L (by simp -implicitDefEqProofs) (by omega) fun s hs => ?_
  have := pl_row (k := k) (μ := μ) nc s (hL s hs) x0 x1 x2 (some (.val (.lst (L.map (rawR nc))))) x4 x5 x6 x7 x8 x9 x10 x11 x13 x14 x15 x16 x17 x18 x19
  refine ⟨[x0, x1, x2, some (.val (.lst (L.map (rawR nc)))), x4, x5, x6, x7, x8, x9, x10, x11, some (.val (rawR nc s)), x13, x14, x15, x16, x17, x18, x19], by simp, by simp, ?_⟩
  simp -implicitDefEqProofs [-List.map_take, this, rwD]
end
end P48
end
section
set_option Elab.async false
set_option linter.all false
set_option maxRecDepth 100000
set_option maxHeartbeats 0
namespace P48
open PySem L2 Py Geo FM
section
variable {k : Nat} {μ : Store}
theorem r_lplus_raw {b : Nat} (s : Rat) (p q : Int) (hs : Sz b s) (hp : p.natAbs < 2 ^ 3) (hq : q.natAbs < 2 ^ 3) (h0 : 0 ≤ p) (h1 : 0 < q) (hb : b ≤ 2000) : ∃ v, Py.run fs Γ (k + 2) f__law_plus [rD s, .tup [.int p, .int q]] μ = some (rD v, μ) ∧ s ≤ v ∧ Sz (b + 4) v := by
  have m1 := mulOk_of hs.1 hq (by omega)
  have m2 := mulOk_of hp hs.den (by omega)
  have m3 := mulOk_of hs.den hq (by omega)
  have hq0 : (s.den : Int) * q ≠ 0 := Int.mul_ne_zero (den_ne _) (by omega)
  have z1 : (s.num * q + p * s.den).natAbs < 2 ^ (b + 3 + 1) := abs_add_lt (abs_mul_lt hs.1 hq) (by rw [Nat.add_comm]; exact abs_mul_lt hp hs.den)
  have z2 : ((s.den : Int) * q).natAbs < 2 ^ (b + 4) := Nat.lt_of_lt_of_le (abs_mul_lt hs.den hq) (Nat.pow_le_pow_right (by decide) (by omega))
  have g := r_lratio (k := k) (n := b + 4) (μ := μ) (s.num * q + p * s.den) (s.den * q) hq0 z1 z2 (by omega)
  refine ⟨Rat.divInt (s.num * q + p * s.den) (s.den * q), ?_, ?_, Sz.divInt z1 z2 hq0⟩
  · rw [u__law_plus, b__law_plus]
    simp -implicitDefEqProofs [t2, a20, a21, m1, m2, m3, g]
  · have e : Rat.divInt (s.num * q + p * s.den) (s.den * q) = s + Rat.divInt p q := by
      rw [← Rat.divInt_add_divInt _ _ (den_ne s) (by omega), Rat.num_divInt_den]
    have p0 : 0 ≤ Rat.divInt p q := by rw [Rat.divInt_nonneg_iff_of_pos_right h1]; exact h0
    rw [e]
    grind
end
section
variable {k : Nat} (ns : List Int) (t : Int) (h : DealOk ns t)
include h
theorem pl_sw (x1 x2 x3 : Option SV) (x4 x5 x6 x7 x8 x15 x16 : Option SV) (turn : Nat) (ht : turn < 2) (L : List Sw) (hL : L.length ≤ 5) (a : Nat) (ha : a < 80000) :
    ∃ (s : Sw) (a' : Nat) (y15 y16 : Option SV), exs (Py.run fs Γ (k + 2)) Γ l2__law_plant_of [some (.val (dealD ns t)), x1, x2, x3, x4, x5, x6, x7, x8, none, none, none, none, some (.own (L.map swD)), some (.val (.int turn)), x15, x16, none, none, none] (Sa a) =
      some (.nx [some (.val (dealD ns t)), x1, x2, x3, x4, x5, x6, x7, x8, none, none, none, none, some (.own ((L ++ [s]).map swD)), some (.val (.int turn)), y15, y16, none, none, none] (Sa a')) ∧ a ≤ a' ∧ a' ≤ a + 6 ∧ s.st = turn ∧ s.goal = 1 - turn ∧ SwOk 2 s := by
  obtain ⟨r1, b1, b2, e1⟩ := r_take (k := k + 1) (a := a) ns t 3 h (by decide) (by omega)
  obtain ⟨r2, b3, b4, e2⟩ := r_take (k := k + 1) (a := a + 1) ns t 2 h (by decide) (by omega)
  have g1 := r_lratio (k := k + 1) (n := 2) (μ := Sa (a + 1)) (r1 - 1) 2 (by decide) (by omega) (by decide) (by decide)
  have z1 : Sz 2 (Rat.divInt (r1 - 1) 2) := Sz.divInt (by omega) (by decide) (by decide)
  generalize Rat.divInt (r1 - 1) 2 = kl at *
  obtain ⟨kh, g2, hle, z2⟩ := r_lplus_raw (k := k) (μ := Sa (a + 2)) kl r2 2 z1 (by omega) (by decide) b3 (by decide) (by decide)
  obtain ⟨bs, a3, g3, l3, l4, hb1, hb2⟩ := r_edge (k := k) ns t h (a + 2) (by omega)
  obtain ⟨r4, b5, b6, e4⟩ := r_take (k := k + 1) (a := a3) ns t 4 h (by decide) (by omega)
  have g4 := r_lratio (k := k + 1) (n := 6) (μ := Sa (a3 + 1)) kh.num kh.den (den_ne kh) z2.1 z2.den (by decide)
  rw [Rat.num_divInt_den] at g4
  have c4 : ∀ (x9 x10 x11 x12 x13 x14 x15 x17 x18 x19 : Option SV), ev (Py.run fs Γ (k + 2)) Γ c4__law_plant_of [some (.val (dealD ns t)), x1, x2, x3, x4, x5, x6, x7, x8, x9, x10, x11, x12, x13, x14, x15, some (.val (.tup [.tup [rD kl, rD kh]])), x17, x18, x19] (Sa (a3 + 1)) = some (.lst [pairD (kl, kh)], Sa (a3 + 1)) := by
    intro x9 x10 x11 x12 x13 x14 x15 x17 x18 x19
    have := ev_lc_map (Φ := Py.run fs Γ (k + 2)) (Γ := Γ) (μ := Sa (a3 + 1)) (x := E.tup (Es.cons (E.slot 9) (Es.cons (E.call 32 (E.ix (E.slot 10) (E.int 0)) (Es.cons (E.ix (E.slot 10) (E.int 1)) Es.nil)) Es.nil))) (t := T.tp [T.nm 9, T.nm 10]) (it := I.seq (E.slot 16)) (c := Eo.none) (vs := [9, 10]) (env := [some (.val (dealD ns t)), x1, x2, x3, x4, x5, x6, x7, x8, x9, x10, x11, x12, x13, x14, x15, some (.val (.tup [.tup [rD kl, rD kh]])), x17, x18, x19]) (g := fun _ : Unit => .tup [rD kl, rD kh]) (h := fun _ => pairD (kl, kh)) [()] (by simp -implicitDefEqProofs) (by simp) (fun _ _ => ⟨[some (.val (dealD ns t)), x1, x2, x3, x4, x5, x6, x7, x8, some (.val (rD kl)), some (.val (rD kh)), x11, x12, x13, x14, x15, some (.val (.tup [.tup [rD kl, rD kh]])), x17, x18, x19], by simp, by simp, by simp -implicitDefEqProofs [t2, a20, a21, g4, szle, pairD]⟩)
    rw [c4__law_plant_of]; exact this
  have hz : L.length < 16777216 := by omega
  have hb : D.tup [pairD (kl, kh)] = bx1 (kl, kh) := rfl
  have hgo : ((1 : Int) - turn) = ((1 - turn : Nat) : Int) := by omega
  refine ⟨⟨turn, 1 - turn, bs, decide (r4 = 0), kl, kh⟩, a3 + 1, some (.val (rD kl)), some (.val (.tup [.tup [rD kl, rD kh]])), ?_, by omega, by omega, rfl, rfl, by dsimp only; omega, by dsimp only; omega, by dsimp only; omega, ⟨hb1, hb2⟩, z1.mono (by decide), z2.mono (by decide), hle⟩
  by_cases c : r4 = 0
  · have hk : atI [D.str "may", .str "must"] 1 = some (.str "must") := rfl
    simp -implicitDefEqProofs [l2__law_plant_of, e1, e2, g1, g2, g3, e4, c4, c, hk, szle, SZ, hz, hb, hgo, swD, kindD]
  · have hk : atI [D.str "may", .str "must"] 0 = some (.str "may") := rfl
    simp -implicitDefEqProofs [l2__law_plant_of, e1, e2, g1, g2, g3, e4, c4, c, hk, szle, SZ, hz, hb, hgo, swD, kindD]
end
end P48
end
section
set_option Elab.async false
set_option linter.all false
set_option maxRecDepth 100000
set_option maxHeartbeats 0
namespace P48
open PySem L2 Py Geo FM
def SwsOk (L : List Sw) : Prop := L.length ≤ 2 ∧ (∀ s ∈ L, SwOk 2 s) ∧ ∀ m now : Nat, (L.filter fun s => decide (s.st = m) && decide (s.goal = now)).length ≤ 1
section
variable {k : Nat} (ns : List Int) (t : Int) (h : DealOk ns t)
include h
theorem pl_sws (x1 x2 x3 x4 x5 x6 x7 x8 : Option SV) (n : Nat) (hn : n ≤ 2) (a : Nat) (ha : a < 70000) :
    ∃ (L : List Sw) (a' : Nat) (y14 y15 y16 : Option SV), forS (T.nm 14) (fun env' μ' => exs (Py.run fs Γ (k + 2)) Γ l2__law_plant_of env' μ') ((List.range n).map fun i : Nat => .int (i : Int)) [some (.val (dealD ns t)), x1, x2, x3, x4, x5, x6, x7, x8, none, none, none, none, some (.own []), none, none, none, none, none, none] (Sa a) =
      some (.nx [some (.val (dealD ns t)), x1, x2, x3, x4, x5, x6, x7, x8, none, none, none, none, some (.own (L.map swD)), y14, y15, y16, none, none, none] (Sa a')) ∧ a ≤ a' ∧ a' ≤ a + 12 ∧ SwsOk L ∧ (n = 0 → L = []) := by
  have hc : n = 0 ∨ n = 1 ∨ n = 2 := by omega
  rcases hc with c | c | c
  · subst c
    exact ⟨[], a, none, none, none, rfl, by omega, by omega, ⟨by simp, by simp, by simp⟩, fun _ => rfl⟩
  · subst c
    obtain ⟨s, a1, y15, y16, e, l1, l2, q1, q2, q3⟩ := pl_sw (k := k) ns t h x1 x2 x3 x4 x5 x6 x7 x8 none none 0 (by decide) [] (by simp) a (by omega)
    refine ⟨[s], a1, some (.val (.int (0 : Nat))), y15, y16, ?_, l1, by omega, ⟨by simp, by simpa using q3, fun m now => Nat.le_trans (List.length_filter_le _ _) (by simp)⟩, by simp⟩
    rw [show (List.range 1).map (fun i : Nat => D.int (i : Int)) = [.int ((0 : Nat) : Int)] from rfl]
    exact forS_go (env1 := [some (.val (dealD ns t)), x1, x2, x3, x4, x5, x6, x7, x8, none, none, none, none, some (.own []), some (.val (.int ((0 : Nat) : Int))), none, none, none, none, none]) (by simp) e
  · subst c
    obtain ⟨s, a1, y15, y16, e, l1, l2, q1, q2, q3⟩ := pl_sw (k := k) ns t h x1 x2 x3 x4 x5 x6 x7 x8 none none 0 (by decide) [] (by simp) a (by omega)
    obtain ⟨s', a2, z15, z16, e', l3, l4, p1, p2, p3⟩ := pl_sw (k := k) ns t h x1 x2 x3 x4 x5 x6 x7 x8 y15 y16 1 (by decide) [s] (by simp) a1 (by omega)
    refine ⟨[s, s'], a2, some (.val (.int (1 : Nat))), z15, z16, ?_, by omega, by omega, ⟨by simp, ?_, fun m now => ?_⟩, by simp⟩
    · rw [show (List.range 2).map (fun i : Nat => D.int (i : Int)) = [.int ((0 : Nat) : Int), .int ((1 : Nat) : Int)] from rfl]
      have f1 := forS_go (t := T.nm 14) (ds := [D.int ((1 : Nat) : Int)]) (env1 := [some (.val (dealD ns t)), x1, x2, x3, x4, x5, x6, x7, x8, none, none, none, none, some (.own []), some (.val (.int ((0 : Nat) : Int))), none, none, none, none, none]) (env := [some (.val (dealD ns t)), x1, x2, x3, x4, x5, x6, x7, x8, none, none, none, none, some (.own []), none, none, none, none, none, none]) (d := D.int ((0 : Nat) : Int)) (b := fun env' μ' => exs (Py.run fs Γ (k + 2)) Γ l2__law_plant_of env' μ') (by simp) e
      rw [f1]
      exact forS_go (env1 := [some (.val (dealD ns t)), x1, x2, x3, x4, x5, x6, x7, x8, none, none, none, none, some (.own ([s].map swD)), some (.val (.int ((1 : Nat) : Int))), y15, y16, none, none, none]) (by simp) e'
    · intro z hz
      rcases List.mem_cons.mp hz with e | e
      · subst e; exact q3
      · have : z = s' := by simpa using e
        subst this; exact p3
    · simp only [List.filter_cons, List.filter_nil, q1, q2, p1, p2]
      by_cases c0 : m = 0
      · subst c0
        simp only [decide_true, Bool.true_and, show decide (1 = 0) = false from rfl, Bool.false_and, Bool.false_eq_true, if_false]
        split <;> simp only [List.length_cons, List.length_nil] <;> omega
      · have c1 : decide (0 = m) = false := decide_eq_false (by omega)
        simp only [c1, Bool.false_and, Bool.false_eq_true, if_false]
        split <;> simp only [List.length_cons, List.length_nil] <;> omega
theorem row_ok {nc : Nat} (hnc : nc = 2 ∨ nc = 3) {s : Int × Int} (hs : Drn s) : ((row3 s).take nc).length = nc ∧ ∀ p ∈ (row3 s).take nc, Sz 7 p.1 ∧ Sz 7 p.2 ∧ p.1 ≤ p.2 := by
  clear h
  obtain ⟨h1, h2, h3, h4⟩ := hs
  refine ⟨?_, fun p hp => ?_⟩
  · rw [List.length_take]; simp [row3]; omega
  · have hp' := List.mem_of_mem_take hp
    have le : ∀ a b q : Int, 0 < q → a ≤ b → Rat.divInt a q ≤ Rat.divInt b q := fun a b q hq hab => by
      rw [Rat.divInt_eq_div, Rat.divInt_eq_div]
      exact div_mono (by exact_mod_cast hq) (by exact_mod_cast hab)
    unfold row3 at hp'
    simp only [List.mem_cons, List.not_mem_nil, or_false] at hp'
    rcases hp' with e | e | e <;> subst e
    · exact ⟨Sz.divInt (by omega) (by decide) (by decide), Sz.divInt (by omega) (by decide) (by decide), le _ _ _ (by decide) (by omega)⟩
    · exact ⟨Sz.divInt (by omega) (by decide) (by decide), Sz.divInt (by omega) (by decide) (by decide), le _ _ _ (by decide) (by omega)⟩
    · exact ⟨Sz.divInt (by omega) (by decide) (by decide), Sz.divInt (by omega) (by decide) (by decide), le _ _ _ (by decide) (by omega)⟩
theorem pl_body (MS CS : List D) (hM : MS.length = 1 ∨ MS.length = 2) (hC : CS.length = 2 ∨ CS.length = 3) (a : Nat) (ha : a < 60000) :
    ∃ (P : Pl) (a' : Nat), fin (exs (Py.run fs Γ (k + 2)) Γ (b__law_plant_of.drop 2) [some (.val (dealD ns t)), some (.val (.tup MS)), some (.val (.tup CS)), none, none, none, none, none, none, none, none, none, none, none, none, none, none, none, none, none] (Sa a)) = some (plD P, Sa a') ∧ a ≤ a' ∧ a' ≤ a + 40 ∧ PlOk P := by
  obtain ⟨L, y4, y5, y6, y7, y8, e1, hl, hL⟩ := pl_l1 (k := k + 1) ns t h MS CS CS.length rfl MS [] none none none none none a (by omega) (by simp; omega) (by simp)
  have e1r := pl_rows (k := k + 1) (μ := Sa (a + 2 * MS.length)) CS.length L hL (by rw [hl]; simp; omega)
  generalize ha1 : a + 2 * MS.length = a1 at *
  have ha1' : a1 ≤ a + 4 := by omega
  obtain ⟨r1, b2, f1⟩ := r_takeN (k := k + 1) ns t h 3 (by decide) a1 (by omega)
  have hc3 : ((3 : Nat) : Int) = 3 := rfl
  rw [hc3] at f1
  obtain ⟨n, hn1, hn2, hn0⟩ : ∃ n : Nat, (r1 : Int) * (if (1 : Int) < MS.length then 1 else 0) = n ∧ n ≤ 2 ∧ (MS.length = 1 → n = 0) := by
    by_cases c : (1 : Int) < MS.length
    · exact ⟨r1, by rw [if_pos c]; omega, by omega, fun z => by omega⟩
    · exact ⟨0, by rw [if_neg c]; simp, by omega, fun _ => rfl⟩
  have hmul : mulOk (r1 : Int) (if (1 : Int) < MS.length then 1 else 0) = true := mul64 (by omega) (by split <;> omega)
  obtain ⟨SW, a2, y14, y15, y16, e2, l1, l2, hSW, hSW0⟩ := pl_sws (k := k) ns t h (some (.val (.tup MS))) (some (.val (.tup CS))) (some (.val (.tup (L.map fun s => rwD ((row3 s).take CS.length))))) y4 y5 y6 y7 y8 n hn2 (a1 + 1) (by omega)
  obtain ⟨r2, b3, b4, f2⟩ := r_take (k := k + 1) (a := a2) ns t 2 h (by decide) (by omega)
  have g2 := r_lratio (k := k + 1) (n := 2) (μ := Sa (a2 + 1)) r2 2 (by decide) (by omega) (by decide) (by decide)
  obtain ⟨r3, b5, b6, f3⟩ := r_take (k := k + 1) (a := a2 + 1) ns t 2 h (by decide) (by omega)
  obtain ⟨r4, b7, b8, f4⟩ := r_take (k := k + 1) (a := a2 + 2) ns t 2 h (by decide) (by omega)
  obtain ⟨r5, b9, b10, f5⟩ := r_take (k := k + 1) (a := a2 + 3) ns t 2 h (by decide) (by omega)
  have g5 := r_line (k := k + 1) (μ := Sa (a2 + 4)) 1 0 ((-r4 : Int) : Rat) ((r5 : Int) : Rat) (by decide)
  rw [rD_int, rD_int] at g5
  have hn1c : ((1 : Nat) : Int) = 1 := rfl
  have hn0c : ((0 : Nat) : Int) = 0 := rfl
  rw [hn1c, hn0c] at g5
  generalize D.tup [bdD ⟨unitL 1 0 1, -((-r4 : Int) : Rat), false⟩, bdD ⟨unitL 1 0 (-1), ((r5 : Int) : Rat), false⟩] = SL at g5
  obtain ⟨j, hj, g6⟩ := r_pick (k := k) ns t h [.tup [.int 1, .int 1], .tup [.int 1, .int 1], .tup [.int 1, .int 2], .tup [.int 2, .int 1]] (by simp) (by simp) (a2 + 4) (by omega)
  have hbeat : ∃ b : Rat, [D.tup [.int 1, .int 1], .tup [.int 1, .int 1], .tup [.int 1, .int 2], .tup [.int 2, .int 1]][j] = rD b ∧ Sz 3 b ∧ 0 < b := by
    have hj' : j = 0 ∨ j = 1 ∨ j = 2 ∨ j = 3 := by simp at hj; omega
    rcases hj' with c | c | c | c <;> subst c
    · exact ⟨1, rfl, sz_one (by decide), by decide⟩
    · exact ⟨1, rfl, sz_one (by decide), by decide⟩
    · exact ⟨1 / 2, rD_half.symm, by
        have : (1 / 2 : Rat) = Rat.divInt 1 2 := by rw [Rat.divInt_eq_div]; rfl
        rw [this]
        exact Sz.divInt (by decide) (by decide) (by decide), by decide +kernel⟩
    · exact ⟨((2 : Int) : Rat), rfl, int_sz (by decide) (by decide), by decide +kernel⟩
  obtain ⟨b, hb1, hb2, hb3⟩ := hbeat
  rw [hb1] at g6
  have hln : rngS 0 (n : Int) = some ((List.range n).map fun i : Nat => .int (i : Int)) := rngS_map (by omega)
  have herr : 0 ≤ Rat.divInt r2 2 := by rw [Rat.divInt_nonneg_iff_of_pos_right (by decide)]; exact b3
  refine ⟨⟨MS, CS, b, L.map fun s => (row3 s).take CS.length, SW, Rat.divInt r2 2, r3, .tup [.int 0, SL]⟩, a2 + 4 + 1, ?_, by omega, by omega, ?_⟩
  · have hrw : (L.map fun s => (row3 s).take CS.length).map rwD = L.map fun s => rwD ((row3 s).take CS.length) := by rw [List.map_map]; rfl
    unfold plD snD
    rw [hrw]
    rw [List.map_nil] at e1
    simp only [b__law_plant_of, List.drop]
    simp -implicitDefEqProofs [ex_for, e1, szle, -List.map_take, -List.map_map]
    simp -implicitDefEqProofs [e1r, f1, hmul, hn1, hln, -List.map_take, -List.map_map]
    simp -implicitDefEqProofs [ex_for, f1, hmul, hn1, hln, e2, f2, g2, f3, f4, f5, g5, g6, szle, -List.map_take, -List.map_map]
  · have hLl : L.length = MS.length := by rw [hl]; simp
    exact {
      nm := hM
      nc := hC
      rl := by dsimp only; rw [List.length_map, hLl]
      rt := fun r hr => by
        obtain ⟨s, hs, rfl⟩ := List.mem_map.mp hr
        exact row_ok ns t h hC (hL s hs)
      bt := ⟨hb2, hb3⟩
      er := ⟨Sz.divInt (by omega) (by decide) (by decide), herr⟩
      sl := hSW.1
      sw := fun s hs => by
        rcases hM with c | c
        · have hs' : s ∈ SW := hs
          rw [hSW0 (hn0 c)] at hs'; cases hs'
        · dsimp only; rw [c]; exact hSW.2.1 s hs
      uq := hSW.2.2 }
theorem r_plant (a : Nat) (ha : a < 50000) : ∃ (P : Pl) (a' : Nat), Py.run fs Γ (k + 3) f__law_plant_of [dealD ns t] (Sa a) = some (plD P, Sa a') ∧ a ≤ a' ∧ a' ≤ a + 50 ∧ PlOk P := by
  obtain ⟨r1, b1, b2, e1⟩ := r_take (k := k + 1) (a := a) ns t 4 h (by decide) (by omega)
  obtain ⟨r2, b3, e2⟩ := r_takeN (k := k + 1) ns t h 2 (by decide) (a + 1) (by omega)
  have hc2 : ((2 : Nat) : Int) = 2 := rfl
  rw [hc2] at e2
  have hM : ∃ MS : List D, (MS.length = 1 ∨ MS.length = 2) ∧ cutS [D.str "m0", .str "m1"] none (some (1 + if r1 = 1 then 1 else 0)) = MS := by
    by_cases c : r1 = 1
    · exact ⟨[.str "m0", .str "m1"], .inr rfl, by rw [if_pos c]; exact cutS_take _ 2⟩
    · exact ⟨[.str "m0"], .inl rfl, by rw [if_neg c]; exact cutS_take _ 1⟩
  obtain ⟨MS, hM1, hM2⟩ := hM
  have hC : ∃ CS : List D, (CS.length = 2 ∨ CS.length = 3) ∧ cutS [D.str "up", .str "down", .str "wait"] none (some (2 + (r2 : Int))) = CS := by
    have c : r2 = 0 ∨ r2 = 1 := by omega
    rcases c with c | c <;> subst c
    · exact ⟨[.str "up", .str "down"], .inl rfl, cutS_take _ 2⟩
    · exact ⟨[.str "up", .str "down", .str "wait"], .inr rfl, cutS_take _ 3⟩
  obtain ⟨CS, hC1, hC2⟩ := hC
  obtain ⟨P, a', e, l1, l2, hP⟩ := pl_body (k := k) ns t h MS CS hM1 hC1 (a + 2) (by omega)
  refine ⟨P, a', ?_, by omega, by omega, hP⟩
  rw [u__law_plant_of, ← e]
  rw [show b__law_plant_of = (b__law_plant_of.getD 0 S.pass) :: (b__law_plant_of.getD 1 S.pass) :: b__law_plant_of.drop 2 from rfl]
  rw [exs_nx (env' := [some (.val (dealD ns t)), some (.val (.tup MS)), none, none, none, none, none, none, none, none, none, none, none, none, none, none, none, none, none, none]) (μ' := Sa (a + 1)) (by
    simp only [b__law_plant_of, List.getD_cons_zero]
    simp -implicitDefEqProofs [e1, szle, slcS, hM2])]
  rw [exs_nx (env' := [some (.val (dealD ns t)), some (.val (.tup MS)), some (.val (.tup CS)), none, none, none, none, none, none, none, none, none, none, none, none, none, none, none, none, none]) (μ' := Sa (a + 2)) (by
    simp only [b__law_plant_of, List.getD_cons_zero, List.getD_cons_succ]
    simp -implicitDefEqProofs [e2, szle, slcS, hC2])]
  rfl
end
end P48
end
section
set_option Elab.async false
set_option linter.all false
set_option maxRecDepth 100000
set_option maxHeartbeats 0
namespace P48
open PySem L2 Py Geo FM
structure Stt (P : Pl) (d : Rat) (i : Nat) (e : Int × Int) (x : Rat) (m f : Nat) : Prop where
  est : Est P d e x f m
  m : m < P.modes.length
  f : f ≤ 3
  x : Sz (6 + 57 * i) x
  e1 : e.1.natAbs < 2 ^ (500 + i)
  e2 : e.2.natAbs < 2 ^ (500 + i)
section
variable {k : Nat} (ns : List Int) (t : Int) (h : DealOk ns t) {P : Pl} (hP : PlOk P) {d : Rat} (hd : 0 < d) (hds : Sz 3 d)
include h hP hd hds
theorem l2_step (i : Nat) (hi : i < 7) (e : Int × Int) (x : Rat) (m f : Nat) (S : Stt P d i e x m f) (x0 x6 x7 x8 x9 x10 x11 x12 x13 x14 x15 x20 x21 x22 x23 x24 x25 x26 : Option SV) (a : Nat) (ha : a < 60000) :
    ∃ (e' : Int × Int) (x' : Rat) (m' f' a' : Nat) (y21 y22 y23 y24 y25 y26 : Option SV), exs (Py.run fs Γ (k + 9)) Γ l2_law [x0, some (.val (dealD ns t)), some (.val (plD P)), some (.val (rD d)), some (.val (offsO P.modes.length P.cmds.length (off P d))), some (.val (rdsD (ce (P.err / d)))), x6, x7, x8, x9, x10, x11, x12, x13, x14, x15, some (.val (rD x)), some (.val (.int m)), some (.val (.tup [prI e])), some (.val (.int f)), x20, x21, x22, x23, x24, x25, x26] (Sa a) =
      some (.nx [x0, some (.val (dealD ns t)), some (.val (plD P)), some (.val (rD d)), some (.val (offsO P.modes.length P.cmds.length (off P d))), some (.val (rdsD (ce (P.err / d)))), x6, x7, x8, x9, x10, x11, x12, x13, x14, x15, some (.val (rD x')), some (.val (.int m')), some (.val (.tup [prI e'])), some (.val (.int f')), x20, y21, y22, y23, y24, y25, y26] (Sa a')) ∧ a ≤ a' ∧ a' ≤ a + 8 ∧ Stt P d (i + 1) e' x' m' f' := by
  obtain ⟨S1, S2, S3, S4, S5, S6⟩ := S
  have h0 : d ≠ 0 := by grind
  have hnm : P.modes.length ≤ 2 := by have := hP.nm; omega
  have hnc : P.cmds.length ≤ 3 := by have := hP.nc; omega
  have hnc0 : 0 < P.cmds.length := by have := hP.nc; omega
  have hO := ook hP hd
  have ea : 0 ≤ ce (P.err / d) := by
    have h1 := le_ce (P.err / d)
    have h2 : 0 ≤ P.err / d := by rw [Rat.div_def]; exact Rat.mul_nonneg hP.er.2 (by have := Rat.inv_pos.mpr hd; grind)
    have : ((0 : Int) : Rat) ≤ (ce (P.err / d) : Rat) := by simp; grind
    exact Rat.intCast_le_intCast.mp this
  obtain ⟨c, hc, f1⟩ := r_takeN (k := k + 8) ns t h P.cmds.length hnc0 a (by omega)
  have g1 := r_beat_box (k := k + 4) (μ := Sa (a + 1)) hP S2 hc
  obtain ⟨z1, z2, _⟩ := bx_ok hP S2 hc
  obtain ⟨now, here, later, a2, f2, l1, l2, hnow, hG, zh, zl⟩ := r_ahead (k := k + 3) ns t h hP m c S2 hc x S4 (by omega) (a + 1) (by omega)
  have g2 := r_lplus (k := k + 7) (n := 6 + 57 * i + 10 + 1) (μ := Sa a2) x (bx P m c).1 S4 z1 (by omega) (by omega)
  have g3 := r_lplus (k := k + 7) (n := 6 + 57 * i + 10 + 1) (μ := Sa a2) x (bx P m c).2 S4 z2 (by omega) (by omega)
  have g4 := r_not_above (k := k + 8) (μ := Sa a2) (x + (bx P m c).1) here (S4.add z1) zh (by omega)
  have g5 := r_not_above (k := k + 8) (μ := Sa a2) here (x + (bx P m c).2) zh (S4.add z2) (by omega)
  rw [decide_eq_true hG.1.1] at g4
  rw [decide_eq_true hG.1.2] at g5
  obtain ⟨p, hp, hE⟩ := est_go hP hd S2 hc S1 hG
  obtain ⟨p1, p2⟩ := off_sz hP h0 hds S2 hc hp
  have g6 := r_gone_on (k := k + 8) (μ := Sa a2) e p
  have tO : ∀ μ : Store, itsS μ (offsO P.modes.length P.cmds.length (off P d)) = some ((List.range P.modes.length).map (bandO P.modes.length P.cmds.length (off P d))) := fun _ => rfl
  have tB : ∀ m, ∀ μ : Store, itsS μ (bandO P.modes.length P.cmds.length (off P d) m) = some ((List.range P.cmds.length).map (rowO P.modes.length (off P d) m)) := fun _ _ => rfl
  have tR : ∀ μ : Store, itsS μ (rowO P.modes.length (off P d) m c) = some ((List.range P.modes.length).map fun now => offD (off P d m c now)) := fun _ => rfl
  have aO := bandO_at (nm := P.modes.length) (nc := P.cmds.length) (O := off P d) S2
  have aB : atI ((List.range P.cmds.length).map (rowO P.modes.length (off P d) m)) (c : Int) = some (rowO P.modes.length (off P d) m c) := by
    have := atI_map (g := rowO P.modes.length (off P d) m) (l := List.range P.cmds.length) (i := c) (by simpa using hc)
    rw [this]; simp
  have aR : atI ((List.range P.modes.length).map fun now => offD (off P d m c now)) (now : Int) = some (.tup [prI p]) := by rw [rowO_at hnow, hp]; rfl
  have hpow : 2 ^ (500 + (i + 1)) = 2 * 2 ^ (500 + i) := by rw [← Nat.add_assoc, Nat.pow_succ, Nat.mul_comm]
  have hbig : 2 ^ 21 ≤ 2 ^ (500 + i) := Nat.pow_le_pow_right (by decide) (by omega)
  have hbig2 : 2 ^ 490 * 8 ≤ 2 ^ (500 + i) := by
    have : 2 ^ 493 ≤ 2 ^ (500 + i) := Nat.pow_le_pow_right (by decide) (by omega)
    have e : (2 : Nat) ^ 490 * 8 = 2 ^ 493 := by decide +kernel
    omega
  have q1 : (e.1 + p.1).natAbs < 2 ^ (500 + (i + 1)) := by rw [hpow]; have := Int.natAbs_add_le e.1 p.1; omega
  have q2 : (e.2 + p.2).natAbs < 2 ^ (500 + (i + 1)) := by rw [hpow]; have := Int.natAbs_add_le e.2 p.2; omega
  have zl' : Sz (6 + 57 * (i + 1)) later := zl.mono (by omega)
  have tw : ∀ (w : Nat → Int) (μ : Store), itsS μ (wdsD P.modes.length w) = some ((List.range P.modes.length).map fun m => .lst [.int (w m)]) := fun _ _ => rfl
  have nt : ∀ l, Py.isNon (.tup l) = false := fun _ => rfl
  have ulD : D.tup [rD d] = unD d := rfl
  -- the last check
  have chk : ∀ (e' : Int × Int) (f' a' : Nat), Est P d e' later f' now → f' ≤ 4 → e'.1.natAbs < 2 ^ (500 + (i + 1)) → e'.2.natAbs < 2 ^ (500 + (i + 1)) →
      Py.run fs Γ (k + 9) f__law_inside [rD later, rD d, prI e'] (Sa a') = some (.bl true, Sa a') ∧ Py.run fs Γ (k + 9) f_widths_of [.tup [prI e']] (Sa a') = some (.lst [.int (e'.2 - e'.1)], Sa a') ∧
      Py.run fs Γ (k + 9) f_failed_widths [offsO P.modes.length P.cmds.length (off P d), rdsD (ce (P.err / d)), .int f'] (Sa a') = some (wdsD P.modes.length (wid P.modes.length P.cmds.length (off P d) (ce (P.err / d) + (ce (P.err / d) + 1)) f'), Sa a') ∧
      ¬ wid P.modes.length P.cmds.length (off P d) (ce (P.err / d) + (ce (P.err / d) + 1)) f' now < e'.2 - e'.1 := by
    intro e' f' a' hE' hf' b1 b2
    have k1 := r_inside (k := k + 6) (μ := Sa a') later d e'.1 e'.2 zl' hds b1 b2 (by omega) (by omega)
    rw [decide_eq_true hE'.1, decide_eq_true hE'.2.1] at k1
    exact ⟨k1, r_widths_of (k := k + 8) (μ := Sa a') e', r_failed (k := k + 6) (μ := Sa a') hO hnm hnc _ ea f' (by omega), by have := hE'.2.2; omega⟩
  -- a reading met
  have meet : ∀ a', a' < 80000 → ∃ r : Int, Py.run fs Γ (k + 9) f__law_reading [dealD ns t, plD P, rD d, rD later] (Sa a') = some (.int r, Sa (a' + 1)) ∧ Py.run fs Γ (k + 9) f_read_box [rdsD (ce (P.err / d)), .tup [.int r]] (Sa (a' + 1)) = some (.tup [prI (r - ce (P.err / d), r + (ce (P.err / d) + 1))], Sa (a' + 1)) ∧
      ∃ e' : Int × Int, Py.run fs Γ (k + 9) f_met_boxes [.tup [prI (e.1 + p.1, e.2 + p.2)], .tup [prI (r - ce (P.err / d), r + (ce (P.err / d) + 1))]] (Sa (a' + 1)) = some (.tup [prI e'], Sa (a' + 1)) ∧ Est P d e' later 0 now ∧ e'.1.natAbs < 2 ^ (500 + (i + 1)) ∧ e'.2.natAbs < 2 ^ (500 + (i + 1)) := by
    intro a' ha'
    obtain ⟨r, k1, kb, v, v1, v2, hr⟩ := r_reading (k := k + 4) ns t h hP d later h0 hds zl (by omega) (by decide) a' (by omega)
    have hin := read_in (P := P) hd (x := later) (v := v) (a := ce (P.err / d)) (dce hd P.err) v1 v2
    rw [← hr] at hin
    obtain ⟨k3, k4⟩ := est_meet (P := P) hd hE.1 hE.2.1 now hin
    have kb2 : r.natAbs < 2 ^ 490 := Nat.lt_of_lt_of_le kb (Nat.pow_le_pow_right (by decide) (by omega))
    have ka : (ce (P.err / d)).natAbs < 2 ^ 490 := Nat.lt_of_lt_of_le (ce_sz (hP.er.1.div hds h0)) (Nat.pow_le_pow_right (by decide) (by decide))
    refine ⟨r, k1, r_read_box (k := k + 8) (μ := Sa (a' + 1)) _ r, _, r_met_boxes (k := k + 8) (μ := Sa (a' + 1)) _ _ k3, k4, ?_, ?_⟩
    · dsimp only at q1 q2 ⊢
      generalize (2 : Nat) ^ 490 = Z at *
      unfold mx2; split <;> omega
    · dsimp only at q1 q2 ⊢
      generalize (2 : Nat) ^ 490 = Z at *
      unfold mn2; split <;> omega
  by_cases hf3 : 3 < f + 1
  · obtain ⟨r, k1, k2, e', k3, k4, k5, k6⟩ := meet a2 (by omega)
    obtain ⟨c1, c2, c3, c4⟩ := chk e' 0 (a2 + 1) k4 (by omega) k5 k6
    have hf3' : (3 : Int) < (f : Int) + 1 := by omega
    have hz0 : ((0 : Nat) : Int) = 0 := rfl
    rw [hz0] at c3
    refine ⟨e', later, now, 0, a2 + 1, some (.val (.int c)), some (.val (rD (bx P m c).1)), some (.val (rD (bx P m c).2)), some (.val (.int now)), some (.val (rD here)), some (.val (rD later)), ?_, by omega, by omega, ⟨k4, hnow, by omega, zl', k5, k6⟩⟩
    simp -implicitDefEqProofs [l2_law, tpl, at9_3, f1, g1, tb1, at1_0, pairD, f2, g2, g3, g4, g5, tO, aO, tB, aB, tR, aR, g6, hf3', k1, k2, k3, szle, nt, c1, c2, c3, c4, tw, wdsD_at hnow]
  · obtain ⟨r0, b1, b2, f3⟩ := r_take (k := k + 8) (a := a2) ns t 2 h (by decide) (by omega)
    have hf3' : ¬ (3 : Int) < (f : Int) + 1 := by omega
    by_cases cr : r0 = 0
    · obtain ⟨r, k1, k2, e', k3, k4, k5, k6⟩ := meet (a2 + 1) (by omega)
      obtain ⟨c1, c2, c3, c4⟩ := chk e' 0 (a2 + 1 + 1) k4 (by omega) k5 k6
      have hz0 : ((0 : Nat) : Int) = 0 := rfl
      rw [hz0] at c3
      refine ⟨e', later, now, 0, a2 + 1 + 1, some (.val (.int c)), some (.val (rD (bx P m c).1)), some (.val (rD (bx P m c).2)), some (.val (.int now)), some (.val (rD here)), some (.val (rD later)), ?_, by omega, by omega, ⟨k4, hnow, by omega, zl', k5, k6⟩⟩
      simp -implicitDefEqProofs [l2_law, tpl, at9_3, f1, g1, tb1, at1_0, pairD, f2, g2, g3, g4, g5, tO, aO, tB, aB, tR, aR, g6, hf3', f3, cr, k1, k2, k3, szle, nt, c1, c2, c3, c4, tw, wdsD_at hnow]
    · obtain ⟨c1, c2, c3, c4⟩ := chk (e.1 + p.1, e.2 + p.2) (f + 1) (a2 + 1) hE (by omega) q1 q2
      have hfc : ((f + 1 : Nat) : Int) = (f : Int) + 1 := by omega
      rw [hfc] at c3
      refine ⟨(e.1 + p.1, e.2 + p.2), later, now, f + 1, a2 + 1, some (.val (.int c)), some (.val (rD (bx P m c).1)), some (.val (rD (bx P m c).2)), some (.val (.int now)), some (.val (rD here)), some (.val (rD later)), ?_, by omega, by omega, ⟨hE, hnow, by omega, zl', q1, q2⟩⟩
      simp -implicitDefEqProofs [l2_law, tpl, at9_3, f1, g1, tb1, at1_0, pairD, f2, g2, g3, g4, g5, tO, aO, tB, aB, tR, aR, g6, hf3', f3, cr, szle, nt, c1, c2, c3, c4, tw, wdsD_at hnow]
end
end P48
end
section
set_option Elab.async false
set_option linter.all false
set_option maxRecDepth 100000
set_option maxHeartbeats 0
namespace P48
open PySem L2 Py Geo FM
def befD (nm nc : Nat) (O : Nat → Nat → Nat → Option (Int × Int)) (w0 : Int) : Nat → D
  | 0 => .non
  | j + 1 => wdsD nm (wid nm nc O w0 j)
section
variable {k : Nat} {μ : Store} {P : Pl} (hP : PlOk P) {d : Rat} (hd : 0 < d) (hds : Sz 3 d)
include hP hd hds
theorem l1_step (hμ : scalS μ = true) (j : Nat) (hj : j < 4) (x0 x1 x9 x10 x11 x12 x13 x14 x15 : Option SV) (tl : List (Option SV)) (htl : tl = [none, none, none, none, none, none, none, none, none, none, none]) :
    ∃ y9 y13 y14 y15 : Option SV, exs (Py.run fs Γ (k + 9)) Γ l1_law ([x0, x1, some (.val (plD P)), some (.val (rD d)), some (.val (offsO P.modes.length P.cmds.length (off P d))), some (.val (rdsD (ce (P.err / d)))), some (.val (.int (ce (P.err / d) + (ce (P.err / d) + 1)))), some (.val (befD P.modes.length P.cmds.length (off P d) (ce (P.err / d) + (ce (P.err / d) + 1)) j)), some (.val (.int j)), x9, x10, x11, x12, x13, x14, x15, none, none, none, none, none, none, none, none, none, none, none]) μ =
      some (.nx ([x0, x1, some (.val (plD P)), some (.val (rD d)), some (.val (offsO P.modes.length P.cmds.length (off P d))), some (.val (rdsD (ce (P.err / d)))), some (.val (.int (ce (P.err / d) + (ce (P.err / d) + 1)))), some (.val (befD P.modes.length P.cmds.length (off P d) (ce (P.err / d) + (ce (P.err / d) + 1)) (j + 1))), some (.val (.int j)), y9, x10, x11, x12, y13, y14, y15, none, none, none, none, none, none, none, none, none, none, none]) μ) := by
  have h0 : d ≠ 0 := by grind
  have hnm : P.modes.length ≤ 2 := by have := hP.nm; omega
  have hnm0 : 0 < P.modes.length := by have := hP.nm; omega
  have hnc : P.cmds.length ≤ 3 := by have := hP.nc; omega
  have sh : Sz 2 (1 / 2 : Rat) := by
    have : (1 / 2 : Rat) = Rat.divInt 1 2 := by rw [Rat.divInt_eq_div]; rfl
    rw [this]
    exact Sz.divInt (by decide) (by decide) (by decide)
  have hd' : 0 < d * (1 / 2) := by grind
  have hds' : Sz 5 (d * (1 / 2)) := hds.mul sh
  have h0' : d * (1 / 2) ≠ 0 := by grind
  have hO := ook hP hd
  have hO' := ook hP hd'
  have nn : ∀ {d : Rat}, 0 < d → 0 ≤ ce (P.err / d) := fun {d} hd => by
    have h1 := le_ce (P.err / d)
    have h2 : 0 ≤ P.err / d := by rw [Rat.div_def]; exact Rat.mul_nonneg hP.er.2 (by have := Rat.inv_pos.mpr hd; grind)
    have : ((0 : Int) : Rat) ≤ (ce (P.err / d) : Rat) := by simp; grind
    exact Rat.intCast_le_intCast.mp this
  have ea := nn hd
  have ea' := nn hd'
  have hw : ce (P.err / (d * (1 / 2))) + (ce (P.err / (d * (1 / 2))) + 1) ≤ 2 * (ce (P.err / d) + (ce (P.err / d) + 1)) := by
    rw [half_div]
    have := half_ce (P.err / d)
    omega
  have zc : (ce (P.err / d)).natAbs < 2 ^ 6 := ce_sz (hP.er.1.div hds h0)
  have hM : ∀ m, m < P.modes.length → ∀ c, c < P.cmds.length → ∀ now p, off P d m c now = some p → p.2 - p.1 ≤ 4194304 := fun m hm c hc now p hp => by
    obtain ⟨p1, p2⟩ := off_sz hP h0 hds hm hc hp
    have e : (2 : Nat) ^ (18 + 3) = 2097152 := by decide
    omega
  have hwb : ∀ m, wid P.modes.length P.cmds.length (off P d) (ce (P.err / d) + (ce (P.err / d) + 1)) j m ≤ 20000000 := fun m => by
    have := wid_le (nm := P.modes.length) (nc := P.cmds.length) (O := off P d) (w0 := ce (P.err / d) + (ce (P.err / d) + 1)) (M := 4194304) (by omega) (by decide) hM j m
    have e : (2 : Nat) ^ 6 = 64 := by decide
    omega
  obtain ⟨⟨mt, hmt, et⟩, htp⟩ := tp_mem (nm := P.modes.length) (nc := P.cmds.length) (O := off P d) (w0 := ce (P.err / d) + (ce (P.err / d) + 1)) (j := j) hnm0
  obtain ⟨⟨mt', hmt', et'⟩, _⟩ := tp_mem (nm := P.modes.length) (nc := P.cmds.length) (O := off P (d * (1 / 2))) (w0 := ce (P.err / (d * (1 / 2))) + (ce (P.err / (d * (1 / 2))) + 1)) (j := j) hnm0
  have hhalf := wid_half (nm := P.modes.length) (nc := P.cmds.length) (O := off P d) (O' := off P (d * (1 / 2))) (w0 := ce (P.err / d) + (ce (P.err / d) + 1)) (by omega) hw (fun m hm c hc now p' hp' => half_off hP hp') j mt'
  have hnn := wid_nn (nm := P.modes.length) (nc := P.cmds.length) (O := off P d) (w0 := ce (P.err / d) + (ce (P.err / d) + 1)) (by omega) j
  have hnn' := wid_nn (nm := P.modes.length) (nc := P.cmds.length) (O := off P (d * (1 / 2))) (w0 := ce (P.err / (d * (1 / 2))) + (ce (P.err / (d * (1 / 2))) + 1)) (by omega) j
  have g1 := r_failed (k := k + 6) (μ := μ) hO hnm hnc _ ea j (by omega)
  have g2 := r_all_ways (k := k + 8) (μ := μ) hμ hO hnm hnc (ce (P.err / d) + (ce (P.err / d) + 1)) (by omega) j (by omega)
  have g3 := r_lfailed (k := k + 8) (μ := μ) (O := off P d) hμ hnm hnc (ce (P.err / d) + (ce (P.err / d) + 1)) j (by omega)
  have g4 := r_late (k := k + 5) (μ := μ) hO hnm0 hnm hnc _ ea j (by omega)
  have g5 := r_halved (k := k + 5) (μ := μ) d hds (by decide)
  have g6 := r_offsets_of (k := k + 1) (μ := μ) hP (d * (1 / 2)) h0' hds' (by decide)
  have g7 := r_read_pairs (k := k + 3) (μ := μ) hP (d * (1 / 2)) h0' hds' (by decide)
  rw [offsD_eq] at g6
  have g8 := r_late (k := k + 5) (μ := μ) hO' hnm0 hnm hnc _ ea' j (by omega)
  have vb := hwb mt
  rw [← et] at vb
  have vn := hnn mt
  rw [← et] at vn
  have vn' := hnn' mt'
  rw [← et'] at vn' hhalf
  have vle := htp mt'
  generalize hv : tpW P.modes.length P.cmds.length (off P d) (ce (P.err / d) + (ce (P.err / d) + 1)) j = v at *
  generalize hv' : tpW P.modes.length P.cmds.length (off P (d * (1 / 2))) (ce (P.err / (d * (1 / 2))) + (ce (P.err / (d * (1 / 2))) + 1)) j = v' at *
  have hvv : v' ≤ 2 * v := by omega
  have e26 : (2 : Nat) ^ 26 = 67108864 := by decide
  have sv : Sz 26 (v : Rat) := int_sz (by omega) (by decide)
  have sv' : Sz 26 (v' : Rat) := int_sz (by omega) (by decide)
  have g9 := r_late_worths (k := k + 5) (μ := μ) d v hds sv (by decide)
  have g10 := r_late_worths (k := k + 5) (μ := μ) (d * (1 / 2)) v' hds' sv' (by decide)
  have g11 := r_lmult (k := k + 7) (n := 29) (μ := μ) d (v : Rat) hds sv (by decide) (by decide)
  rw [rD_int] at g11
  have g12 := r_not_above (k := k + 8) (μ := μ) (d * (1 / 2) * (v' : Rat)) (d * (v : Rat)) (hds'.mul sv') (hds.mul sv) (by decide)
  have hle : d * (1 / 2) * (v' : Rat) ≤ d * (v : Rat) := by
    have h1 : (v' : Rat) ≤ ((2 * v : Int) : Rat) := Rat.intCast_le_intCast.mpr hvv
    have e : ((2 * v : Int) : Rat) = 2 * (v : Rat) := by simp
    rw [e] at h1
    have := Rat.mul_le_mul_of_nonneg_left h1 (show 0 ≤ d * (1 / 2) by grind)
    grind
  rw [decide_eq_true hle] at g12
  generalize hW : wid P.modes.length P.cmds.length (off P d) (ce (P.err / d) + (ce (P.err / d) + 1)) j = W at *
  have sm1 : Py.run fs Γ (k + 9) f__law_same [wdsD P.modes.length W, wdsD P.modes.length W] μ = some (.bl true, μ) := r_same 2 (k + 6) _ (plain_lst (by simp; omega) fun m _ => by simp [pln])
  have sm2 : Py.run fs Γ (k + 9) f__law_same [wlD P.modes.length W, wlD P.modes.length W] μ = some (.bl true, μ) := r_same 1 (k + 7) _ (plain_lst (by simp; omega) fun m _ => by simp [pln])
  have sm3 : Py.run fs Γ (k + 9) f__law_same [.tup [rD (d * (v : Rat))], .tup [rD (d * (v : Rat))]] μ = some (.bl true, μ) := r_same 3 (k + 5) _ (by simp [pln, rD])
  have q1 : eqS (.lst [.int v]) (.lst [.int v]) = some true := eqS_refl (n := 2) (by simp [pln])
  have tw : ∀ μ : Store, itsS μ (wdsD P.modes.length W) = some ((List.range P.modes.length).map fun m => .lst [.int (W m)]) := fun _ => rfl
  have sw : seqOf (wdsD P.modes.length W) = some ((List.range P.modes.length).map fun m => .lst [.int (W m)]) := rfl
  have sl : seqOf (wlD P.modes.length W) = some ((List.range P.modes.length).map fun m => .int (W m)) := rfl
  have hvm : maxI ((List.range P.modes.length).map W) = v := by rw [← hW]; exact hv
  have hne : (List.range P.modes.length).map W ≠ [] := fun z => by
    have e := congrArg List.length z
    rw [List.length_map, List.length_range, List.length_nil] at e
    omega
  have mm := max_ints (μ := μ) _ hne
  rw [hvm] at mm
  have hmW : wlD P.modes.length W = .lst (((List.range P.modes.length).map W).map D.int) := by unfold wlD; rw [List.map_map]; rfl
  have r1 := rngS_map (n := P.modes.length) (by omega)
  have b1 : ∀ (x3 x7 x9 x10 x11 x12 x13 x14 x15 x16 x17 x18 x19 x20 x21 x22 x23 x24 x25 x26 : Option SV), ev (Py.run fs Γ (k + 9)) Γ c1_law [x0, x1, some (.val (plD P)), x3, some (.val (offsO P.modes.length P.cmds.length (off P d))), some (.val (rdsD (ce (P.err / d)))), some (.val (.int (ce (P.err / d) + (ce (P.err / d) + 1)))), x7, some (.val (.int j)), x9, x10, x11, x12, x13, x14, x15, x16, x17, x18, x19, x20, x21, x22, x23, x24, x25, x26] μ = some (wdsD P.modes.length W, μ) := by
    intro x3 x7 x9 x10 x11 x12 x13 x14 x15 x16 x17 x18 x19 x20 x21 x22 x23 x24 x25 x26
    rw [c1_law]
    exact ev_lc_map (g := fun m => D.int (W m)) (h := fun m => .lst [.int (W m)]) (List.range P.modes.length) (by simp -implicitDefEqProofs [g2, sl]) (by simp; omega) fun m _ => ⟨_, by simp; rfl, by simp, by simp -implicitDefEqProofs [szle]⟩
  have rows : ∀ (cE : E) (hc : cE = E.lc (E.ix (E.slot 11) (E.int 0)) (T.nm 11) (I.seq (E.slot 9)) Eo.none [11]) (y0 y1 y2 y3 y4 y5 y6 y7 y8 y10 y11 y12 y13 y14 y15 y16 y17 y18 y19 y20 y21 y22 y23 y24 y25 y26 : Option SV), ev (Py.run fs Γ (k + 9)) Γ cE [y0, y1, y2, y3, y4, y5, y6, y7, y8, some (.val (wdsD P.modes.length W)), y10, y11, y12, y13, y14, y15, y16, y17, y18, y19, y20, y21, y22, y23, y24, y25, y26] μ = some (wlD P.modes.length W, μ) := by
    intro cE hc y0 y1 y2 y3 y4 y5 y6 y7 y8 y10 y11 y12 y13 y14 y15 y16 y17 y18 y19 y20 y21 y22 y23 y24 y25 y26
    rw [hc]
    exact ev_lc_map (g := fun m => D.lst [.int (W m)]) (h := fun m => .int (W m)) (List.range P.modes.length) (by simp -implicitDefEqProofs [sw]) (by simp; omega) fun m _ => ⟨_, by simp; rfl, by simp, by simp -implicitDefEqProofs [at1_0]⟩
  have b2 := rows c2_law rfl
  have b3 := rows c3_law rfl
  have b5 := rows c5_law rfl
  have mxW : biS μ .max [wlD P.modes.length W] = some (.int v) := by rw [hmW]; exact mm
  have nL : ∀ w, Py.isNon (wdsD P.modes.length w) = false := fun _ => rfl
  have nN : Py.isNon .non = true := rfl
  have ulD : D.tup [rD d] = unD d := rfl
  have hB : befD P.modes.length P.cmds.length (off P d) (ce (P.err / d) + (ce (P.err / d) + 1)) j = .non ∨ ∃ W0 : Nat → Int, befD P.modes.length P.cmds.length (off P d) (ce (P.err / d) + (ce (P.err / d) + 1)) j = wdsD P.modes.length W0 ∧ ∀ m, m < P.modes.length → W0 m ≤ W m := by
    cases j with
    | zero => exact .inl rfl
    | succ i => exact .inr ⟨_, rfl, fun m hm => by rw [← hW]; exact wid_mono hO hm⟩
  have hB1 : befD P.modes.length P.cmds.length (off P d) (ce (P.err / d) + (ce (P.err / d) + 1)) (j + 1) = wdsD P.modes.length W := by rw [befD, hW]
  rw [hB1]
  generalize befD P.modes.length P.cmds.length (off P d) (ce (P.err / d) + (ce (P.err / d) + 1)) j = B at *
  refine ⟨some (.val (wdsD P.modes.length W)), some (.val (unD (d * (1 / 2)))), some (.val (.lst [.int v'])), some (.val (.tup [rD (d * (v : Rat))])), ?_⟩
  rcases hB with e | ⟨W0, e, hmono⟩
  · subst e
    simp -implicitDefEqProofs [l1_law, g1, b1, sm1, b2, g3, sm2, g4, b3, mxW, szle, q1, nN, ulD, g5, g6, g7, g8, g9, b5, g11, sm3, g10, g12, at1_0]
  · subst e
    have tw0 : ∀ μ : Store, itsS μ (wdsD P.modes.length W0) = some ((List.range P.modes.length).map fun m => .lst [.int (W0 m)]) := fun _ => rfl
    have b4 : ∀ (y0 y1 y2 y3 y4 y5 y6 y8 y10 y11 y12 y13 y14 y15 y16 y17 y18 y19 y20 y21 y22 y23 y24 y25 y26 : Option SV), ev (Py.run fs Γ (k + 9)) Γ c4_law [y0, y1, y2, y3, y4, y5, y6, some (.val (wdsD P.modes.length W0)), y8, some (.val (wdsD P.modes.length W)), y10, y11, y12, y13, y14, y15, y16, y17, y18, y19, y20, y21, y22, y23, y24, y25, y26] μ = some (.lst [], μ) := by
      intro y0 y1 y2 y3 y4 y5 y6 y8 y10 y11 y12 y13 y14 y15 y16 y17 y18 y19 y20 y21 y22 y23 y24 y25 y26
      have := ev_lc_filter (Φ := Py.run fs Γ (k + 9)) (Γ := Γ) (μ := μ) (x := E.int 1) (t := T.nm 12) (it := I.rng1 (E.bi .len (E.slot 9) Es.nil)) (c := Eo.some (E.cmp .Lt (E.ix (E.ix (E.slot 9) (E.slot 12)) (E.int 0)) (E.ix (E.ix (E.slot 7) (E.slot 12)) (E.int 0)))) (vs := [12]) (env := [y0, y1, y2, y3, y4, y5, y6, some (.val (wdsD P.modes.length W0)), y8, some (.val (wdsD P.modes.length W)), y10, y11, y12, y13, y14, y15, y16, y17, y18, y19, y20, y21, y22, y23, y24, y25, y26]) (g := fun m : Nat => .int (m : Int)) (h := fun _ => .int 1) (p := fun _ => false) (List.range P.modes.length) (by simp -implicitDefEqProofs [tw, r1]) (by simp; omega) (fun m hm => by
        have hmm := List.mem_range.mp hm
        have hno : ¬ W m < W0 m := by have := hmono m hmm; omega
        refine ⟨[y0, y1, y2, y3, y4, y5, y6, some (.val (wdsD P.modes.length W0)), y8, some (.val (wdsD P.modes.length W)), y10, y11, some (.val (.int m)), y13, y14, y15, y16, y17, y18, y19, y20, y21, y22, y23, y24, y25, y26], by simp, ?_, fun z => by cases z⟩
        simp -implicitDefEqProofs [tw, tw0, wdsD_at hmm, at1_0, hno])
      rw [c4_law, this]
      simp
    simp -implicitDefEqProofs [l1_law, g1, b1, sm1, b2, g3, sm2, g4, b3, mxW, szle, q1, nL, b4, ulD, g5, g6, g7, g8, g9, b5, g11, sm3, g10, g12, at1_0]
end
theorem loop1 {k : Nat} {μ : Store} {P : Pl} (hP : PlOk P) {d : Rat} (hd : 0 < d) (hds : Sz 3 d) (hμ : scalS μ = true) (x0 x1 : Option SV) : ∀ (n i : Nat), i + n = 4 → ∀ (y8 y9 y13 y14 y15 : Option SV), ∃ (z8 z9 z13 z14 z15 B : Option SV),
    forS (T.nm 8) (fun env' μ' => exs (Py.run fs Γ (k + 9)) Γ l1_law env' μ') ((List.range' i n).map fun i : Nat => .int (i : Int)) [x0, x1, some (.val (plD P)), some (.val (rD d)), some (.val (offsO P.modes.length P.cmds.length (off P d))), some (.val (rdsD (ce (P.err / d)))), some (.val (.int (ce (P.err / d) + (ce (P.err / d) + 1)))), some (.val (befD P.modes.length P.cmds.length (off P d) (ce (P.err / d) + (ce (P.err / d) + 1)) i)), y8, y9, none, none, none, y13, y14, y15, none, none, none, none, none, none, none, none, none, none, none] μ =
      some (.nx [x0, x1, some (.val (plD P)), some (.val (rD d)), some (.val (offsO P.modes.length P.cmds.length (off P d))), some (.val (rdsD (ce (P.err / d)))), some (.val (.int (ce (P.err / d) + (ce (P.err / d) + 1)))), B, z8, z9, none, none, none, z13, z14, z15, none, none, none, none, none, none, none, none, none, none, none] μ)
  | 0, i, _, y8, y9, y13, y14, y15 => ⟨y8, y9, y13, y14, y15, _, rfl⟩
  | n + 1, i, hi, y8, y9, y13, y14, y15 => by
    obtain ⟨w9, w13, w14, w15, g⟩ := l1_step (k := k) (μ := μ) hP hd hds hμ i (by omega) x0 x1 y9 none none none y13 y14 y15 _ rfl
    obtain ⟨z8, z9, z13, z14, z15, B, g2⟩ := loop1 hP hd hds hμ x0 x1 n (i + 1) (by omega) (some (.val (.int i))) w9 w13 w14 w15
    refine ⟨z8, z9, z13, z14, z15, B, ?_⟩
    rw [← g2, List.range'_succ, List.map_cons]
    exact forS_go (env1 := [x0, x1, some (.val (plD P)), some (.val (rD d)), some (.val (offsO P.modes.length P.cmds.length (off P d))), some (.val (rdsD (ce (P.err / d)))), some (.val (.int (ce (P.err / d) + (ce (P.err / d) + 1)))), some (.val (befD P.modes.length P.cmds.length (off P d) (ce (P.err / d) + (ce (P.err / d) + 1)) i)), some (.val (.int i)), y9, none, none, none, y13, y14, y15, none, none, none, none, none, none, none, none, none, none, none]) (by simp) g
theorem loop2 {k : Nat} (ns : List Int) (t : Int) (h : DealOk ns t) {P : Pl} (hP : PlOk P) {d : Rat} (hd : 0 < d) (hds : Sz 3 d) (x0 x6 x7 x8 x9 x10 x11 x12 x13 x14 x15 : Option SV) : ∀ (l : List D) (i : Nat), i + l.length ≤ 7 → ∀ (e : Int × Int) (x : Rat) (m f : Nat), Stt P d i e x m f → ∀ (x20 x21 x22 x23 x24 x25 x26 : Option SV) (a : Nat), a + 8 * l.length < 50000 →
    ∃ env' a', forS (T.nm 20) (fun env' μ' => exs (Py.run fs Γ (k + 9)) Γ l2_law env' μ') l [x0, some (.val (dealD ns t)), some (.val (plD P)), some (.val (rD d)), some (.val (offsO P.modes.length P.cmds.length (off P d))), some (.val (rdsD (ce (P.err / d)))), x6, x7, x8, x9, x10, x11, x12, x13, x14, x15, some (.val (rD x)), some (.val (.int m)), some (.val (.tup [prI e])), some (.val (.int f)), x20, x21, x22, x23, x24, x25, x26] (Sa a) = some (.nx env' (Sa a'))
  | [], _, _, e, x, m, f, S, x20, x21, x22, x23, x24, x25, x26, a, _ => ⟨_, a, rfl⟩
  | D1 :: l, i, hi, e, x, m, f, S, x20, x21, x22, x23, x24, x25, x26, a, ha => by
    simp only [List.length_cons] at hi ha
    obtain ⟨e', x', m', f', a', y21, y22, y23, y24, y25, y26, g, l1, l2, S'⟩ := l2_step (k := k) ns t h hP hd hds i (by omega) e x m f S x0 x6 x7 x8 x9 x10 x11 x12 x13 x14 x15 (some (.val D1)) x21 x22 x23 x24 x25 x26 a (by omega)
    obtain ⟨env', a2, g2⟩ := loop2 ns t h hP hd hds x0 x6 x7 x8 x9 x10 x11 x12 x13 x14 x15 l (i + 1) (by omega) e' x' m' f' S' (some (.val D1)) y21 y22 y23 y24 y25 y26 a' (by omega)
    refine ⟨env', a2, ?_⟩
    rw [← g2]
    exact forS_go (env1 := [x0, some (.val (dealD ns t)), some (.val (plD P)), some (.val (rD d)), some (.val (offsO P.modes.length P.cmds.length (off P d))), some (.val (rdsD (ce (P.err / d)))), x6, x7, x8, x9, x10, x11, x12, x13, x14, x15, some (.val (rD x)), some (.val (.int m)), some (.val (.tup [prI e])), some (.val (.int f)), some (.val D1), x21, x22, x23, x24, x25, x26]) (by simp) g
section
variable {k : Nat}
theorem law_core (ms0 : List Int) (hm0 : ms0.length ≤ 63) : ∃ μ', Py.run fs Γ (k + 10) f_law [.scr (ms0.map D.int)] [] = some (.bl true, μ') := by
  obtain ⟨ns, t, h, eD⟩ := r_deal (k := k + 8) ms0 hm0
  have eD' : Py.run fs Γ (k + 9) f__law_deal [.scr (ms0.map D.int)] [] = some (dealD ns t, Sa 0) := eD
  obtain ⟨P, a1, e1, l1, l2, hP⟩ := r_plant (k := k + 6) ns t h 0 (by decide)
  obtain ⟨d, e2, hds, hd⟩ := r_unit (k := k + 7) ns t h a1 (by omega)
  have h0 : d ≠ 0 := by grind
  have hnm : P.modes.length ≤ 2 := by have := hP.nm; omega
  have hnm0 : 0 < P.modes.length := by have := hP.nm; omega
  have hnc : P.cmds.length ≤ 3 := by have := hP.nc; omega
  have e3 := r_offsets_of (k := k + 1) (μ := Sa (a1 + 1)) hP d h0 hds (by decide)
  have e4 := r_read_pairs (k := k + 3) (μ := Sa (a1 + 1)) hP d h0 hds (by decide)
  have e5 := r_loffsets (k := k + 4) (μ := Sa (a1 + 1)) hP d h0 hds (by decide)
  have e6 := r_lreads (k := k + 5) (μ := Sa (a1 + 1)) hP d h0 hds (by decide)
  rw [offsD_eq] at e3 e5
  have plO : pln 5 (offsO P.modes.length P.cmds.length (off P d)) = true := plain_tup (by simp; omega) fun m _ => plain_tup (by simp; omega) fun c _ => plain_tup (by simp; omega) fun now _ => by
    cases off P d m c now <;> simp [offD, prI, pln]
  have e7 : Py.run fs Γ (k + 9) f__law_same [offsO P.modes.length P.cmds.length (off P d), offsO P.modes.length P.cmds.length (off P d)] (Sa (a1 + 1)) = some (.bl true, Sa (a1 + 1)) := r_same 5 (k + 3) _ plO
  have e8 : Py.run fs Γ (k + 9) f__law_same [rdsD (ce (P.err / d)), rdsD (ce (P.err / d))] (Sa (a1 + 1)) = some (.bl true, Sa (a1 + 1)) := r_same 2 (k + 6) _ (by simp [rdsD, prI, pln])
  have trd : ∀ a : Int, ∀ μ : Store, itsS μ (rdsD a) = some [prI (a, a + 1)] := fun _ _ => rfl
  have ulD : D.tup [rD d] = unD d := rfl
  generalize ha2 : a1 + 1 = a2 at *
  have hμ : scalS (Sa a2) = true := scalS_Sa
  obtain ⟨z8, z9, z13, z14, z15, B, f1⟩ := loop1 (k := k) (μ := Sa a2) hP hd hds hμ (some (.val (.scr (ms0.map D.int)))) (some (.val (dealD ns t))) 4 0 rfl none none none none none
  obtain ⟨r1, b1, b2, f2⟩ := r_take (k := k + 8) (a := a2) ns t 41 h (by decide) (by omega)
  obtain ⟨r2, b3, b4, f3⟩ := r_take (k := k + 8) (a := a2 + 1) ns t 5 h (by decide) (by omega)
  have f4 := r_lratio (k := k + 8) (n := 6) (μ := Sa (a2 + 2)) (r1 - 20) (1 + r2) (by omega) (by omega) (by omega) (by decide)
  have sx : Sz 6 (Rat.divInt (r1 - 20) (1 + r2)) := Sz.divInt (by omega) (by omega) (by omega)
  generalize Rat.divInt (r1 - 20) (1 + r2) = x at *
  obtain ⟨m, hm, f5⟩ := r_takeN (k := k + 8) ns t h P.modes.length hnm0 (a2 + 2) (by omega)
  obtain ⟨r, f6, kb, v, v1, v2, hr⟩ := r_reading (k := k + 4) ns t h hP d x h0 hds sx (by decide) (by decide) (a2 + 3) (by omega)
  have f7 := r_read_box (k := k + 8) (μ := Sa (a2 + 4)) (ce (P.err / d)) r
  have hin := read_in (P := P) hd (x := x) (v := v) (a := ce (P.err / d)) (dce hd P.err) v1 v2
  rw [← hr] at hin
  have za : (ce (P.err / d)).natAbs < 2 ^ 6 := ce_sz (hP.er.1.div hds h0)
  have S0 : Stt P d 0 (r - ce (P.err / d), r + (ce (P.err / d) + 1)) x m 0 := by
    have kb2 : r.natAbs < 2 ^ 24 := kb
    have e500 : 2 ^ 30 ≤ 2 ^ (500 + 0) := Nat.pow_le_pow_right (by decide) (by decide)
    refine ⟨⟨hin.1, hin.2, ?_⟩, hm, by decide, sx, ?_, ?_⟩
    · show _ ≤ ce (P.err / d) + (ce (P.err / d) + 1)
      dsimp only; omega
    · dsimp only
      generalize (2 : Nat) ^ (500 + 0) = Z at *
      omega
    · dsimp only
      generalize (2 : Nat) ^ (500 + 0) = Z at *
      omega
  obtain ⟨env', a3, f8⟩ := loop2 (k := k) ns t h hP hd hds (some (.val (.scr (ms0.map D.int)))) (some (.val (.int (ce (P.err / d) + (ce (P.err / d) + 1))))) B z8 z9 none none none z13 z14 z15 ((List.range 7).map fun i : Nat => .int (i : Int)) 0 (by simp) _ x m 0 S0 none none none none none none none (a2 + 4) (by simp; omega)
  refine ⟨Sa a3, ?_⟩
  have rr4 : rngS 0 (4 : Int) = some ((List.range' 0 4).map fun i : Nat => .int (i : Int)) := rngS_map (n := 4) (by decide)
  have rr7 : rngS 0 (7 : Int) = some ((List.range 7).map fun i : Nat => .int (i : Int)) := rngS_map (n := 7) (by decide)
  generalize (List.range' 0 4).map (fun i : Nat => D.int (i : Int)) = R4 at *
  generalize (List.range 7).map (fun i : Nat => D.int (i : Int)) = R7 at *
  rw [u_law, b_law]
  have w0 : befD P.modes.length P.cmds.length (off P d) (ce (P.err / d) + (ce (P.err / d) + 1)) 0 = .non := rfl
  rw [w0] at f1
  have hz0 : ((0 : Nat) : Int) = 0 := rfl
  rw [hz0] at f8
  simp -implicitDefEqProofs [eD', e1, e2, szle, ulD, e3, e4, trd, at1_0, tpI, a20, a21, e5, e6, e7, e8, ex_for, rr4, f1, f2, f3, f4, tpl, at9_2, f5, f6, f7, rr7, f8]
end
abbrev kk : Nat := 20
theorem law_true (ns : List Int) (h : ns.length ≤ 63) : ∃ μ', Py.run (pfs.map (·.fn)) Γ kk f_law [.scr (ns.map D.int)] [] = some (.bl true, μ') := law_core (k := 10) ns h
end P48
end
section
set_option Elab.async false
set_option linter.all false
set_option maxRecDepth 100000
set_option maxHeartbeats 0
namespace P48
open PySem L2 Py
theorem chk : pfs.all (fun p => p.ok (pfs.map (·.name)) gls) = true := by decide +kernel
theorem bnd_greatest_divisor : BindOk p_greatest_divisor := fun _ _ _ _ _ _ us hl => match us, hl with | [_, _], _ => rfl
theorem bnd_ratio : BindOk p_ratio := fun _ _ _ _ _ _ us hl => match us, hl with | [_, _], _ => rfl
theorem bnd_added : BindOk p_added := fun _ _ _ _ _ _ us hl => match us, hl with | [_, _], _ => rfl
theorem bnd_times : BindOk p_times := fun _ _ _ _ _ _ us hl => match us, hl with | [_, _], _ => rfl
theorem bnd_over : BindOk p_over := fun _ _ _ _ _ _ us hl => match us, hl with | [_, _], _ => rfl
theorem bnd_compare : BindOk p_compare := fun _ _ _ _ _ _ us hl => match us, hl with | [_, _], _ => rfl
theorem bnd_box_times : BindOk p_box_times := fun _ _ _ _ _ _ us hl => match us, hl with | [_, _], _ => rfl
theorem bnd_rates_of : BindOk p_rates_of := fun _ _ _ _ _ _ us hl => match us, hl with | [_, _, _], _ => rfl
theorem bnd_beat_box : BindOk p_beat_box := fun _ _ _ _ _ _ us hl => match us, hl with | [_, _, _], _ => rfl
theorem bnd_sum_of_boxes : BindOk p_sum_of_boxes := fun _ _ _ _ _ _ us hl => match us, hl with | [_, _], _ => rfl
theorem bnd_down : BindOk p_down := fun _ _ _ _ _ _ us hl => match us, hl with | [_, _], _ => rfl
theorem bnd_up : BindOk p_up := fun _ _ _ _ _ _ us hl => match us, hl with | [_, _], _ => rfl
theorem bnd_made_whole : BindOk p_made_whole := fun _ _ _ _ _ _ us hl => match us, hl with | [_, _], _ => rfl
theorem bnd_halved_units : BindOk p_halved_units := fun _ _ _ _ _ _ us hl => match us, hl with | [_, _], _ => rfl
theorem bnd_widths_of : BindOk p_widths_of := fun _ _ _ _ _ _ us hl => match us, hl with | [_], _ => rfl
theorem bnd_read_pair : BindOk p_read_pair := fun _ _ _ _ _ _ us hl => match us, hl with | [_, _], _ => rfl
theorem bnd_read_pairs : BindOk p_read_pairs := fun _ _ _ _ _ _ us hl => match us, hl with | [_, _], _ => rfl
theorem bnd_read_box : BindOk p_read_box := fun _ _ _ _ _ _ us hl => match us, hl with | [_, _], _ => rfl
theorem bnd_box_hull : BindOk p_box_hull := fun _ _ _ _ _ _ us hl => match us, hl with | [_, _], _ => rfl
theorem bnd_change_boxes : BindOk p_change_boxes := fun _ _ _ _ _ _ us hl => match us, hl with | [_, _, _, _], _ => rfl
theorem bnd_offset_of : BindOk p_offset_of := fun _ _ _ _ _ _ us hl => match us, hl with | [_, _, _, _, _], _ => rfl
theorem bnd_offsets_of : BindOk p_offsets_of := fun _ _ _ _ _ _ us hl => match us, hl with | [_, _], _ => rfl
theorem bnd_gone_on : BindOk p_gone_on := fun _ _ _ _ _ _ us hl => match us, hl with | [_, _], _ => rfl
theorem bnd_met_boxes : BindOk p_met_boxes := fun _ _ _ _ _ _ us hl => match us, hl with | [_, _], _ => rfl
theorem bnd_offsets_to : BindOk p_offsets_to := fun _ _ _ _ _ _ us hl => match us, hl with | [_, _], _ => rfl
theorem bnd_wider_widths : BindOk p_wider_widths := fun _ _ _ _ _ _ us hl => match us, hl with | [_, _], _ => rfl
theorem bnd_failed_widths : BindOk p_failed_widths := fun _ _ _ _ _ _ us hl => match us, hl with | [_, _, _], _ => rfl
theorem bnd_late_widths : BindOk p_late_widths := fun _ _ _ _ _ _ us hl => match us, hl with | [_, _, _], _ => rfl
theorem bnd_late_worths : BindOk p_late_worths := fun _ _ _ _ _ _ us hl => match us, hl with | [_, _], _ => rfl
theorem bnd__law_deal : BindOk p__law_deal := fun _ _ _ _ _ _ us hl => match us, hl with | [_], _ => rfl
theorem bnd__law_take : BindOk p__law_take := fun _ _ _ _ _ _ us hl => match us, hl with | [_, _], _ => rfl
theorem bnd__law_same : BindOk p__law_same := fun _ _ _ _ _ _ us hl => match us, hl with | [_, _], _ => rfl
theorem bnd__law_ratio : BindOk p__law_ratio := fun _ _ _ _ _ _ us hl => match us, hl with | [_, _], _ => rfl
theorem bnd__law_plus : BindOk p__law_plus := fun _ _ _ _ _ _ us hl => match us, hl with | [_, _], _ => rfl
theorem bnd__law_mult : BindOk p__law_mult := fun _ _ _ _ _ _ us hl => match us, hl with | [_, _], _ => rfl
theorem bnd__law_minus : BindOk p__law_minus := fun _ _ _ _ _ _ us hl => match us, hl with | [_, _], _ => rfl
theorem bnd__law_height : BindOk p__law_height := fun _ _ _ _ _ _ us hl => match us, hl with | [_, _], _ => rfl
theorem bnd__law_keeps : BindOk p__law_keeps := fun _ _ _ _ _ _ us hl => match us, hl with | [_, _], _ => rfl
theorem bnd__law_pick : BindOk p__law_pick := fun _ _ _ _ _ _ us hl => match us, hl with | [_, _], _ => rfl
theorem bnd__law_line : BindOk p__law_line := fun _ _ _ _ _ _ us hl => match us, hl with | [_, _, _, _], _ => rfl
theorem bnd__law_row_has : BindOk p__law_row_has := fun _ _ _ _ _ _ us hl => match us, hl with | [_, _], _ => rfl
theorem bnd__law_floor : BindOk p__law_floor := fun _ _ _ _ _ _ us hl => match us, hl with | [_, _], _ => rfl
theorem bnd__law_ceil : BindOk p__law_ceil := fun _ _ _ _ _ _ us hl => match us, hl with | [_, _], _ => rfl
theorem bnd__law_not_above : BindOk p__law_not_above := fun _ _ _ _ _ _ us hl => match us, hl with | [_, _], _ => rfl
theorem bnd__law_plant_of : BindOk p__law_plant_of := fun _ _ _ _ _ _ us hl => match us, hl with | [_], _ => rfl
theorem bnd__law_edge : BindOk p__law_edge := fun _ _ _ _ _ _ us hl => match us, hl with | [_], _ => rfl
theorem bnd__law_ways : BindOk p__law_ways := fun _ _ _ _ _ _ us hl => match us, hl with | [_, _, _, _], _ => rfl
theorem bnd__law_offset : BindOk p__law_offset := fun _ _ _ _ _ _ us hl => match us, hl with | [_, _, _, _, _], _ => rfl
theorem bnd__law_offsets : BindOk p__law_offsets := fun _ _ _ _ _ _ us hl => match us, hl with | [_, _], _ => rfl
theorem bnd__law_reads : BindOk p__law_reads := fun _ _ _ _ _ _ us hl => match us, hl with | [_, _], _ => rfl
theorem bnd__law_failed : BindOk p__law_failed := fun _ _ _ _ _ _ us hl => match us, hl with | [_, _, _], _ => rfl
theorem bnd__law_between : BindOk p__law_between := fun _ _ _ _ _ _ us hl => match us, hl with | [_, _, _], _ => rfl
theorem bnd__law_inside : BindOk p__law_inside := fun _ _ _ _ _ _ us hl => match us, hl with | [_, _, _], _ => rfl
theorem bnd__law_ahead : BindOk p__law_ahead := fun _ _ _ _ _ _ us hl => match us, hl with | [_, _, _, _, _], _ => rfl
theorem bnd__law_reading : BindOk p__law_reading := fun _ _ _ _ _ _ us hl => match us, hl with | [_, _, _, _], _ => rfl
theorem bnd__law_unit : BindOk p__law_unit := fun _ _ _ _ _ _ us hl => match us, hl with | [_], _ => rfl
theorem bnd__law_all_ways : BindOk p__law_all_ways := fun _ _ _ _ _ _ us hl => match us, hl with | [_, _, _], _ => rfl
theorem bnd_law : BindOk p_law := fun _ _ _ _ _ _ us hl => match us, hl with | [_], _ => rfl
theorem bnd : ∀ p ∈ pfs, BindOk p := by
  intro p hp
  simp only [pfs, List.mem_cons, List.not_mem_nil, or_false] at hp
  rcases hp with rfl | rfl | rfl | rfl | rfl | rfl | rfl | rfl | rfl | rfl | rfl | rfl | rfl | rfl | rfl | rfl | rfl | rfl | rfl | rfl | rfl | rfl | rfl | rfl | rfl | rfl | rfl | rfl | rfl | rfl | rfl | rfl | rfl | rfl | rfl | rfl | rfl | rfl | rfl | rfl | rfl | rfl | rfl | rfl | rfl | rfl | rfl | rfl | rfl | rfl | rfl | rfl | rfl | rfl | rfl | rfl | rfl | rfl
  · exact bnd_greatest_divisor
  · exact bnd_ratio
  · exact bnd_added
  · exact bnd_times
  · exact bnd_over
  · exact bnd_compare
  · exact bnd_box_times
  · exact bnd_rates_of
  · exact bnd_beat_box
  · exact bnd_sum_of_boxes
  · exact bnd_down
  · exact bnd_up
  · exact bnd_made_whole
  · exact bnd_halved_units
  · exact bnd_widths_of
  · exact bnd_read_pair
  · exact bnd_read_pairs
  · exact bnd_read_box
  · exact bnd_box_hull
  · exact bnd_change_boxes
  · exact bnd_offset_of
  · exact bnd_offsets_of
  · exact bnd_gone_on
  · exact bnd_met_boxes
  · exact bnd_offsets_to
  · exact bnd_wider_widths
  · exact bnd_failed_widths
  · exact bnd_late_widths
  · exact bnd_late_worths
  · exact bnd__law_deal
  · exact bnd__law_take
  · exact bnd__law_same
  · exact bnd__law_ratio
  · exact bnd__law_plus
  · exact bnd__law_mult
  · exact bnd__law_minus
  · exact bnd__law_height
  · exact bnd__law_keeps
  · exact bnd__law_pick
  · exact bnd__law_line
  · exact bnd__law_row_has
  · exact bnd__law_floor
  · exact bnd__law_ceil
  · exact bnd__law_not_above
  · exact bnd__law_plant_of
  · exact bnd__law_edge
  · exact bnd__law_ways
  · exact bnd__law_offset
  · exact bnd__law_offsets
  · exact bnd__law_reads
  · exact bnd__law_failed
  · exact bnd__law_between
  · exact bnd__law_inside
  · exact bnd__law_ahead
  · exact bnd__law_reading
  · exact bnd__law_unit
  · exact bnd__law_all_ways
  · exact bnd_law
abbrev R : PySem.W.OpenRow := PySem.W.OpenLaw.row PySem.Challenge.rw_surepilot_k48_whole_late_widths_bound_es
abbrev hk : PySem.W.Hook := hookC 2 (faOf pfs) (pfs.map dOf) (conB cons)
def ob (s : PySem.W.SharedT) : AlC := obsC 2 (faOf pfs) (pfs.map dOf) (conB cons) (HandSHeadRun.getT s)
theorem ob_eq (s : PySem.W.SharedT) : ob s = hk.obs s.abs := obsC_eq (HandSHeadRun.getT_eq s)
def loose0 : List Str := ["greatest_divisor", "ratio", "added", "times", "over", "compare", "box_times", "rates_of", "beat_box", "sum_of_boxes", "down", "up", "made_whole", "halved_units", "widths_of", "read_pair", "read_pairs", "read_box", "box_hull", "change_boxes", "offset_of", "offsets_of", "gone_on", "met_boxes", "offsets_to", "wider_widths", "failed_widths", "late_widths", "late_worths", "_law_deal"]
def loose1 : List Str := ["_law_take", "_law_same", "_law_ratio", "_law_plus", "_law_mult", "_law_minus", "_law_height", "_law_keeps", "_law_pick", "_law_line", "_law_row_has", "_law_floor", "_law_ceil", "_law_not_above", "_law_plant_of", "_law_edge", "_law_ways", "_law_offset", "_law_offsets", "_law_reads", "_law_failed", "_law_between", "_law_inside", "_law_ahead", "_law_reading", "_law_unit", "_law_all_ways", "HALF"]
def loose : List Str := loose0 ++ loose1
theorem run0 (w : World) : HandSHeadRun.RunEq R (PySem.W.view R.prog [64]) hk ob 6000 loose w := by
  intro os
  kernel_rfl
end P48
end
section
set_option Elab.async false
set_option linter.all false
set_option maxRecDepth 100000
set_option maxHeartbeats 0
open PySem PySem.W PySem.Calls PyProof.Rows
theorem PySem.Challenge.cw_surepilot_k48_whole_late_widths_bound_es_holds : PySem.Challenge.rw_surepilot_k48_whole_late_widths_bound_es.Holds := by
  w_on; o_law
  refine HandSHeadRun.head_any (r := OpenLaw.row PySem.Challenge.rw_surepilot_k48_whole_late_widths_bound_es) (q := view (OpenLaw.row PySem.Challenge.rw_surepilot_k48_whole_late_widths_bound_es).prog [64]) (H := P48.hk) (ob := P48.ob) (M := 6000) (loose := P48.loose) (d := HandSHeadRun.topDef (OpenLaw.row PySem.Challenge.rw_surepilot_k48_whole_late_widths_bound_es).prog 64) (kwd := []) P48.ob_eq
    (by kernel_rfl) (fun s => by kernel_rfl) P48.run0 (by kernel_rfl) (by kernel_rfl) (by kernel_rfl) (by rfl) (by first | assumption | decide +kernel) (by decide +kernel) ⟨rfl, rfl, rfl, rfl, rfl, by decide +kernel⟩ ?hw ?hc
  case hw => w_witness2
  case hc =>
    refine L2.walk_ofE (l := PySem.Challenge.rw_surepilot_k48_whole_late_widths_bound_es) (n := 63) (k := P48.kk) (x := "script") (CX := L2.CX0) rfl (by decide) (by kernel_rfl) ⟨rfl, by decide, by decide⟩ ?F (fun _ _ _ _ z => z)
    intro w mg fa h Y G hmg0
    obtain ⟨K, KX, c, cx⟩ := Y
    have hmg : mg (P48.p_law.name) = some (.ref fa) := by
      have e : (HandSHeadRun.topDef (OpenLaw.row PySem.Challenge.rw_surepilot_k48_whole_late_widths_bound_es).prog 64).name = P48.p_law.name := by kernel_rfl
      rw [← e]
      exact hmg0
    obtain ⟨fd, hb, hF⟩ := Py.law_ok (P := (PySem.Challenge.rw_surepilot_k48_whole_late_widths_bound_es).prog) (w := w) P48.pfs P48.gls P48.Γ P48.kk P48.f_law P48.p_law rfl rfl P48.chk P48.bnd (Py.hg_of KX G cx) KX G hmg c
    exact ⟨K, fd, _, KX, hb, fun H a ns hl _ hS => Py.law_sp P48.law_true H a ns hl hS, hF⟩
end
