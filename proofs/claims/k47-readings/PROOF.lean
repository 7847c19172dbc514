import PyProof.Rows.All
import HandS.ForMost
import HandS.Walk
import HandS.Zip
import HandS.Defaults
import HandS.IsInst
import HandS.Flow
import HandS.Style
import HandS.Wide
import HandS.TupAny
import Wide.All
import OpenK.AllK
import Wide.FinOn
import KE.KStateDown
import HandS.Ends
import HandS.More
import HandS.Words
import HandS.WordsExc
import HandS.Head0
import HandS.Head1
import HandS.Head2
import HandS.HeadEnd
import HandS.HeadHook1
import HandS.HeadHook2
import PySem.Challenge.RW_surepilot_k47_whole_readings_tell_the_qu
section
set_option Elab.async false
set_option linter.all false
namespace Py
open PySem L2
/-! ### data, and what stands for it in a heap -/
/-- data: lst a list that stands still, scr one that is locked or written, mr the i-th living list -/
inductive D where
  | non | bl (b : Bool) | int (i : Int) | str (s : Str) | tup (ds : List D) | lst (ds : List D) | scr (ds : List D) | mr (i : Nat)
section
variable (K : PySem.W.Frag) (F : Hp) (ρ : List Addr)
mutual
inductive Dr : V → D → Prop
  | non : Dr .non .non
  | bl (b : Bool) : Dr (.bl b) (.bl b)
  | int (i : Int) : Dr (.int i) (.int i)
  | str (x : Str) : Dr (.str x) (.str x)
  | tup {a : Addr} {xs : List V} {ds : List D} : SqT K F a xs → DrL xs ds → Dr (.ref a) (.tup ds)
  | lst {a : Addr} {xs : List V} {ds : List D} : F a = some (.lst xs) → DrL xs ds → Dr (.ref a) (.lst ds)
  | scr {a : Addr} {xs : List V} {ds : List D} : SqL K F a xs → DrL xs ds → Dr (.ref a) (.scr ds)
  | mr {i : Nat} {a : Addr} : ρ[i]? = some a → Dr (.ref a) (.mr i)
inductive DrL : List V → List D → Prop
  | nil : DrL [] []
  | cons {v : V} {vs : List V} {d : D} {ds : List D} : Dr v d → DrL vs ds → DrL (v :: vs) (d :: ds)
end
end
theorem same_t {K : PySem.W.Frag} {H H' : Hp} {a : Addr} {xs : List V} (e : Same H H') (h : SqT K H a xs) : SqT K H' a xs := by
  rcases h with (h | ⟨o, h⟩) | h
  · exact .inl (.inl (e _ _ h))
  · exact .inl (.inr ⟨o, e _ _ h⟩)
  · exact .inr h
section
variable {K : PySem.W.Frag} {F F' : Hp} {ρ ρ' : List Addr}
mutual
theorem Dr.mono (hF : Same F F') (hρ : ∀ (i : Nat) (a : Addr), ρ[i]? = some a → ρ'[i]? = some a) : ∀ (d : D) (v : V), Dr K F ρ v d → Dr K F' ρ' v d
  | .non, _, h => by cases h; exact .non
  | .bl _, _, h => by cases h; exact .bl _
  | .int _, _, h => by cases h; exact .int _
  | .str _, _, h => by cases h; exact .str _
  | .tup ds, _, h => by
    cases h with
    | tup a b => exact .tup (same_t hF a) (DrL.mono hF hρ ds _ b)
  | .lst ds, _, h => by
    cases h with
    | lst a b => exact .lst (hF _ _ a) (DrL.mono hF hρ ds _ b)
  | .scr ds, _, h => by
    cases h with
    | scr a b => exact .scr (hF.seq a) (DrL.mono hF hρ ds _ b)
  | .mr i, _, h => by
    cases h with
    | mr a => exact .mr (hρ _ _ a)
theorem DrL.mono (hF : Same F F') (hρ : ∀ (i : Nat) (a : Addr), ρ[i]? = some a → ρ'[i]? = some a) : ∀ (ds : List D) (vs : List V), DrL K F ρ vs ds → DrL K F' ρ' vs ds
  | [], _, h => by cases h; exact .nil
  | d :: ds, _, h => by
    cases h with
    | cons a b => exact .cons (Dr.mono hF hρ d _ a) (DrL.mono hF hρ ds _ b)
end
theorem DrL.length : ∀ {vs : List V} {ds : List D}, DrL K F ρ vs ds → vs.length = ds.length
  | [], [], _ => rfl
  | _ :: _, _ :: _, .cons _ t => congrArg (· + 1) (DrL.length t)
theorem DrL.get : ∀ {vs : List V} {ds : List D} {i : Nat} {d : D}, DrL K F ρ vs ds → ds[i]? = some d → ∃ v, vs[i]? = some v ∧ Dr K F ρ v d
  | [], [], _, _, _, e => by simp at e
  | _ :: _, _ :: _, 0, d, .cons a _, e => by simp at e; subst e; exact ⟨_, rfl, a⟩
  | _ :: _, _ :: _, i + 1, d, .cons _ b, e => by
    obtain ⟨v, h1, h2⟩ := DrL.get (i := i) b (by simpa using e)
    exact ⟨v, by simpa using h1, h2⟩
theorem DrL.getV : ∀ {vs : List V} {ds : List D} {i : Nat} {v : V}, DrL K F ρ vs ds → vs[i]? = some v → ∃ d, ds[i]? = some d ∧ Dr K F ρ v d
  | [], [], _, _, _, e => by simp at e
  | _ :: _, _ :: _, 0, d, .cons a _, e => by simp at e; subst e; exact ⟨_, rfl, a⟩
  | _ :: _, _ :: _, i + 1, d, .cons _ b, e => by
    obtain ⟨v, h1, h2⟩ := DrL.getV (i := i) b (by simpa using e)
    exact ⟨v, by simpa using h1, h2⟩
theorem DrL.append : ∀ {vs ws : List V} {ds es : List D}, DrL K F ρ vs ds → DrL K F ρ ws es → DrL K F ρ (vs ++ ws) (ds ++ es)
  | [], _, [], _, _, h => h
  | _ :: _, _, _ :: _, _, .cons a b, h => .cons a (DrL.append b h)
theorem DrL.take : ∀ {vs : List V} {ds : List D} (n : Nat), DrL K F ρ vs ds → DrL K F ρ (vs.take n) (ds.take n)
  | _, _, 0, _ => by simpa using DrL.nil
  | [], [], _ + 1, _ => .nil
  | _ :: _, _ :: _, n + 1, .cons a b => .cons a (DrL.take n b)
theorem DrL.drop : ∀ {vs : List V} {ds : List D} (n : Nat), DrL K F ρ vs ds → DrL K F ρ (vs.drop n) (ds.drop n)
  | _, _, 0, h => h
  | [], [], _ + 1, _ => .nil
  | _ :: _, _ :: _, n + 1, .cons _ b => DrL.drop n b
theorem DrL.set : ∀ {vs : List V} {ds : List D} {v : V} {d : D} (i : Nat), DrL K F ρ vs ds → Dr K F ρ v d → DrL K F ρ (vs.set i v) (ds.set i d)
  | [], [], _, _, 0, _, _ => .nil
  | [], [], _, _, _ + 1, _, _ => .nil
  | _ :: _, _ :: _, _, _, 0, .cons _ b, h => .cons h b
  | _ :: _, _ :: _, _, _, i + 1, .cons a b, h => .cons a (DrL.set i b h)
theorem DrL.ints : ∀ (ns : List Int), DrL K F ρ (ns.map V.int) (ns.map D.int)
  | [] => .nil
  | n :: ns => .cons (.int n) (DrL.ints ns)
end
/-! ### the living lists, the slots -/
abbrev Store := List (List D)
inductive SV where
  | own (ds : List D) | val (d : D)
abbrev Env := List (Option SV)
structure Cells (K : PySem.W.Frag) (F H : Hp) (ρ : List Addr) (μ : Store) : Prop where
  len : ρ.length = μ.length
  nd : ∀ (i j : Nat) (a : Addr), ρ[i]? = some a → ρ[j]? = some a → i = j
  at_ : ∀ (i : Nat) (a : Addr) (ds : List D), ρ[i]? = some a → μ[i]? = some ds → F a = none ∧ ∃ xs, H a = some (.lst xs) ∧ DrL K F ρ xs ds
/-- B: the heap at the def's entry, which own lists stand outside of -/
def SVr (K : PySem.W.Frag) (B F H : Hp) (ρ : List Addr) (v : V) : SV → Prop
  | .val d => Dr K F ρ v d
  | .own ds => ∃ a xs, v = .ref a ∧ H a = some (.lst xs) ∧ DrL K F ρ xs ds ∧ F a = none ∧ a ∉ ρ ∧ B a = none
structure EnvR (K : PySem.W.Frag) (B F H : Hp) (ρ : List Addr) (σ : L2.St) (env : Env) : Prop where
  len : σ.length = env.length
  at_ : ∀ (i : Nat) (sv : SV), env[i]? = some (some sv) → ∃ v, σ[i]? = some (some v) ∧ SVr K B F H ρ v sv
  apart : ∀ (i j : Nat) (ds es : List D) (a : Addr), env[i]? = some (some (.own ds)) → env[j]? = some (some (.own es)) → σ[i]? = some (some (.ref a)) → σ[j]? = some (some (.ref a)) → i = j
structure Ext (F H : Hp) (ρ : List Addr) (F' H' : Hp) (ρ' : List Addr) : Prop where
  ff : Same F F'
  hh : ∀ a o, H a = some o → a ∉ ρ → H' a = some o
  dm : ∀ a, H a ≠ none → H' a ≠ none
  new : ∀ a, F a = none → F' a ≠ none → H a = none
  rr : ∀ (i : Nat) (a : Addr), ρ[i]? = some a → ρ'[i]? = some a
  rn : ∀ a ∈ ρ', a ∈ ρ ∨ H a = none
structure SR (K : PySem.W.Frag) (B F H : Hp) (ρ : List Addr) (σ : L2.St) (env : Env) (μ : Store) : Prop where
  fh : Same F H
  cells : Cells K F H ρ μ
  env : EnvR K B F H ρ σ env
section
variable {K : PySem.W.Frag} {B F H F' H' F'' H'' : Hp} {ρ ρ' ρ'' : List Addr} {σ : L2.St} {env : Env} {μ μ' : Store}
theorem Ext.refl : Ext F H ρ F H ρ := ⟨Same.refl _, fun _ _ h _ => h, fun _ h => h, fun _ h1 h2 => absurd h1 h2, fun _ _ h => h, fun _ h => .inl h⟩
theorem Ext.trans (a : Ext F H ρ F' H' ρ') (b : Ext F' H' ρ' F'' H'' ρ'') : Ext F H ρ F'' H'' ρ'' where
  ff := a.ff.trans b.ff
  hh := fun x o h n => b.hh x o (a.hh x o h n) fun z => (a.rn x z).elim n fun q => by rw [q] at h; cases h
  dm := fun x h => b.dm x (a.dm x h)
  new := fun x h1 h2 => by
    by_cases q : F' x = none
    · have z := b.new x q h2
      by_cases w : H x = none
      · exact w
      · exact absurd z (a.dm x w)
    · exact a.new x h1 q
  rr := fun i x h => b.rr i x (a.rr i x h)
  rn := fun x h => (b.rn x h).elim (fun z => a.rn x z) fun z => .inr (by
    by_cases w : H x = none
    · exact w
    · exact absurd z (a.dm x w))
theorem Dr.ext {v : V} {d : D} (h : Dr K F ρ v d) (e : Ext F H ρ F' H' ρ') : Dr K F' ρ' v d := Dr.mono e.ff e.rr _ _ h
theorem DrL.ext {v : List V} {d : List D} (h : DrL K F ρ v d) (e : Ext F H ρ F' H' ρ') : DrL K F' ρ' v d := DrL.mono e.ff e.rr _ _ h
theorem SVr.ext {v : V} {sv : SV} (h : SVr K B F H ρ v sv) (e : Ext F H ρ F' H' ρ') : SVr K B F' H' ρ' v sv := by
  cases sv with
  | val d => exact Dr.ext h e
  | own ds =>
    obtain ⟨a, xs, h1, h2, h3, h4, h5, h6⟩ := h
    have hn : H a ≠ none := by rw [h2]; exact fun z => nomatch z
    refine ⟨a, xs, h1, e.hh _ _ h2 h5, h3.ext e, ?_, fun z => (e.rn a z).elim h5 hn, h6⟩
    by_cases q : F' a = none
    · exact q
    · exact absurd (e.new a h4 q) hn
theorem SR.step (S : SR K B F H ρ σ env μ) (e : Ext F H ρ F' H' ρ') (fh : Same F' H') (c : Cells K F' H' ρ' μ') : SR K B F' H' ρ' σ env μ' :=
  ⟨fh, c, ⟨S.env.len, fun i sv h => let ⟨v, h1, h2⟩ := S.env.at_ i sv h; ⟨v, h1, h2.ext e⟩, S.env.apart⟩⟩
/-- an extension that leaves all as it was -/
structure PX (F H F' H' : Hp) : Prop where
  ff : Same F F'
  hh : Same H H'
  fh : Same F' H'
  new : ∀ a, F a = none → F' a ≠ none → H a = none
theorem PX.refl (h : Same F H) : PX F H F H := ⟨Same.refl _, Same.refl _, h, fun _ a b => absurd a b⟩
theorem PX.ext (p : PX F H F' H') : Ext F H ρ F' H' ρ := ⟨p.ff, fun a o h _ => p.hh a o h, fun a h => (by
  cases q : H a with
  | none => exact absurd q h
  | some o => rw [p.hh a o q]; exact fun z => nomatch z), p.new, fun _ _ h => h, fun _ h => .inl h⟩
theorem Cells.px (c : Cells K F H ρ μ) (p : PX F H F' H') : Cells K F' H' ρ μ := ⟨c.len, c.nd, fun i a ds h1 h2 => by
  obtain ⟨h3, xs, h4, h5⟩ := c.at_ i a ds h1 h2
  refine ⟨?_, xs, p.hh _ _ h4, DrL.mono p.ff (fun _ _ h => h) _ _ h5⟩
  by_cases q : F' a = none
  · exact q
  · have := p.new a h3 q
    rw [h4] at this; cases this⟩
theorem same_upd' {H : Hp} {p : Addr} {o : HO} (h : H p = none) : Same H (upd H p o) := fun b x e => by
  rw [upd_ne (ne_of_none e h)]; exact e
theorem none_of_same {F H : Hp} {p : Addr} (fh : Same F H) (h : H p = none) : F p = none := fh.free h
theorem PX.new_ (fh : Same F H) {p : Addr} {o : HO} (h : H p = none) : PX F H (upd F p o) (upd H p o) := by
  refine ⟨same_upd' (fh.free h), same_upd' h, fun b x e => ?_, fun a h1 h2 => ?_⟩
  · by_cases q : b = p
    · subst q; rw [upd_same] at e ⊢; exact e
    · rw [upd_ne q] at e ⊢; exact fh _ _ e
  · by_cases q : a = p
    · subst q; exact h
    · rw [upd_ne q] at h2; exact absurd h1 h2
theorem PX.trans (a : PX F H F' H') (b : PX F' H' F'' H'') : PX F H F'' H'' := by
  refine ⟨a.ff.trans b.ff, a.hh.trans b.hh, b.fh, fun x h1 h2 => ?_⟩
  by_cases q : F' x = none
  · have z := b.new x q h2
    exact a.hh.free z
  · exact a.new x h1 q
theorem SR.px (S : SR K B F H ρ σ env μ) (p : PX F H F' H') : SR K B F' H' ρ σ env μ := S.step p.ext p.fh (S.cells.px p)
end
end Py
end
section
set_option Elab.async false
set_option linter.all false
namespace Py
open PySem L2
/-! ### the syntax that is served -/
inductive Ty where
  | int | bool | str | tup | lst
  deriving DecidableEq
inductive Bi where
  | len | abs | max | min | sum | tuple | list | int
  deriving DecidableEq
inductive T where
  | nm (i : Nat) | tp (ts : List T)
mutual
inductive E where
  | slot (i : Nat) | glob (g : Nat) | int (i : Int) | bl (b : Bool) | non | str (s : Str)
  | bin (op : Operator) (a b : E) | neg (a : E) | not (a : E)
  | cmp (op : CmpOp) (a b : E) | isN (a : E) | notN (a : E)
  | and (a : E) (r : Es) | or (a : E) (r : Es)
  | ite (c a b : E)
  | tup (es : Es) | lst (es : Es) | mlst (es : Es)
  | ix (a b : E) | slc (a : E) (lo hi : Eo)
  | call (f : Nat) (e : E) (es : Es)
  | bi (b : Bi) (e : E) (es : Es)
  | isi (e : E) (t : Ty)
  | lc (e : E) (t : T) (it : I) (c : Eo) (vs : List Nat)
  | bor (i : Nat) (e : E)
inductive Es where
  | nil | cons (e : E) (es : Es)
inductive Eo where
  | none | some (e : E)
inductive I where
  | seq (e : E) | rng1 (e : E) | rng2 (a b : E) | zip (a b : E) | enum (e : E)
end
inductive S where
  | app (i : Nat) (e : E)
  | expr (e : E)
  | asg (t : T) (e : E)
  | asgN (i : Nat) (e : E)
  | par (i j : Nat) (a b : E)
  | aug (i : Nat) (op : Operator) (e : E)
  | setm (o i e : E)
  | ret (e : E) | retN
  | iff (c : E) (a b : List S)
  | wh (c : E) (b : List S)
  | for (t : T) (it : I) (b : List S)
  | brk | cont | pass
  | frz (i : Nat) (s : S)

/-! ### the values of operations -/
abbrev SZ : Nat := 16777216
abbrev B64 : Int := 18446744073709551616
mutual
def toPy : D → Option PyData
  | .non => some .none
  | .bl b => some (.bool b)
  | .int i => some (.int i)
  | .str s => some (.str s)
  | .tup ds => (toPys ds).map .tuple
  | .lst ds => (toPys ds).map .list
  | .scr ds => (toPys ds).map .list
  | .mr _ => none
def toPys : List D → Option (List PyData)
  | [] => some []
  | d :: ds => (toPy d).bind fun p => (toPys ds).map fun ps => p :: ps
end
def mulOk (i j : Int) : Bool := decide (i.natAbs.log2 + j.natAbs.log2 < 1000000)
def divOk (j : Int) : Bool := decide (0 < j) && decide (j.natAbs.log2 < 9000)
def binS : Operator → D → D → Option D
  | .Add, .int i, .int j => some (.int (i + j))
  | .Sub, .int i, .int j => some (.int (i - j))
  | .Mult, .int i, .int j => if mulOk i j then some (.int (i * j)) else none
  | .FloorDiv, .int i, .int j => if divOk j then some (.int (i / j)) else none
  | .Mod, .int i, .int j => if j != 0 then some (.int (i.fmod j)) else none
  | .Pow, .int i, .int j => if decide (0 ≤ j) && decide (j ≤ 1000000) && decide (i.natAbs < 2 ^ 64) then some (.int (i ^ j.toNat)) else none
  | .Add, .tup a, .tup b => if a.length + b.length ≤ SZ then some (.tup (a ++ b)) else none
  | .Add, .lst a, .lst b => if a.length + b.length ≤ SZ then some (.lst (a ++ b)) else none
  | _, _, _ => none
def eqS (a b : D) : Option Bool := (toPy a).bind fun p => (toPy b).bind fun q => if SeqAt.shaped p && SeqAt.shaped q then some (PyData.eqv p q) else none
def flat : D → Bool
  | .non => true | .bl _ => true | .int _ => true | .str _ => true
  | _ => false
def cmpS : CmpOp → D → D → Option Bool
  | .Lt, .int i, .int j => some (decide (i < j))
  | .LtE, .int i, .int j => some (decide (i ≤ j))
  | .Gt, .int i, .int j => some (decide (j < i))
  | .GtE, .int i, .int j => some (decide (j ≤ i))
  | .Eq, a, b => eqS a b
  | .NotEq, a, b => (eqS a b).map not
  | _, _, _ => none
def isNon : D → Bool
  | .non => true
  | _ => false
def truS : D → Option Bool
  | .non => some false
  | .bl b => some b
  | .int i => some (i != 0)
  | .tup ds => some (!ds.isEmpty)
  | .lst ds => some (!ds.isEmpty)
  | _ => none
/-- the items of a list or a tuple -/
def itsS (μ : Store) : D → Option (List D)
  | .tup ds => some ds
  | .lst ds => some ds
  | .scr ds => some ds
  | .mr i => μ[i]?
  | _ => none
/-- the items of a list -/
def lstS (μ : Store) : D → Option (List D)
  | .lst ds => some ds
  | .scr ds => some ds
  | .mr i => μ[i]?
  | _ => none
def ixS (μ : Store) (d : D) : D → Option D
  | .int i => (itsS μ d).bind fun ds => atI ds i
  | _ => none
def cutS (ds : List D) (lo hi : Option Int) : List D := (ds.drop (HT.sIx ds.length 0 lo)).take (HT.sIx ds.length ds.length hi - HT.sIx ds.length 0 lo)
def slcS : D → Option Int → Option Int → Option D
  | .tup ds, lo, hi => some (.tup (cutS ds lo hi))
  | .lst ds, lo, hi => some (.lst (cutS ds lo hi))
  | _, _, _ => none
def asInt : D → Option Int
  | .int i => some i
  | _ => none
def asInts : List D → Option (List Int)
  | [] => some []
  | d :: ds => (asInt d).bind fun i => (asInts ds).map fun is => i :: is
def maxI : List Int → Int
  | [] => 0
  | [x] => x
  | x :: y :: r => maxI ((if y > x then y else x) :: r)
termination_by l => l.length
def minI : List Int → Int
  | [] => 0
  | [x] => x
  | x :: y :: r => minI ((if y < x then y else x) :: r)
termination_by l => l.length
def biS (μ : Store) : Bi → List D → Option D
  | .len, [d] => (itsS μ d).map fun ds => .int ds.length
  | .abs, [.int i] => some (.int (if i < 0 then -i else i))
  | .max, [.int i, .int j] => some (.int (if j > i then j else i))
  | .min, [.int i, .int j] => some (.int (if j < i then j else i))
  | .max, [d] => (lstS μ d).bind fun ds => (asInts ds).bind fun is => if is.isEmpty then none else some (.int (maxI is))
  | .min, [d] => (lstS μ d).bind fun ds => (asInts ds).bind fun is => if is.isEmpty then none else some (.int (minI is))
  | .sum, [d] => (lstS μ d).bind fun ds => (asInts ds).map fun is => .int is.sum
  | .tuple, [d] => (itsS μ d).map .tup
  | .list, [d] => (itsS μ d).map .lst
  | .int, [.int i] => some (.int i)
  | .int, [.bl b] => some (.int (if b then 1 else 0))
  | _, _ => none
def isiS : D → Ty → Option Bool
  | .non, _ => some false
  | .bl _, t => some (t == .bool || t == .int)
  | .int _, t => some (t == .int)
  | .str _, t => some (t == .str)
  | .tup _, t => some (t == .tup)
  | .lst _, t => some (t == .lst)
  | _, _ => none
/-! ### slots -/
def getV (env : Env) (i : Nat) : Option D := match env[i]? with
  | some (some (.val d)) => some d
  | _ => none
def getO (env : Env) (i : Nat) : Option (List D) := match env[i]? with
  | some (some (.own ds)) => some ds
  | _ => none
def setV (env : Env) (i : Nat) (d : D) : Option Env := if i < env.length then some (env.set i (some (.val d))) else none
mutual
def asgT : T → D → Env → Option Env
  | .nm i, d, env => setV env i d
  | .tp ts, .tup ds, env => asgTs ts ds env
  | .tp _, _, _ => none
def asgTs : List T → List D → Env → Option Env
  | [], [], env => some env
  | t :: ts, d :: ds, env => (asgT t d env).bind fun env' => asgTs ts ds env'
  | _, _, _ => none
end
mutual
def tgS : T → List Nat
  | .nm i => [i]
  | .tp ts => tgsS ts
def tgsS : List T → List Nat
  | [] => []
  | t :: ts => tgS t ++ tgsS ts
end
def wipeE (env : Env) : List Nat → Env
  | [] => env
  | v :: vs => (wipeE env vs).set v none
/-! ### walks -/
def zipD (a b : List D) : List D := (a.zip b).map fun p => .tup [p.1, p.2]
def enumD : Nat → List D → List D
  | _, [] => []
  | i, d :: ds => .tup [.int i, d] :: enumD (i + 1) ds
def rangeD (lo : Int) (n : Nat) : List D := (List.range n).map fun i => .int (lo + (i : Nat))
def rngS (lo hi : Int) : Option (List D) := if decide (-4611686018427387904 ≤ lo) && decide (lo < 4611686018427387904) && decide (-4611686018427387904 ≤ hi) && decide (hi < 4611686018427387904) && decide ((hi - lo).toNat ≤ SZ) then some (rangeD lo (hi - lo).toNat) else none
/-- [f x for x in ds if c x] -/
def lcS (t : T) (c : Env → Store → Option (Bool × Store)) (f : Env → Store → Option (D × Store)) (env : Env) : List D → Store → Option (List D × Store)
  | [], μ => some ([], μ)
  | d :: ds, μ => (asgT t d env).bind fun env' => (c env' μ).bind fun (b, μ1) =>
    if b then (f env' μ1).bind fun (x, μ2) => (lcS t c f env ds μ2).map fun (xs, μ3) => (x :: xs, μ3) else lcS t c f env ds μ1
def scalS : Store → Bool
  | [] => true
  | ds :: r => ds.all flat && scalS r
/-! ### expressions -/
section
variable (Φ : Nat → List D → Store → Option (D × Store)) (Γ : Nat → Option D)
mutual
def ev : E → Env → Store → Option (D × Store)
  | .slot i, env, μ => (getV env i).map fun d => (d, μ)
  | .glob g, _, μ => (Γ g).map fun d => (d, μ)
  | .int i, _, μ => some (.int i, μ)
  | .bl b, _, μ => some (.bl b, μ)
  | .non, _, μ => some (.non, μ)
  | .str s, _, μ => some (.str s, μ)
  | .bin op a b, env, μ => (ev a env μ).bind fun (x, μ1) => (ev b env μ1).bind fun (y, μ2) => (binS op x y).map fun d => (d, μ2)
  | .neg a, env, μ => (ev a env μ).bind fun (x, μ1) => (asInt x).map fun i => (.int (-i), μ1)
  | .not a, env, μ => (ev a env μ).bind fun (x, μ1) => (truS x).map fun b => (.bl (!b), μ1)
  | .cmp op a b, env, μ => (ev a env μ).bind fun (x, μ1) => (ev b env μ1).bind fun (y, μ2) => (cmpS op x y).map fun d => (.bl d, μ2)
  | .isN a, env, μ => (ev a env μ).map fun (x, μ1) => (.bl (isNon x), μ1)
  | .notN a, env, μ => (ev a env μ).map fun (x, μ1) => (.bl (!isNon x), μ1)
  | .and a r, env, μ => (ev a env μ).bind fun (x, μ1) => evAnd x r env μ1
  | .or a r, env, μ => (ev a env μ).bind fun (x, μ1) => evOr x r env μ1
  | .ite c a b, env, μ => (evT c env μ).bind fun (k, μ1) => if k then ev a env μ1 else ev b env μ1
  | .tup es, env, μ => (evs es env μ).bind fun (ds, μ1) => if ds.length ≤ SZ then some (.tup ds, μ1) else none
  | .lst es, env, μ => (evs es env μ).bind fun (ds, μ1) => if ds.length ≤ SZ then some (.lst ds, μ1) else none
  | .mlst es, env, μ => (evs es env μ).bind fun (ds, μ1) => if ds.length ≤ SZ then some (.mr μ1.length, μ1 ++ [ds]) else none
  | .ix a b, env, μ => (ev a env μ).bind fun (x, μ1) => (ev b env μ1).bind fun (y, μ2) => (ixS μ2 x y).map fun d => (d, μ2)
  | .slc a lo hi, env, μ => (ev a env μ).bind fun (x, μ1) => (evo lo env μ1).bind fun (l, μ2) => (evo hi env μ2).bind fun (h, μ3) => (slcS x l h).map fun d => (d, μ3)
  | .call f e es, env, μ => (ev e env μ).bind fun (x, μ1) => (evs es env μ1).bind fun (xs, μ2) => Φ f (x :: xs) μ2
  | .bi b e es, env, μ => (ev e env μ).bind fun (x, μ1) => (evs es env μ1).bind fun (xs, μ2) => (biS μ2 b (x :: xs)).map fun d => (d, μ2)
  | .isi e t, env, μ => (ev e env μ).bind fun (x, μ1) => (isiS x t).map fun b => (.bl b, μ1)
  | .lc e t it c vs, env, μ => (evI it env μ).bind fun (ds, μ1) => if ds.length ≤ SZ then (lcS t (fun env' μ' => evc c env' μ') (fun env' μ' => ev e env' μ') (wipeE env vs) ds μ1).map fun (xs, μ2) => (.lst xs, μ2) else none
  | .bor i e, env, μ => (getO env i).bind fun ds => (ev e (env.set i (some (.val (.lst ds)))) μ).bind fun (d, μ1) => if flat d && scalS μ1 then some (d, μ1) else none
def evT : E → Env → Store → Option (Bool × Store)
  | .not a, env, μ => (evT a env μ).map fun (b, μ1) => (!b, μ1)
  | .and a r, env, μ => (evT a env μ).bind fun (k, μ1) => if k then evTAnd r env μ1 else some (false, μ1)
  | .or a r, env, μ => (evT a env μ).bind fun (k, μ1) => if k then some (true, μ1) else evTOr r env μ1
  | .ite _ _ _, _, _ => none
  | .bor i e, env, μ => (getO env i).bind fun ds => (evT e (env.set i (some (.val (.lst ds)))) μ).bind fun (d, μ1) => if scalS μ1 then some (d, μ1) else none
  | .cmp op a b, env, μ => (ev a env μ).bind fun (x, μ1) => (ev b env μ1).bind fun (y, μ2) => (cmpS op x y).map fun d => (d, μ2)
  | .isN a, env, μ => (ev a env μ).map fun (x, μ1) => (isNon x, μ1)
  | .notN a, env, μ => (ev a env μ).map fun (x, μ1) => (!isNon x, μ1)
  | .slot i, env, μ => (getV env i).bind fun d => (truS d).map fun k => (k, μ)
  | .call f e es, env, μ => (ev e env μ).bind fun (x, μ1) => (evs es env μ1).bind fun (xs, μ2) => (Φ f (x :: xs) μ2).bind fun (d, μ3) => (truS d).map fun k => (k, μ3)
  | .ix a b, env, μ => (ev a env μ).bind fun (x, μ1) => (ev b env μ1).bind fun (y, μ2) => (ixS μ2 x y).bind fun d => (truS d).map fun k => (k, μ2)
  | .isi e t, env, μ => (ev e env μ).bind fun (x, μ1) => (isiS x t).map fun b => (b, μ1)
  | .bi b e es, env, μ => (ev e env μ).bind fun (x, μ1) => (evs es env μ1).bind fun (xs, μ2) => (biS μ2 b (x :: xs)).bind fun d => (truS d).map fun k => (k, μ2)
  | _, _, _ => none
def evAnd : D → Es → Env → Store → Option (D × Store)
  | x, .nil, _, μ => some (x, μ)
  | .bl true, .cons e r, env, μ => (ev e env μ).bind fun (y, μ1) => evAnd y r env μ1
  | .bl false, .cons _ _, _, μ => some (.bl false, μ)
  | _, _, _, _ => none
def evOr : D → Es → Env → Store → Option (D × Store)
  | x, .nil, _, μ => some (x, μ)
  | .bl false, .cons e r, env, μ => (ev e env μ).bind fun (y, μ1) => evOr y r env μ1
  | .bl true, .cons _ _, _, μ => some (.bl true, μ)
  | _, _, _, _ => none
def evTAnd : Es → Env → Store → Option (Bool × Store)
  | .nil, _, μ => some (true, μ)
  | .cons e r, env, μ => (evT e env μ).bind fun (k, μ1) => if k then evTAnd r env μ1 else some (false, μ1)
def evTOr : Es → Env → Store → Option (Bool × Store)
  | .nil, _, μ => some (false, μ)
  | .cons e r, env, μ => (evT e env μ).bind fun (k, μ1) => if k then some (true, μ1) else evTOr r env μ1
def evs : Es → Env → Store → Option (List D × Store)
  | .nil, _, μ => some ([], μ)
  | .cons e r, env, μ => (ev e env μ).bind fun (x, μ1) => (evs r env μ1).map fun (xs, μ2) => (x :: xs, μ2)
def evo : Eo → Env → Store → Option (Option Int × Store)
  | .none, _, μ => some (none, μ)
  | .some e, env, μ => (ev e env μ).bind fun (x, μ1) => (asInt x).map fun i => (some i, μ1)
def evc : Eo → Env → Store → Option (Bool × Store)
  | .none, _, μ => some (true, μ)
  | .some e, env, μ => evT e env μ
def evI : I → Env → Store → Option (List D × Store)
  | .seq e, env, μ => (ev e env μ).bind fun (x, μ1) => match x with
    | .tup ds => some (ds, μ1)
    | .lst ds => some (ds, μ1)
    | .scr ds => some (ds, μ1)
    | _ => none
  | .rng1 e, env, μ => (ev e env μ).bind fun (x, μ1) => (asInt x).bind fun j => (rngS 0 j).map fun ds => (ds, μ1)
  | .rng2 a b, env, μ => (ev a env μ).bind fun (x, μ1) => (ev b env μ1).bind fun (y, μ2) => (asInt x).bind fun i => (asInt y).bind fun j => (rngS i j).map fun ds => (ds, μ2)
  | .zip a b, env, μ => (ev a env μ).bind fun (x, μ1) => (ev b env μ1).bind fun (y, μ2) => match x, y with
    | .tup ds, .tup es => some (zipD ds es, μ2)
    | .lst ds, .lst es => some (zipD ds es, μ2)
    | _, _ => none
  | .enum e, env, μ => (ev e env μ).bind fun (x, μ1) => match x with
    | .lst ds => some (enumD 0 ds, μ1)
    | _ => none
end
/-! ### statements -/
inductive Fl where
  | nx (env : Env) (μ : Store) | rt (d : D) (μ : Store) | bk (env : Env) (μ : Store) | ct (env : Env) (μ : Store)
def forS (t : T) (b : Env → Store → Option Fl) : List D → Env → Store → Option Fl
  | [], env, μ => some (.nx env μ)
  | d :: ds, env, μ => (asgT t d env).bind fun env1 => (b env1 μ).bind fun
    | .nx env' μ' => forS t b ds env' μ'
    | .ct env' μ' => forS t b ds env' μ'
    | .bk env' μ' => some (.nx env' μ')
    | .rt d μ' => some (.rt d μ')
def whN (c : Env → Store → Option (Bool × Store)) (b : Env → Store → Option Fl) : Nat → Env → Store → Option Fl
  | 0, _, _ => none
  | n + 1, env, μ => (c env μ).bind fun (k, μ1) => if k then (b env μ1).bind fun
      | .nx env' μ' => whN c b n env' μ'
      | .ct env' μ' => whN c b n env' μ'
      | .bk env' μ' => some (.nx env' μ')
      | .rt d μ' => some (.rt d μ')
    else some (.nx env μ1)
open Classical in
noncomputable def whS (c : Env → Store → Option (Bool × Store)) (b : Env → Store → Option Fl) (env : Env) (μ : Store) : Option Fl :=
  if h : ∃ n r, whN c b n env μ = some r then some (choose (choose_spec h)) else none
mutual
noncomputable def ex : S → Env → Store → Option Fl
  | .app i e, env, μ => (ev Φ Γ e env μ).bind fun (d, μ1) => (getO env i).bind fun ds => if ds.length < SZ then some (.nx (env.set i (some (.own (ds ++ [d])))) μ1) else none
  | .expr e, env, μ => (ev Φ Γ e env μ).map fun (_, μ1) => .nx env μ1
  | .asg t e, env, μ => (ev Φ Γ e env μ).bind fun (d, μ1) => (asgT t d env).map fun env' => .nx env' μ1
  | .asgN i e, env, μ => (ev Φ Γ e env μ).bind fun (d, μ1) => match d with
    | .lst ds => if i < env.length then some (.nx (env.set i (some (.own ds))) μ1) else none
    | _ => none
  | .par i j a b, env, μ => (ev Φ Γ a env μ).bind fun (x, μ1) => (ev Φ Γ b env μ1).bind fun (y, μ2) => (setV env i x).bind fun env1 => (setV env1 j y).map fun env2 => .nx env2 μ2
  | .aug i op e, env, μ => (getV env i).bind fun x => (ev Φ Γ e env μ).bind fun (y, μ1) => match op, x, y with
    | .Add, .int a, .int b => (setV env i (.int (a + b))).map fun env' => .nx env' μ1
    | .Sub, .int a, .int b => (setV env i (.int (a - b))).map fun env' => .nx env' μ1
    | _, _, _ => none
  | .setm o i e, env, μ => (ev Φ Γ e env μ).bind fun (d, μ1) => (ev Φ Γ o env μ1).bind fun (x, μ2) => (ev Φ Γ i env μ2).bind fun (y, μ3) => match x, y with
    | .mr c, .int k => (μ3[c]?).bind fun ds => (ixN ds.length k).map fun j => .nx env (μ3.set c (ds.set j d))
    | _, _ => none
  | .ret e, env, μ => (ev Φ Γ e env μ).map fun (d, μ1) => .rt d μ1
  | .retN, _, μ => some (.rt .non μ)
  | .iff c a b, env, μ => (evT Φ Γ c env μ).bind fun (k, μ1) => if k then exs a env μ1 else exs b env μ1
  | .wh c b, env, μ => whS (fun env' μ' => evT Φ Γ c env' μ') (fun env' μ' => exs b env' μ') env μ
  | .for t it b, env, μ => (evI Φ Γ it env μ).bind fun (ds, μ1) => forS t (fun env' μ' => exs b env' μ') ds env μ1
  | .brk, env, μ => some (.bk env μ)
  | .cont, env, μ => some (.ct env μ)
  | .pass, env, μ => some (.nx env μ)
  | .frz i s, env, μ => (getO env i).bind fun ds => ex s (env.set i (some (.val (.lst ds)))) μ
noncomputable def exs : List S → Env → Store → Option Fl
  | [], env, μ => some (.nx env μ)
  | s :: r, env, μ => (ex s env μ).bind fun
    | .nx env' μ' => exs r env' μ'
    | f => some f
end
end
/-- a def: its parameters' number, its slots' number, its body -/
structure Fn where
  ar : Nat
  sl : Nat
  body : List S
noncomputable def run (fs : List Fn) (Γ : Nat → Option D) : Nat → Nat → List D → Store → Option (D × Store)
  | 0, _, _, _ => none
  | k + 1, f, ds, μ => (fs[f]?).bind fun fn => if ds.length = fn.ar then
      (exs (run fs Γ k) Γ fn.body (ds.map (fun d => some (.val d)) ++ List.replicate (fn.sl - fn.ar) none) μ).bind fun
        | .rt d μ' => some (d, μ')
        | .nx _ μ' => some (.non, μ')
        | _ => none
    else none
end Py
end
section
set_option Elab.async false
set_option linter.all false
set_option maxRecDepth 100000
namespace Py
open PySem L2
section
variable {K : PySem.W.Frag} {B F H F' H' : Hp} {ρ ρ' : List Addr} {σ : L2.St} {env : Env} {μ μ' : Store}
theorem sz : (sizeLine : Nat) = SZ := sizeLine_eq
/-- a rule of two values keeps a function of two data -/
def OpD (K : PySem.W.Frag) (r : R2) (g : D → D → Option D) : Prop := ∀ (F H : Hp) (ρ : List Addr) (x y : V) (dx dy d : D) (Q : VK), Same F H → Dr K F ρ x dx → Dr K F ρ y dy → g dx dy = some d →
  (∀ v F' H', PX F H F' H' → Dr K F' ρ v d → Q v H') → r x y H Q
theorem rdup {a : Addr} {o : HO} (h : H a = none) (fh : Same F H) : F a = none := fh.free h
theorem Dr.up {v : V} {d : D} (p : PX F H F' H') (h : Dr K F ρ v d) : Dr K F' ρ v d := Dr.mono p.ff (fun _ _ h => h) _ _ h
theorem DrL.up {v : List V} {d : List D} (p : PX F H F' H') (h : DrL K F ρ v d) : DrL K F' ρ v d := DrL.mono p.ff (fun _ _ h => h) _ _ h
theorem DrL.nil_iff {xs : List V} {ds : List D} (h : DrL K F ρ xs ds) : xs = [] ↔ ds = [] := by
  cases h <;> simp
/-- a new frozen tuple, a new frozen list -/
theorem new_tup {xs : List V} {ds : List D} {Q : VK} (fh : Same F H) (h : DrL K F ρ xs ds) (q : ∀ v F' H', PX F H F' H' → Dr K F' ρ v (.tup ds) → Q v H') : ∀ p, H p = none → Q (.ref p) (upd H p (.tup xs)) := fun p hp => by
  have P := PX.new_ (o := .tup xs) fh hp
  exact q _ (upd F p (.tup xs)) _ P (.tup (.inl (.inl upd_same)) (h.up P))
theorem new_lst {xs : List V} {ds : List D} {Q : VK} (fh : Same F H) (h : DrL K F ρ xs ds) (q : ∀ v F' H', PX F H F' H' → Dr K F' ρ v (.lst ds) → Q v H') : ∀ p, H p = none → Q (.ref p) (upd H p (.lst xs)) := fun p hp => by
  have P := PX.new_ (o := .lst xs) fh hp
  exact q _ (upd F p (.lst xs)) _ P (.lst upd_same (h.up P))
def opOf (K : PySem.W.Frag) : Operator → R2
  | .Add => fun x y H Q => rI0 (fun i j => .int (i + j)) x y H Q ∨ (rCatA K x y H Q ∨ rCat x y H Q)
  | .Sub => rI0 (fun i j => .int (i - j))
  | .Mult => rI CMulW (fun i j => .int (i * j))
  | .FloorDiv => rI CDivW (fun i j => .int (i / j))
  | .Mod => rI (fun _ j => j ≠ 0) (fun i j => .int (i.fmod j))
  | .Pow => rI CPow (fun i j => .int (i ^ j.toNat))
  | _ => fun _ _ _ _ => False
theorem op_of (X : Cx) (op : Operator) : OpR X (binaryOp op) (opOf X.K op) := by
  cases op with
  | Add => exact op_add.or (op_catA.or op_cat)
  | Sub => exact op_sub
  | Mult => exact op_mulW
  | FloorDiv => exact op_fdivW
  | Mod => exact op_modN
  | Pow => exact op_pow
  | _ => exact fun _ _ _ _ _ _ _ _ _ _ _ _ h => False.elim h
theorem mulOk_ok {i j : Int} (h : mulOk i j = true) : CMulW i j := by
  unfold mulOk at h
  have h2 := of_decide_eq_true h
  exact h2
theorem binS_ok (op : Operator) : OpD K (opOf K op) (binS op) := by
  intro F H ρ x y dx dy d Q fh rx ry e q
  unfold binS at e
  split at e
  · cases e; cases rx; cases ry
    exact .inl ⟨_, _, rfl, rfl, q _ F H (.refl fh) (.int _)⟩
  · cases e; cases rx; cases ry
    exact ⟨_, _, rfl, rfl, q _ F H (.refl fh) (.int _)⟩
  · rename_i i j
    split at e
    · cases e; cases rx; cases ry
      exact ⟨_, _, rfl, rfl, mulOk_ok ‹_›, q _ F H (.refl fh) (.int _)⟩
    · cases e
  · rename_i i j
    split at e
    · rename_i h
      cases e; cases rx; cases ry
      unfold divOk at h
      simp only [Bool.and_eq_true, decide_eq_true_eq] at h
      exact ⟨_, _, rfl, rfl, h, q _ F H (.refl fh) (.int _)⟩
    · cases e
  · split at e
    · rename_i h
      cases e; cases rx; cases ry
      exact ⟨_, _, rfl, rfl, by simpa using h, q _ F H (.refl fh) (.int _)⟩
    · cases e
  · split at e
    · rename_i h
      cases e; cases rx; cases ry
      simp only [Bool.and_eq_true, decide_eq_true_eq] at h
      exact ⟨_, _, rfl, rfl, ⟨h.1.1, h.1.2, h.2⟩, q _ F H (.refl fh) (.int _)⟩
    · cases e
  · rename_i a b
    split at e
    · rename_i h
      cases e
      cases rx with
      | tup r1 r2 =>
        cases ry with
        | tup s1 s2 =>
          have hx := same_t fh r1
          have hy := same_t fh s1
          have l1 := r2.length
          have l2 := s2.length
          refine .inr (.inl ⟨_, _, _, _, rfl, rfl, hx, hy, by rw [sz, l1, l2]; exact h, fun z => ?_, fun _ z => ?_, fun z1 z2 => new_tup fh (r2.append s2) q⟩)
          · have : a = [] := r2.nil_iff.mp z
            subst this
            exact q _ F H (.refl fh) (.tup s1 s2)
          · have : b = [] := s2.nil_iff.mp z
            subst this
            rw [List.append_nil] at q
            exact q _ F H (.refl fh) (.tup r1 r2)
    · cases e
  · rename_i a b
    split at e
    · rename_i h
      cases e
      cases rx with
      | lst r1 r2 =>
        cases ry with
        | lst s1 s2 =>
          have l1 := r2.length
          have l2 := s2.length
          exact .inr (.inr ⟨_, _, _, _, rfl, rfl, fh _ _ r1, fh _ _ s1, by rw [sz, l1, l2]; exact h, new_lst fh (r2.append s2) q⟩)
    · cases e
  · cases e
/-! ### comparisons -/
mutual
theorem toPy_ok (fh : Same F H) : ∀ (d : D) (v : V) (p : PyData), Dr K F ρ v d → toPy d = some p → Dp K H v p
  | .non, _, _, h, e => by cases h; cases e; exact .non
  | .bl _, _, _, h, e => by cases h; cases e; exact .bl _
  | .int _, _, _, h, e => by cases h; cases e; exact .int _
  | .str _, _, _, h, e => by cases h; cases e; exact .str _
  | .tup ds, _, p, h, e => by
    cases h with
    | tup a b =>
      unfold toPy at e
      obtain ⟨ps, h1, h2⟩ := Option.map_eq_some_iff.mp e
      subst h2
      exact .tup (same_t fh a) (toPys_ok fh ds _ _ b h1)
  | .lst ds, _, p, h, e => by
    cases h with
    | lst a b =>
      unfold toPy at e
      obtain ⟨ps, h1, h2⟩ := Option.map_eq_some_iff.mp e
      subst h2
      exact .lst (.inl (.inl (fh _ _ a))) (toPys_ok fh ds _ _ b h1)
  | .scr ds, _, p, h, e => by
    cases h with
    | scr a b =>
      unfold toPy at e
      obtain ⟨ps, h1, h2⟩ := Option.map_eq_some_iff.mp e
      subst h2
      exact .lst (fh.seq a) (toPys_ok fh ds _ _ b h1)
  | .mr _, _, _, h, e => by unfold toPy at e; cases e
theorem toPys_ok (fh : Same F H) : ∀ (ds : List D) (vs : List V) (ps : List PyData), DrL K F ρ vs ds → toPys ds = some ps → DpAll K H vs ps
  | [], _, _, h, e => by cases h; cases e; exact .nil
  | d :: ds, _, ps, h, e => by
    cases h with
    | cons a b =>
      unfold toPys at e
      obtain ⟨p, h1, h2⟩ := Option.bind_eq_some_iff.mp e
      obtain ⟨qs, h3, h4⟩ := Option.map_eq_some_iff.mp h2
      subst h4
      exact .cons (toPy_ok fh d _ _ a h1) (toPys_ok fh ds _ _ b h3)
end
def cmpOf (K : PySem.W.Frag) : CmpOp → R2
  | .Lt => rI0 (fun i j => .bl (decide (i < j)))
  | .LtE => rI0 (fun i j => .bl (decide (i ≤ j)))
  | .Gt => rI0 (fun i j => .bl (decide (j < i)))
  | .GtE => rI0 (fun i j => .bl (decide (j ≤ i)))
  | .Eq => rEqD K
  | .NotEq => rNeD K
  | _ => fun _ _ _ _ => False
theorem cmp_of (X : Cx) (hu : X.A.units + 64 < cLine) (op : CmpOp) : OpR X (compareOp op) (cmpOf X.K op) := by
  cases op with
  | Lt => exact op_lt
  | LtE => exact op_le
  | Gt => exact op_gt
  | GtE => exact op_ge
  | Eq => exact op_eqD hu
  | NotEq => exact op_neD hu
  | _ => exact fun _ _ _ _ _ _ _ _ _ _ _ _ h => False.elim h
theorem eqS_ok (fh : Same F H) {x y : V} {dx dy : D} {b : Bool} (rx : Dr K F ρ x dx) (ry : Dr K F ρ y dy) (e : eqS dx dy = some b) : ∃ p q, Dp K H x p ∧ Dp K H y q ∧ SeqAt.shaped p = true ∧ SeqAt.shaped q = true ∧ PyData.eqv p q = b := by
  unfold eqS at e
  obtain ⟨p, h1, h2⟩ := Option.bind_eq_some_iff.mp e
  obtain ⟨q, h3, h4⟩ := Option.bind_eq_some_iff.mp h2
  split at h4
  · rename_i hs
    cases h4
    simp only [Bool.and_eq_true] at hs
    exact ⟨p, q, toPy_ok fh _ _ _ rx h1, toPy_ok fh _ _ _ ry h3, hs.1, hs.2, rfl⟩
  · cases h4
theorem cmpS_ok (op : CmpOp) (fh : Same F H) {x y : V} {dx dy : D} {b : Bool} {Q : VK} (rx : Dr K F ρ x dx) (ry : Dr K F ρ y dy) (e : cmpS op dx dy = some b) (q : Q (.bl b) H) : cmpOf K op x y H Q := by
  unfold cmpS at e
  split at e
  · cases e; cases rx; cases ry; exact ⟨_, _, rfl, rfl, q⟩
  · cases e; cases rx; cases ry; exact ⟨_, _, rfl, rfl, q⟩
  · cases e; cases rx; cases ry; exact ⟨_, _, rfl, rfl, q⟩
  · cases e; cases rx; cases ry; exact ⟨_, _, rfl, rfl, q⟩
  · obtain ⟨p, r, h1, h2, h3, h4, h5⟩ := eqS_ok fh rx ry e
    subst h5
    exact ⟨p, r, h1, h2, h3, h4, q⟩
  · obtain ⟨k, h6, h7⟩ := Option.map_eq_some_iff.mp e
    obtain ⟨p, r, h1, h2, h3, h4, h5⟩ := eqS_ok fh rx ry h6
    subst h5; subst h7
    exact ⟨p, r, h1, h2, h3, h4, q⟩
  · cases e
theorem isNon_ok {x : V} {d : D} (r : Dr K F ρ x d) : decide (x = .non) = isNon d := by
  cases r <;> simp [isNon]
theorem truS_ok (fh : Same F H) {x : V} {d : D} {b : Bool} (r : Dr K F ρ x d) (e : truS d = some b) : TruV K x H b := by
  cases r with
  | non => cases e; exact rfl
  | bl b => cases e; exact rfl
  | int i => cases e; exact rfl
  | tup r1 r2 =>
    cases e
    refine .inr (.inl ⟨_, same_t fh r1, ?_⟩)
    cases r2 <;> rfl
  | lst r1 r2 =>
    cases e
    refine .inl ⟨_, .inl (.inl (fh _ _ r1)), ?_⟩
    cases r2 <;> rfl
  | _ => cases e
/-! ### items -/
theorem itsS_ok (fh : Same F H) (c : Cells K F H ρ μ) {x : V} {d : D} {ds : List D} (r : Dr K F ρ x d) (e : itsS μ d = some ds) : ∃ a xs, x = .ref a ∧ (SqL K H a xs ∨ SqT K H a xs) ∧ DrL K F ρ xs ds ∧ (SqT K H a xs → True) := by
  cases r with
  | tup r1 r2 => cases e; exact ⟨_, _, rfl, .inr (same_t fh r1), r2, fun _ => trivial⟩
  | lst r1 r2 => cases e; exact ⟨_, _, rfl, .inl (.inl (.inl (fh _ _ r1))), r2, fun _ => trivial⟩
  | scr r1 r2 => cases e; exact ⟨_, _, rfl, .inl (fh.seq r1), r2, fun _ => trivial⟩
  | mr h =>
    obtain ⟨_, xs, h1, h2⟩ := c.at_ _ _ _ h e
    exact ⟨_, xs, rfl, .inl (.inl (.inl h1)), h2, fun _ => trivial⟩
  | _ => cases e
theorem atI_ok {xs : List V} {ds : List D} {i : Int} {d : D} (r : DrL K F ρ xs ds) (e : atI ds i = some d) : ∃ v, atI xs i = some v ∧ Dr K F ρ v d := by
  unfold atI at e ⊢
  rw [r.length]
  obtain ⟨j, h1, h2⟩ := Option.bind_eq_some_iff.mp e
  obtain ⟨v, h3, h4⟩ := r.get h2
  exact ⟨v, Option.bind_eq_some_iff.mpr ⟨j, h1, h3⟩, h4⟩
theorem ixS_ok (fh : Same F H) (c : Cells K F H ρ μ) {x y : V} {dx dy d : D} {Q : VK} (rx : Dr K F ρ x dx) (ry : Dr K F ρ y dy) (e : ixS μ dx dy = some d) (q : ∀ v, Dr K F ρ v d → Q v H) : rIx K x y H Q := by
  unfold ixS at e
  split at e
  · obtain ⟨ds, h1, h2⟩ := Option.bind_eq_some_iff.mp e
    cases ry
    obtain ⟨a, xs, rfl, h3, h4, _⟩ := itsS_ok fh c rx h1
    obtain ⟨v, h5, h6⟩ := atI_ok h4 h2
    rcases h3 with h3 | h3
    · exact .inl ⟨_, _, _, v, rfl, rfl, h3, h5, q v h6⟩
    · exact .inr (.inl ⟨_, _, _, v, rfl, rfl, h3, h5, q v h6⟩)
  · cases e
theorem cut_ok {xs : List V} {ds : List D} (r : DrL K F ρ xs ds) (lo hi : Option Int) : DrL K F ρ (cutV xs lo hi) (cutS ds lo hi) := by
  unfold cutV cutS
  rw [r.length]
  exact (r.drop _).take _
def slOf (K : PySem.W.Frag) : V → Option Int → Option Int → Hp → VK → Prop := fun x lo hi H Q => rSlA K x lo hi H Q ∨ rSlL K x lo hi H Q
theorem sl_of (X : Cx) : SlR X (slOf X.K) := sl_tupA.or sl_list
theorem slcS_ok (fh : Same F H) {x : V} {dx d : D} {lo hi : Option Int} {Q : VK} (rx : Dr K F ρ x dx) (e : slcS dx lo hi = some d) (q : ∀ v F' H', PX F H F' H' → Dr K F' ρ v d → Q v H') : slOf K x lo hi H Q := by
  unfold slcS at e
  split at e
  · cases e
    cases rx with
    | tup r1 r2 =>
      refine .inl ⟨_, _, rfl, same_t fh r1, fun z => ?_, fun _ => new_tup fh (cut_ok r2 lo hi) q⟩
      refine q _ F H (.refl fh) (.tup r1 ?_)
      have e : cutS _ lo hi = _ := show cutS _ lo hi = _ from (by
        unfold cutS
        rw [← r2.length, z.1, z.2, List.drop_zero, Nat.sub_zero, r2.length, List.take_length])
      rw [e]
      exact r2
  · cases e
    cases rx with
    | lst r1 r2 => exact .inr ⟨_, _, rfl, .inl (.inl (fh _ _ r1)), new_lst fh (cut_ok r2 lo hi) q⟩
  · cases e
end
end Py
end
section
set_option Elab.async false
set_option linter.all false
set_option maxRecDepth 100000
namespace Py
open PySem L2
def biName : Bi → Str
  | .len => "len" | .abs => "abs" | .max => "max" | .min => "min" | .sum => "sum" | .tuple => "tuple" | .list => "list" | .int => "int"
def biOf (K : PySem.W.Frag) : Bi → List V → Hp → VK → Prop
  | .len => fun xs H Q => ∃ p ys, xs = [.ref p] ∧ (SqL K H p ys ∨ SqT K H p ys) ∧ Q (.int ys.length) H
  | .abs => fun xs H Q => ∃ i, xs = [.int i] ∧ Q (.int (if i < 0 then -i else i)) H
  | .max => fun xs H Q => (∃ i j, xs = [.int i, .int j] ∧ Q (.int (if j > i then j else i)) H) ∨ rMax K xs H Q
  | .min => fun xs H Q => (∃ i j, xs = [.int i, .int j] ∧ Q (.int (if j < i then j else i)) H) ∨ rMin K xs H Q
  | .sum => rSum K
  | .tuple => fun xs H Q => ∃ p ys, xs = [.ref p] ∧ ((SqL K H p ys ∧ ∀ l, H l = none → Q (.ref l) (upd H l (.tup ys))) ∨ (SqT K H p ys ∧ Q (.ref p) H))
  | .list => fun xs H Q => ∃ p ys, xs = [.ref p] ∧ (SqL K H p ys ∨ SqT K H p ys) ∧ ∀ l, H l = none → Q (.ref l) (upd H l (.lst ys))
  | .int => fun xs H Q => (∃ i, xs = [.int i] ∧ Q (.int i) H) ∨ ∃ k, xs = [.bl k] ∧ Q (.int (if k then 1 else 0)) H
theorem starEach_cons {e : Expr} {es : List Expr} {env : PySem.Env} (h : ∀ v p, e ≠ .Starred v p) : starEach (e :: es) env = (false, eval e env) :: starEach es env := by
  cases e <;> first | rfl | exact absurd rfl (h _ _)
section
variable {X : Cx} {e : Expr} {es : List Expr} {p pos : Pos} {t : TA}
theorem pe_bi (b : Bi) (hc : X.calm = true) (hg : Gl X (biName b)) (hm : X.mg (biName b) = none) (ha : PA X (e :: es) t) (hs : ∀ v p, e ≠ .Starred v p) (hpl : (backTo pos (starEach es X.env)).any (·.1) = false) :
    PE X (.Call (.Name (biName b) p) (e :: es) [] pos) (tCB (biOf X.K b) t) := by
  cases b with
  | len => exact pe_callB call_len_seq hg hm (by decide +kernel) ha (by decide) (by decide) (starEach_cons hs) hpl
  | abs => exact pe_callB call_abs hg hm (by decide +kernel) ha (by decide) (by decide) (starEach_cons hs) hpl
  | max => exact pe_callB ((call_max2 hc).or (cr_max hc)) hg hm (by decide +kernel) ha (by decide) (by decide) (starEach_cons hs) hpl
  | min => exact pe_callB ((call_min2 hc).or (cr_min hc)) hg hm (by decide +kernel) ha (by decide) (by decide) (starEach_cons hs) hpl
  | sum => exact pe_callB (cr_sum hc) hg hm (by decide +kernel) ha (by decide) (by decide) (starEach_cons hs) hpl
  | tuple => exact pe_callTy call_tuple_of hg hm (by decide +kernel) ha (by decide) (by decide) (starEach_cons hs) hpl
  | list => exact pe_callTy call_list_of hg hm (by decide +kernel) ha (by decide) (by decide) (starEach_cons hs) hpl
  | int => exact pe_callTy call_int1 hg hm (by decide +kernel) ha (by decide) (by decide) (starEach_cons hs) hpl
end
section
variable {K : PySem.W.Frag} {B F H F' H' : Hp} {ρ ρ' : List Addr} {σ : L2.St} {env : Env} {μ μ' : Store}
theorem asInts_ok : ∀ {ds : List D} {ns : List Int} {xs : List V}, DrL K F ρ xs ds → asInts ds = some ns → xs = ns.map V.int
  | [], _, _, h, e => by cases h; cases e; rfl
  | d :: ds, ns, _, .cons a b, e => by
    unfold asInts at e
    obtain ⟨i, h1, h2⟩ := Option.bind_eq_some_iff.mp e
    obtain ⟨is, h3, h4⟩ := Option.map_eq_some_iff.mp h2
    subst h4
    rw [asInts_ok b h3]
    unfold asInt at h1
    split at h1
    · cases h1; cases a; rfl
    · cases h1
theorem maxI_mem : ∀ (l : List Int), l ≠ [] → maxI l ∈ l ∧ ∀ y ∈ l, y ≤ maxI l
  | [], h => absurd rfl h
  | [x], _ => by
    rw [maxI]
    exact ⟨by simp, fun y hy => by simp at hy; omega⟩
  | x :: y :: r, _ => by
    rw [maxI]
    obtain ⟨h1, h2⟩ := maxI_mem ((if y > x then y else x) :: r) (by simp)
    generalize maxI ((if y > x then y else x) :: r) = m at h1 h2 ⊢
    constructor
    · rcases List.mem_cons.mp h1 with h | h
      · rw [h]; split <;> simp
      · exact List.mem_cons_of_mem _ (List.mem_cons_of_mem _ h)
    · intro z hz
      have h0 := h2 (if y > x then y else x) (by simp)
      rcases List.mem_cons.mp hz with h | h
      · subst h; split at h0 <;> omega
      · rcases List.mem_cons.mp h with h | h
        · subst h; split at h0 <;> omega
        · exact h2 z (List.mem_cons_of_mem _ h)
termination_by l => l.length
theorem minI_mem : ∀ (l : List Int), l ≠ [] → minI l ∈ l ∧ ∀ y ∈ l, minI l ≤ y
  | [], h => absurd rfl h
  | [x], _ => by
    rw [minI]
    exact ⟨by simp, fun y hy => by simp at hy; omega⟩
  | x :: y :: r, _ => by
    rw [minI]
    obtain ⟨h1, h2⟩ := minI_mem ((if y < x then y else x) :: r) (by simp)
    generalize minI ((if y < x then y else x) :: r) = m at h1 h2 ⊢
    constructor
    · rcases List.mem_cons.mp h1 with h | h
      · rw [h]; split <;> simp
      · exact List.mem_cons_of_mem _ (List.mem_cons_of_mem _ h)
    · intro z hz
      have h0 := h2 (if y < x then y else x) (by simp)
      rcases List.mem_cons.mp hz with h | h
      · subst h; split at h0 <;> omega
      · rcases List.mem_cons.mp h with h | h
        · subst h; split at h0 <;> omega
        · exact h2 z (List.mem_cons_of_mem _ h)
termination_by l => l.length
theorem DrL.two {xs : List V} {d1 d2 : D} (h : DrL K F ρ xs [d1, d2]) : ∃ x y, xs = [x, y] ∧ Dr K F ρ x d1 ∧ Dr K F ρ y d2 := by
  cases h with
  | cons a b => cases b with
    | cons c d => cases d; exact ⟨_, _, rfl, a, c⟩
theorem DrL.one {xs : List V} {d1 : D} (h : DrL K F ρ xs [d1]) : ∃ x, xs = [x] ∧ Dr K F ρ x d1 := by
  cases h with
  | cons a b => cases b; exact ⟨_, rfl, a⟩
theorem lstS_ok (fh : Same F H) (c : Cells K F H ρ μ) {x : V} {d : D} {ds : List D} (r : Dr K F ρ x d) (e : lstS μ d = some ds) : ∃ a xs, x = .ref a ∧ SqL K H a xs ∧ DrL K F ρ xs ds := by
  cases r with
  | lst r1 r2 => cases e; exact ⟨_, _, rfl, .inl (.inl (fh _ _ r1)), r2⟩
  | scr r1 r2 => cases e; exact ⟨_, _, rfl, fh.seq r1, r2⟩
  | mr h =>
    obtain ⟨_, xs, h1, h2⟩ := c.at_ _ _ _ h e
    exact ⟨_, xs, rfl, .inl (.inl h1), h2⟩
  | _ => cases e
theorem biS_ok (b : Bi) (fh : Same F H) (c : Cells K F H ρ μ) {xs : List V} {ds : List D} {d : D} {Q : VK} (r : DrL K F ρ xs ds) (e : biS μ b ds = some d) (q : ∀ v F' H', PX F H F' H' → Dr K F' ρ v d → Q v H') : biOf K b xs H Q := by
  unfold biS at e
  split at e
  · obtain ⟨es, h1, h2⟩ := Option.map_eq_some_iff.mp e
    subst h2
    obtain ⟨x, rfl, rx⟩ := r.one
    obtain ⟨a, ys, rfl, h3, h4, _⟩ := itsS_ok fh c rx h1
    exact ⟨a, ys, rfl, h3, q _ F H (.refl fh) (by rw [h4.length]; exact .int _)⟩
  · cases e
    obtain ⟨x, rfl, rx⟩ := r.one
    cases rx
    exact ⟨_, rfl, q _ F H (.refl fh) (.int _)⟩
  · cases e
    obtain ⟨x, y, rfl, rx, ry⟩ := r.two
    cases rx; cases ry
    exact .inl ⟨_, _, rfl, q _ F H (.refl fh) (.int _)⟩
  · cases e
    obtain ⟨x, y, rfl, rx, ry⟩ := r.two
    cases rx; cases ry
    exact .inl ⟨_, _, rfl, q _ F H (.refl fh) (.int _)⟩
  · obtain ⟨es, h1, h2⟩ := Option.bind_eq_some_iff.mp e
    obtain ⟨ns, h3, h4⟩ := Option.bind_eq_some_iff.mp h2
    split at h4
    · cases h4
    · rename_i hne
      cases h4
      obtain ⟨x, rfl, rx⟩ := r.one
      obtain ⟨a, ys, rfl, h5, h6⟩ := lstS_ok fh c rx h1
      have e1 := asInts_ok h6 h3
      subst e1
      have ne : ns ≠ [] := fun z => by subst z; exact hne rfl
      obtain ⟨m1, m2⟩ := maxI_mem ns ne
      refine .inr ⟨a, ns, rfl, h5, List.length_pos_iff.mpr ne, fun m k1 k2 => ?_⟩
      have : m = maxI ns := by have := m2 m k1; have := k2 _ m1; omega
      rw [this]
      exact q _ F H (.refl fh) (.int _)
  · obtain ⟨es, h1, h2⟩ := Option.bind_eq_some_iff.mp e
    obtain ⟨ns, h3, h4⟩ := Option.bind_eq_some_iff.mp h2
    split at h4
    · cases h4
    · rename_i hne
      cases h4
      obtain ⟨x, rfl, rx⟩ := r.one
      obtain ⟨a, ys, rfl, h5, h6⟩ := lstS_ok fh c rx h1
      have e1 := asInts_ok h6 h3
      subst e1
      have ne : ns ≠ [] := fun z => by subst z; exact hne rfl
      obtain ⟨m1, m2⟩ := minI_mem ns ne
      refine .inr ⟨a, ns, rfl, h5, List.length_pos_iff.mpr ne, fun m k1 k2 => ?_⟩
      have : m = minI ns := by have := m2 m k1; have := k2 _ m1; omega
      rw [this]
      exact q _ F H (.refl fh) (.int _)
  · obtain ⟨es, h1, h2⟩ := Option.bind_eq_some_iff.mp e
    obtain ⟨ns, h3, h4⟩ := Option.map_eq_some_iff.mp h2
    subst h4
    obtain ⟨x, rfl, rx⟩ := r.one
    obtain ⟨a, ys, rfl, h5, h6⟩ := lstS_ok fh c rx h1
    have e1 := asInts_ok h6 h3
    subst e1
    exact ⟨a, ns, rfl, h5, q _ F H (.refl fh) (.int _)⟩
  · rename_i d0
    obtain ⟨es, h1, h2⟩ := Option.map_eq_some_iff.mp e
    subst h2
    obtain ⟨x, rfl, rx⟩ := r.one
    cases rx with
    | tup r1 r2 => cases h1; exact ⟨_, _, rfl, .inr ⟨same_t fh r1, q _ F H (.refl fh) (.tup r1 r2)⟩⟩
    | lst r1 r2 => cases h1; exact ⟨_, _, rfl, .inl ⟨.inl (.inl (fh _ _ r1)), new_tup fh r2 q⟩⟩
    | scr r1 r2 => cases h1; exact ⟨_, _, rfl, .inl ⟨fh.seq r1, new_tup fh r2 q⟩⟩
    | mr h =>
      obtain ⟨_, zs, k1, k2⟩ := c.at_ _ _ _ h h1
      exact ⟨_, _, rfl, .inl ⟨.inl (.inl k1), new_tup fh k2 q⟩⟩
    | _ => cases h1
  · obtain ⟨es, h1, h2⟩ := Option.map_eq_some_iff.mp e
    subst h2
    obtain ⟨x, rfl, rx⟩ := r.one
    obtain ⟨a, ys, rfl, h3, h4, _⟩ := itsS_ok fh c rx h1
    exact ⟨a, ys, rfl, h3, new_lst fh h4 q⟩
  · cases e
    obtain ⟨x, rfl, rx⟩ := r.one
    cases rx
    exact .inl ⟨_, rfl, q _ F H (.refl fh) (.int _)⟩
  · cases e
    obtain ⟨x, rfl, rx⟩ := r.one
    cases rx
    exact .inr ⟨_, rfl, q _ F H (.refl fh) (.int _)⟩
  · cases e
/-! ### isinstance -/
def tyN : Ty → String
  | .int => "int" | .bool => "bool" | .str => "str" | .tup => "tuple" | .lst => "list"
def tyS : Ty → Str
  | .int => "int" | .bool => "bool" | .str => "str" | .tup => "tuple" | .lst => "list"
def dN : D → String
  | .non => "NoneType" | .bl _ => "bool" | .int _ => "int" | .str _ => "str" | .tup _ => "tuple" | _ => "list"
theorem tyX_ok (fh : Same F H) {x : V} {d : D} (r : Dr K F ρ x d) (h : isiS d .int ≠ none) : TyX K H x (.type (dN d)) := by
  cases r with
  | non => exact .base .non
  | bl b => exact .base (.bl b)
  | int i => exact .base (.int i)
  | str s => exact .base (.str s)
  | tup r1 r2 =>
    rcases r1 with (r1 | ⟨o, r1⟩) | ⟨o, its, n, h1, h2, _⟩
    · exact .base (.tup (fh _ _ r1))
    · exact .fTuple (fh _ _ r1)
    · exact .kTuple h1 h2
  | lst r1 r2 => exact .base (.lst (fh _ _ r1))
  | _ => exact absurd rfl h
theorem kit_ok (d : D) (t : Ty) (b : Bool) (h : isiS d t = some b) : kitB (dN d) (tyN t) = some b := by
  cases d <;> cases t <;> first
    | (cases h; dsimp only [dN, tyN]; decide +kernel)
    | cases h
theorem isiS_ok (fh : Same F H) {x : V} {d : D} {t : Ty} {b : Bool} {Q : VK} (r : Dr K F ρ x d) (e : isiS d t = some b) (q : Q (.bl b) H) : rIsi K [x, .ty (tyN t)] H Q := by
  refine ⟨x, _, .type (dN d), .type (tyN t), b, rfl, .ty _, tyX_ok fh r ?_, kit_ty (kit_ok d t b e), q⟩
  cases d <;> cases t <;> first | (cases e; exact fun z => nomatch z) | cases e
end
end Py
end
section
set_option Elab.async false
set_option linter.all false
set_option maxRecDepth 100000
namespace Py
open PySem L2
/-! ### which text a syntax stands for -/
structure MC where
  N : List Str
  fns : List Str
  gls : List Str
def visB (sc : Scope) (x : Str) : Bool := match sc.names.lookup x with
  | some .local => true | some .cell => true | some .free => true | _ => false
def locB (sc : Scope) (x : Str) : Bool := match sc.names.lookup x with
  | some .local => true | some .cell => true | _ => false
def gloB (sc : Scope) (x : Str) : Bool := match sc.names.lookup x with
  | some .globalImplicit => true | _ => false
def okName (x : Str) : Bool := !(x == ("__debug__" : Str)) && !(x == ("__classdict__" : Str))
mutual
def mT (C : MC) (sc : Scope) : T → Expr → Bool
  | .nm i, .Name x _ => decide (C.N[i]? = some x) && locB sc x
  | .tp ts, .Tuple es _ _ => mTs C sc ts es
  | _, _ => false
def mTs (C : MC) (sc : Scope) : List T → List Expr → Bool
  | [], [] => true
  | t :: ts, e :: es => mT C sc t e && mTs C sc ts es
  | _, _ => false
end
def sliceB : Expr → Bool
  | .Slice .. => true | _ => false
def isTup : Expr → Bool
  | .Tuple .. => true | _ => false
mutual
def mE (C : MC) (sc : Scope) : E → Expr → Bool
  | .slot i, .Name x _ => decide (C.N[i]? = some x) && visB sc x && okName x
  | .glob g, .Name x _ => decide (C.gls[g]? = some x) && gloB sc x && okName x
  | .int i, .Constant (.int j) _ _ => decide (i = j)
  | .bl i, .Constant (.bool j) _ _ => decide (i = j)
  | .non, .Constant .none _ _ => true
  | .str i, .Constant (.str j) _ _ => decide (i = j)
  | .bin op a b, .BinOp x op' y _ => decide (op = op') && mE C sc a x && mE C sc b y
  | .neg a, .UnaryOp .USub x _ => mE C sc a x
  | .cmp op a b, .Compare x [op'] [y] _ => decide (op = op') && !decide (op = .In) && !decide (op = .NotIn) && mE C sc a x && mE C sc b y
  | .isN a, .Compare x [.Is] [.Constant .none _ _] _ => mE C sc a x
  | .notN a, .Compare x [.IsNot] [.Constant .none _ _] _ => mE C sc a x
  | .not a, .UnaryOp .Not x _ => mE C sc a x
  | .and a r, .BoolOp .And (x :: xs) _ => mE C sc a x && mEs C sc r xs
  | .or a r, .BoolOp .Or (x :: xs) _ => mE C sc a x && mEs C sc r xs
  | .ite c a b, .IfExp z x y _ => mE C sc c z && mE C sc a x && mE C sc b y
  | .tup es, .Tuple xs _ _ => mEs C sc es xs
  | .lst es, .List xs _ => mEs C sc es xs
  | .mlst es, .List xs _ => mEs C sc es xs
  | .ix a b, .Subscript x y _ => mE C sc a x && mE C sc b y
  | .slc a lo hi, .Subscript x (.Slice l h none _) _ => mE C sc a x && mEo C sc lo l && mEo C sc hi h
  | .call f e es, .Call (.Name x _) (y :: ys) [] _ => decide (C.fns[f]? = some x) && gloB sc x && okName x && mE C sc e y && mEs C sc es ys
  | .bi b e es, .Call (.Name x _) (y :: ys) [] _ => decide (x = biName b) && gloB sc x && mE C sc e y && mEs C sc es ys
  | .isi e t, .Call (.Name x _) [y, .Name z _] [] _ => decide (x = ("isinstance" : Str)) && gloB sc x && mE C sc e y && decide (z = tyS t) && gloB sc z
  | .lc e t it c vs, .ListComp x [⟨tg, iter, ifs, a⟩] scope _ => decide (a = 0) && blkC C.N sc scope (vs.map fun i => (C.N.getD i "", i)) && (tgS t).all (fun i => vs.contains i) && mI C sc it iter (isTup tg) && mT C scope t tg && mEc C scope c ifs && mE C scope e x
  | .bor _ e, x => mE C sc e x
  | _, _ => false
def mEs (C : MC) (sc : Scope) : Es → List Expr → Bool
  | .nil, [] => true
  | .cons e es, x :: xs => mE C sc e x && mEs C sc es xs
  | _, _ => false
def mEo (C : MC) (sc : Scope) : Eo → Option Expr → Bool
  | .none, none => true
  | .some e, some x => mE C sc e x
  | _, _ => false
def mEc (C : MC) (sc : Scope) : Eo → List Expr → Bool
  | .none, [] => true
  | .some e, [x] => mE C sc e x
  | _, _ => false
def mI (C : MC) (sc : Scope) : I → Expr → Bool → Bool
  | .seq e, x, _ => mE C sc e x
  | .rng1 e, .Call (.Name f _) [x] [] _, _ => decide (f = ("range" : Str)) && gloB sc f && mE C sc e x
  | .rng2 a b, .Call (.Name f _) [x, y] [] _, _ => decide (f = ("range" : Str)) && gloB sc f && mE C sc a x && mE C sc b y
  | .zip a b, .Call (.Name f _) [x, y] [] _, k => k && decide (f = ("zip" : Str)) && gloB sc f && mE C sc a x && mE C sc b y
  | .enum a, .Call (.Name f _) [x] [] _, k => k && decide (f = ("enumerate" : Str)) && gloB sc f && mE C sc a x
  | _, _, _ => false
end
theorem mE_nostar {C : MC} {sc : Scope} : ∀ {m : E} {e : Expr}, mE C sc m e = true → (∀ v p, e ≠ .Starred v p) ∧ sliceB e = false := by
  intro m
  induction m using E.rec (motive_2 := fun _ => True) (motive_3 := fun _ => True) (motive_4 := fun _ => True) with
  | bor i e ih => intro x h; rw [mE] at h; exact ih h
  | nil => trivial
  | cons => trivial
  | none => trivial
  | some => trivial
  | seq => trivial
  | rng1 => trivial
  | rng2 => trivial
  | zip => trivial
  | enum => trivial
  | _ =>
    intro x h
    refine ⟨?_, ?_⟩
    · intro v p z
      subst z
      rw [mE] at h <;> first | cases h | (intros; contradiction)
    · cases x <;> first | rfl | (exfalso; rw [mE] at h <;> first | cases h | (intros; contradiction))
end Py
end
section
set_option Elab.async false
set_option linter.all false
set_option maxRecDepth 100000
namespace Py
open PySem L2
theorem mE_slot {C : MC} {sc : Scope} {e : Expr} {i : Nat} (h : mE C sc (.slot i) e = true) : ∃ x p, e = .Name x p ∧ (C.N[i]? = some x ∧ visB sc x = true) ∧ okName x = true := by
  unfold mE at h
  split at h <;> first | contradiction | skip
  rename_i q; cases q
  try simp only [Bool.and_eq_true, decide_eq_true_eq, Bool.not_eq_true'] at h
  exact ⟨_, _, rfl, h⟩
theorem mE_glob {C : MC} {sc : Scope} {e : Expr} {i : Nat} (h : mE C sc (.glob i) e = true) : ∃ x p, e = .Name x p ∧ (C.gls[i]? = some x ∧ gloB sc x = true) ∧ okName x = true := by
  unfold mE at h
  split at h <;> first | contradiction | skip
  rename_i q; cases q
  try simp only [Bool.and_eq_true, decide_eq_true_eq, Bool.not_eq_true'] at h
  exact ⟨_, _, rfl, h⟩
theorem mE_int {C : MC} {sc : Scope} {e : Expr} {i : Int} (h : mE C sc (.int i) e = true) : ∃ j k p, e = .Constant (.int j) k p ∧ i = j := by
  unfold mE at h
  split at h <;> first | contradiction | skip
  rename_i q; cases q
  try simp only [Bool.and_eq_true, decide_eq_true_eq, Bool.not_eq_true'] at h
  exact ⟨_, _, _, rfl, h⟩
theorem mE_bl {C : MC} {sc : Scope} {e : Expr} {i : Bool} (h : mE C sc (.bl i) e = true) : ∃ j k p, e = .Constant (.bool j) k p ∧ i = j := by
  unfold mE at h
  split at h <;> first | contradiction | skip
  rename_i q; cases q
  try simp only [Bool.and_eq_true, decide_eq_true_eq, Bool.not_eq_true'] at h
  exact ⟨_, _, _, rfl, h⟩
theorem mE_str {C : MC} {sc : Scope} {e : Expr} {i : Str} (h : mE C sc (.str i) e = true) : ∃ j k p, e = .Constant (.str j) k p ∧ i = j := by
  unfold mE at h
  split at h <;> first | contradiction | skip
  rename_i q; cases q
  try simp only [Bool.and_eq_true, decide_eq_true_eq, Bool.not_eq_true'] at h
  exact ⟨_, _, _, rfl, h⟩
theorem mE_bin {C : MC} {sc : Scope} {e : Expr} {op : Operator} {a b : E} (h : mE C sc (.bin op a b) e = true) : ∃ x o y p, e = .BinOp x o y p ∧ (op = o ∧ mE C sc a x = true) ∧ mE C sc b y = true := by
  unfold mE at h
  split at h <;> first | contradiction | skip
  rename_i q; cases q
  try simp only [Bool.and_eq_true, decide_eq_true_eq, Bool.not_eq_true'] at h
  exact ⟨_, _, _, _, rfl, h⟩
theorem mE_neg {C : MC} {sc : Scope} {e : Expr} {a : E} (h : mE C sc (.neg a) e = true) : ∃ x p, e = .UnaryOp .USub x p ∧ mE C sc a x = true := by
  unfold mE at h
  split at h <;> first | contradiction | skip
  rename_i q; cases q
  try simp only [Bool.and_eq_true, decide_eq_true_eq, Bool.not_eq_true'] at h
  exact ⟨_, _, rfl, h⟩
theorem mE_not {C : MC} {sc : Scope} {e : Expr} {a : E} (h : mE C sc (.not a) e = true) : ∃ x p, e = .UnaryOp .Not x p ∧ mE C sc a x = true := by
  unfold mE at h
  split at h <;> first | contradiction | skip
  rename_i q; cases q
  try simp only [Bool.and_eq_true, decide_eq_true_eq, Bool.not_eq_true'] at h
  exact ⟨_, _, rfl, h⟩
theorem mE_cmp {C : MC} {sc : Scope} {e : Expr} {op : CmpOp} {a b : E} (h : mE C sc (.cmp op a b) e = true) : ∃ x o y p, e = .Compare x [o] [y] p ∧ (((op = o ∧ decide (op = .In) = false) ∧ decide (op = .NotIn) = false) ∧ mE C sc a x = true) ∧ mE C sc b y = true := by
  unfold mE at h
  split at h <;> first | contradiction | skip
  rename_i q; cases q
  try simp only [Bool.and_eq_true, decide_eq_true_eq, Bool.not_eq_true'] at h
  exact ⟨_, _, _, _, rfl, h⟩
theorem mE_isN {C : MC} {sc : Scope} {e : Expr} {a : E} (h : mE C sc (.isN a) e = true) : ∃ x k p2 p, e = .Compare x [.Is] [.Constant .none k p2] p ∧ mE C sc a x = true := by
  unfold mE at h
  split at h <;> first | contradiction | skip
  rename_i q; cases q
  try simp only [Bool.and_eq_true, decide_eq_true_eq, Bool.not_eq_true'] at h
  exact ⟨_, _, _, _, rfl, h⟩
theorem mE_notN {C : MC} {sc : Scope} {e : Expr} {a : E} (h : mE C sc (.notN a) e = true) : ∃ x k p2 p, e = .Compare x [.IsNot] [.Constant .none k p2] p ∧ mE C sc a x = true := by
  unfold mE at h
  split at h <;> first | contradiction | skip
  rename_i q; cases q
  try simp only [Bool.and_eq_true, decide_eq_true_eq, Bool.not_eq_true'] at h
  exact ⟨_, _, _, _, rfl, h⟩
theorem mE_and {C : MC} {sc : Scope} {e : Expr} {a : E} {r : Es} (h : mE C sc (.and a r) e = true) : ∃ x xs p, e = .BoolOp .And (x :: xs) p ∧ mE C sc a x = true ∧ mEs C sc r xs = true := by
  unfold mE at h
  split at h <;> first | contradiction | skip
  rename_i q; cases q
  try simp only [Bool.and_eq_true, decide_eq_true_eq, Bool.not_eq_true'] at h
  exact ⟨_, _, _, rfl, h⟩
theorem mE_or {C : MC} {sc : Scope} {e : Expr} {a : E} {r : Es} (h : mE C sc (.or a r) e = true) : ∃ x xs p, e = .BoolOp .Or (x :: xs) p ∧ mE C sc a x = true ∧ mEs C sc r xs = true := by
  unfold mE at h
  split at h <;> first | contradiction | skip
  rename_i q; cases q
  try simp only [Bool.and_eq_true, decide_eq_true_eq, Bool.not_eq_true'] at h
  exact ⟨_, _, _, rfl, h⟩
theorem mE_ite {C : MC} {sc : Scope} {e : Expr} {c a b : E} (h : mE C sc (.ite c a b) e = true) : ∃ z x y p, e = .IfExp z x y p ∧ (mE C sc c z = true ∧ mE C sc a x = true) ∧ mE C sc b y = true := by
  unfold mE at h
  split at h <;> first | contradiction | skip
  rename_i q; cases q
  try simp only [Bool.and_eq_true, decide_eq_true_eq, Bool.not_eq_true'] at h
  exact ⟨_, _, _, _, rfl, h⟩
theorem mE_tup {C : MC} {sc : Scope} {e : Expr} {es : Es} (h : mE C sc (.tup es) e = true) : ∃ xs k p, e = .Tuple xs k p ∧ mEs C sc es xs = true := by
  unfold mE at h
  split at h <;> first | contradiction | skip
  rename_i q; cases q
  try simp only [Bool.and_eq_true, decide_eq_true_eq, Bool.not_eq_true'] at h
  exact ⟨_, _, _, rfl, h⟩
theorem mE_lst {C : MC} {sc : Scope} {e : Expr} {es : Es} (h : mE C sc (.lst es) e = true) : ∃ xs p, e = .List xs p ∧ mEs C sc es xs = true := by
  unfold mE at h
  split at h <;> first | contradiction | skip
  rename_i q; cases q
  try simp only [Bool.and_eq_true, decide_eq_true_eq, Bool.not_eq_true'] at h
  exact ⟨_, _, rfl, h⟩
theorem mE_mlst {C : MC} {sc : Scope} {e : Expr} {es : Es} (h : mE C sc (.mlst es) e = true) : ∃ xs p, e = .List xs p ∧ mEs C sc es xs = true := by
  unfold mE at h
  split at h <;> first | contradiction | skip
  rename_i q; cases q
  try simp only [Bool.and_eq_true, decide_eq_true_eq, Bool.not_eq_true'] at h
  exact ⟨_, _, rfl, h⟩
theorem mE_ix {C : MC} {sc : Scope} {e : Expr} {a b : E} (h : mE C sc (.ix a b) e = true) : ∃ x y p, e = .Subscript x y p ∧ mE C sc a x = true ∧ mE C sc b y = true := by
  unfold mE at h
  split at h <;> first | contradiction | skip
  rename_i q; cases q
  try simp only [Bool.and_eq_true, decide_eq_true_eq, Bool.not_eq_true'] at h
  exact ⟨_, _, _, rfl, h⟩
theorem mE_slc {C : MC} {sc : Scope} {e : Expr} {a : E} {lo hi : Eo} (h : mE C sc (.slc a lo hi) e = true) : ∃ x l u p2 p, e = .Subscript x (.Slice l u none p2) p ∧ (mE C sc a x = true ∧ mEo C sc lo l = true) ∧ mEo C sc hi u = true := by
  unfold mE at h
  split at h <;> first | contradiction | skip
  rename_i q; cases q
  try simp only [Bool.and_eq_true, decide_eq_true_eq, Bool.not_eq_true'] at h
  exact ⟨_, _, _, _, _, rfl, h⟩
theorem mE_call {C : MC} {sc : Scope} {e : Expr} {f : Nat} {a : E} {es : Es} (h : mE C sc (.call f a es) e = true) : ∃ x p2 y ys p, e = .Call (.Name x p2) (y :: ys) [] p ∧ (((C.fns[f]? = some x ∧ gloB sc x = true) ∧ okName x = true) ∧ mE C sc a y = true) ∧ mEs C sc es ys = true := by
  unfold mE at h
  split at h <;> first | contradiction | skip
  rename_i q; cases q
  try simp only [Bool.and_eq_true, decide_eq_true_eq, Bool.not_eq_true'] at h
  exact ⟨_, _, _, _, _, rfl, h⟩
theorem mE_bi {C : MC} {sc : Scope} {e : Expr} {b : Bi} {a : E} {es : Es} (h : mE C sc (.bi b a es) e = true) : ∃ x p2 y ys p, e = .Call (.Name x p2) (y :: ys) [] p ∧ ((x = biName b ∧ gloB sc x = true) ∧ mE C sc a y = true) ∧ mEs C sc es ys = true := by
  unfold mE at h
  split at h <;> first | contradiction | skip
  rename_i q; cases q
  try simp only [Bool.and_eq_true, decide_eq_true_eq, Bool.not_eq_true'] at h
  exact ⟨_, _, _, _, _, rfl, h⟩
theorem mE_isi {C : MC} {sc : Scope} {e : Expr} {a : E} {t : Ty} (h : mE C sc (.isi a t) e = true) : ∃ x p2 y z p3 p, e = .Call (.Name x p2) [y, .Name z p3] [] p ∧ (((x = ("isinstance" : Str) ∧ gloB sc x = true) ∧ mE C sc a y = true) ∧ z = tyS t) ∧ gloB sc z = true := by
  unfold mE at h
  split at h <;> first | contradiction | skip
  rename_i q; cases q
  try simp only [Bool.and_eq_true, decide_eq_true_eq, Bool.not_eq_true'] at h
  exact ⟨_, _, _, _, _, _, rfl, h⟩
theorem mE_lc {C : MC} {sc : Scope} {e : Expr} {a : E} {t : T} {it : I} {c : Eo} {vs : List Nat} (h : mE C sc (.lc a t it c vs) e = true) : ∃ x tg iter ifs n scope p, e = .ListComp x [⟨tg, iter, ifs, n⟩] scope p ∧ ((((((n = 0 ∧ blkC C.N sc scope (vs.map fun i => (C.N.getD i "", i)) = true) ∧ (tgS t).all (fun i => vs.contains i) = true) ∧ mI C sc it iter (isTup tg) = true) ∧ mT C scope t tg = true) ∧ mEc C scope c ifs = true) ∧ mE C scope a x = true) := by
  unfold mE at h
  split at h <;> first | contradiction | skip
  rename_i q; cases q
  try simp only [Bool.and_eq_true, decide_eq_true_eq, Bool.not_eq_true'] at h
  exact ⟨_, _, _, _, _, _, _, rfl, h⟩
theorem mEs_cons {C : MC} {sc : Scope} {l : List Expr}  {a : E} {es : Es} (h : mEs C sc (.cons a es) l = true) : ∃ y ys, l = y :: ys ∧ mE C sc a y = true ∧ mEs C sc es ys = true := by
  unfold mEs at h
  split at h <;> first | contradiction | skip
  rename_i q; cases q
  try simp only [Bool.and_eq_true, decide_eq_true_eq] at h
  exact ⟨_, _, rfl, h⟩
theorem mEo_some {C : MC} {sc : Scope} {l : Option Expr}  {a : E} (h : mEo C sc (.some a) l = true) : ∃ y, l = some y ∧ mE C sc a y = true := by
  unfold mEo at h
  split at h <;> first | contradiction | skip
  rename_i q; cases q
  try simp only [Bool.and_eq_true, decide_eq_true_eq] at h
  exact ⟨_, rfl, h⟩
theorem mEc_some {C : MC} {sc : Scope} {l : List Expr}  {a : E} (h : mEc C sc (.some a) l = true) : ∃ y, l = [y] ∧ mE C sc a y = true := by
  unfold mEc at h
  split at h <;> first | contradiction | skip
  rename_i q; cases q
  try simp only [Bool.and_eq_true, decide_eq_true_eq] at h
  exact ⟨_, rfl, h⟩
theorem mI_rng1 {C : MC} {sc : Scope} {l : Expr} {k : Bool} {a : E} (h : mI C sc (.rng1 a) l k = true) : ∃ f p2 y p, l = .Call (.Name f p2) [y] [] p ∧ (f = ("range" : Str) ∧ gloB sc f = true) ∧ mE C sc a y = true := by
  unfold mI at h
  split at h <;> first | contradiction | skip
  rename_i q; cases q
  try simp only [Bool.and_eq_true, decide_eq_true_eq] at h
  exact ⟨_, _, _, _, rfl, h⟩
theorem mI_rng2 {C : MC} {sc : Scope} {l : Expr} {k : Bool} {a b : E} (h : mI C sc (.rng2 a b) l k = true) : ∃ f p2 y z p, l = .Call (.Name f p2) [y, z] [] p ∧ ((f = ("range" : Str) ∧ gloB sc f = true) ∧ mE C sc a y = true) ∧ mE C sc b z = true := by
  unfold mI at h
  split at h <;> first | contradiction | skip
  rename_i q; cases q
  try simp only [Bool.and_eq_true, decide_eq_true_eq] at h
  exact ⟨_, _, _, _, _, rfl, h⟩
theorem mI_zip {C : MC} {sc : Scope} {l : Expr} {k : Bool} {a b : E} (h : mI C sc (.zip a b) l k = true) : ∃ f p2 y z p, l = .Call (.Name f p2) [y, z] [] p ∧ (((k = true ∧ f = ("zip" : Str)) ∧ gloB sc f = true) ∧ mE C sc a y = true) ∧ mE C sc b z = true := by
  unfold mI at h
  split at h <;> first | contradiction | skip
  rename_i q; cases q
  try simp only [Bool.and_eq_true, decide_eq_true_eq] at h
  exact ⟨_, _, _, _, _, rfl, h⟩
theorem mI_enum {C : MC} {sc : Scope} {l : Expr} {k : Bool} {a : E} (h : mI C sc (.enum a) l k = true) : ∃ f p2 y p, l = .Call (.Name f p2) [y] [] p ∧ ((k = true ∧ f = ("enumerate" : Str)) ∧ gloB sc f = true) ∧ mE C sc a y = true := by
  unfold mI at h
  split at h <;> first | contradiction | skip
  rename_i q; cases q
  try simp only [Bool.and_eq_true, decide_eq_true_eq] at h
  exact ⟨_, _, _, _, rfl, h⟩
theorem mI_seq {C : MC} {sc : Scope} {l : Expr} {k : Bool} {a : E} (h : mI C sc (.seq a) l k = true) : mE C sc a l = true := by
  rw [mI] at h; exact h
theorem mE_non {C : MC} {sc : Scope} {e : Expr} (h : mE C sc .non e = true) : ∃ k p, e = .Constant .none k p := by
  unfold mE at h
  split at h <;> first | contradiction | skip
  exact ⟨_, _, rfl⟩
theorem mEs_nil {C : MC} {sc : Scope} {l : List Expr} (h : mEs C sc .nil l = true) : l = [] := by
  unfold mEs at h
  split at h <;> first | contradiction | rfl
theorem mEo_none {C : MC} {sc : Scope} {l : Option Expr} (h : mEo C sc .none l = true) : l = none := by
  unfold mEo at h
  split at h <;> first | contradiction | rfl
theorem mEc_none {C : MC} {sc : Scope} {l : List Expr} (h : mEc C sc .none l = true) : l = [] := by
  unfold mEc at h
  split at h <;> first | contradiction | rfl
theorem mE_bor {C : MC} {sc : Scope} {e : Expr} {i : Nat} {a : E} (h : mE C sc (.bor i a) e = true) : mE C sc a e = true := by
  rw [mE] at h; exact h
end Py
end
section
set_option Elab.async false
set_option linter.all false
set_option maxRecDepth 100000
namespace Py
open PySem L2
abbrev FnS : Type := Nat → List D → Store → Option (D × Store)
abbrev GlS : Type := Nat → Option D
/-- what a def promises, by its function on data -/
def spF (K : PySem.W.Frag) (φ : List D → Store → Option (D × Store)) : Sp := fun vs H Q _ => ∃ F ρ μ ds d μ', Same F H ∧ Cells K F H ρ μ ∧ DrL K F ρ vs ds ∧ φ ds μ = some (d, μ') ∧
  ∀ v F' H' ρ', Ext F H ρ F' H' ρ' → Same F' H' → Cells K F' H' ρ' μ' → Dr K F' ρ' v d → Q v H'
def biAll : List Str := ["len", "abs", "max", "min", "sum", "tuple", "list", "int", "range", "zip", "enumerate", "isinstance", "bool", "str"]
/-- where the text is served -/
structure CG (C : MC) (Φ : FnS) (Γ : GlS) (k : Nat) (X : Cx) (sc : Scope) : Prop where
  hN : X.N = C.N
  nd : X.N.Nodup
  calm : X.calm = true
  room : Room k X.A
  loc : ∀ x, sc.names.lookup x = some .local → X.env.scope.names.lookup x = some .local
  cel : ∀ x, sc.names.lookup x = some .cell → X.env.scope.names.lookup x = some .cell
  fre : ∀ x, sc.names.lookup x = some .free → X.env.scope.names.lookup x = some .cell ∨ X.env.scope.names.lookup x = some .free
  glo : ∀ x, sc.names.lookup x = some .globalImplicit → X.env.scope.names.lookup x = some .globalImplicit
  kind : X.env.scope.kind = .function
  cfn : ∀ x, sc.names.lookup x = some .cell → X.fn x = true
  fns : ∀ f x, C.fns[f]? = some x → ∃ fa fd ps, X.mg x = some (.ref fa) ∧ PySem.W.keepIn X.K (.ref fa) = true ∧ FnOk X.prog X.w X.K X.mg X.base CX0 k fa fd ps (spF X.K (Φ f)) ∧ Binds X.K fd ps []
  gls : ∀ g x d, C.gls[g]? = some x → Γ g = some d → ∃ v u, X.mg x = some u ∧ RelV v u ∧ ∀ F ρ, Dr X.K F ρ v d
  bis : ∀ x ∈ biAll, X.mg x = none
section
variable {C : MC} {Φ : FnS} {Γ : GlS} {k : Nat} {X : Cx} {sc : Scope}
theorem CG.vis (G : CG C Φ Γ k X sc) {x : Str} (h : visB sc x = true) : Vis X.env.scope x := by
  unfold visB at h
  split at h
  · exact .inl (G.loc _ ‹_›)
  · exact .inr (.inl (G.cel _ ‹_›))
  · exact .inr (G.fre _ ‹_›)
  · cases h
theorem CG.locv (G : CG C Φ Γ k X sc) {x : Str} (h : locB sc x = true) : Loc X.env.scope x ∧ (X.fn x = true ∨ X.env.scope.names.lookup x = some .local) := by
  unfold locB at h
  split at h
  · exact ⟨.inl (G.loc _ ‹_›), .inr (G.loc _ ‹_›)⟩
  · exact ⟨.inr (G.cel _ ‹_›), .inl (G.cfn _ ‹_›)⟩
  · cases h
theorem CG.gl (G : CG C Φ Γ k X sc) {x : Str} (h : gloB sc x = true) : Gl X x := by
  unfold gloB at h
  split at h
  · exact G.glo _ ‹_›
  · cases h
theorem CG.bi (G : CG C Φ Γ k X sc) {x : Str} (h : x ∈ biAll) : X.mg x = none := G.bis x h
theorem okName_1 {x : Str} (h : okName x = true) : (x == ("__debug__" : Str)) = false := by
  unfold okName at h
  simp only [Bool.and_eq_true, Bool.not_eq_true'] at h
  exact h.1
theorem okName_2 {x : Str} (h : okName x = true) : (x == ("__classdict__" : Str)) = false := by
  unfold okName at h
  simp only [Bool.and_eq_true, Bool.not_eq_true'] at h
  exact h.2
theorem lookup_free {sc : Scope} : ∀ {names : List (Str × NameKind)} {x : Str}, names.lookup x = some .free →
    (names.map fun (n, k) => if (k == NameKind.free && sc.kind == .function && sc.names.lookup n == some .cell) then (n, NameKind.cell) else (n, k)).lookup x = some .cell ∨
    (names.map fun (n, k) => if (k == NameKind.free && sc.kind == .function && sc.names.lookup n == some .cell) then (n, NameKind.cell) else (n, k)).lookup x = some .free
  | [], _, h => by simp at h
  | (n, k₀) :: r, x, h => by
    have ih := @lookup_free sc r x
    show List.lookup x ((if (k₀ == NameKind.free && sc.kind == .function && sc.names.lookup n == some .cell) = true then (n, NameKind.cell) else (n, k₀)) :: (r.map _)) = some _ ∨ List.lookup x ((if (k₀ == NameKind.free && sc.kind == .function && sc.names.lookup n == some .cell) = true then (n, NameKind.cell) else (n, k₀)) :: (r.map _)) = some _
    cases hx : x == n with
    | true =>
      simp only [List.lookup_cons, hx] at h
      cases h
      by_cases hc : (NameKind.free == NameKind.free && sc.kind == .function && sc.names.lookup n == some .cell) = true
      · rw [if_pos hc]; left; simp only [List.lookup_cons, hx]
      · rw [if_neg hc]; right; simp only [List.lookup_cons, hx]
    | false =>
      simp only [List.lookup_cons, hx] at h
      by_cases hc : (k₀ == NameKind.free && sc.kind == .function && sc.names.lookup n == some .cell) = true
      · rw [if_pos hc]; simp only [List.lookup_cons, hx]; exact ih h
      · rw [if_neg hc]; simp only [List.lookup_cons, hx]; exact ih h
theorem CG.blk (G : CG C Φ Γ k X sc) {scope : Scope} (hk : scope.kind = .function) (s : Shared) (H : Hp) (Cc : Addr) (cl : List (Str × Addr)) (fp : List Addr) : CG C Φ Γ k (X.blk s H scope (compEnvC scope cl Cc X.env) fp) scope where
  hN := G.hN
  nd := G.nd
  calm := G.calm
  room := G.room
  loc := fun x h => lookup_relS_keep (by decide) h
  cel := fun x h => lookup_relS_keep (by decide) h
  fre := fun x h => lookup_free h
  glo := fun x h => lookup_relS_keep (by decide) h
  kind := hk
  cfn := fun x h => by
    show (scope.names.lookup x == some .cell) = true
    rw [h]; rfl
  fns := G.fns
  gls := G.gls
  bis := G.bis
theorem CG.blkOk (G : CG C Φ Γ k X sc) {scope : Scope} {own : List (Str × Nat)} (h : blkC C.N sc scope own = true) : BlkOk X.N X.env.scope scope own := by
  have b := blkOk_by h
  refine ⟨b.kind, b.uniq, by rw [G.hN]; exact b.ix, fun y hy e => ?_, by rw [G.hN]; exact b.own⟩
  rcases b.free y hy e with q | q
  · exact .inl (G.cel _ q)
  · exact G.fre _ q
end
/-! ### readings by data -/
def RE {α β : Type} (rel : Hp → List Addr → α → β → Prop) (K : PySem.W.Frag) (f : Env → Store → Option (β × Store)) (σ : L2.St) (H : Hp) (Q : α → Hp → Prop) : Prop :=
  ∃ B F ρ env μ d μ', SR K B F H ρ σ env μ ∧ f env μ = some (d, μ') ∧ ∀ v F' H' ρ', Ext F H ρ F' H' ρ' → Same F' H' → Cells K F' H' ρ' μ' → rel F' ρ' v d → Q v H'
section
variable (K : PySem.W.Frag) (Φ : FnS) (Γ : GlS)
def tE (e : E) : TE := RE (fun F ρ v d => Dr K F ρ v d) K (ev Φ Γ e)
def tT (e : E) : TT := RE (fun _ _ (a b : Bool) => a = b) K (evT Φ Γ e)
def tEs (e : Es) : TA := RE (fun F ρ v d => DrL K F ρ v d) K (evs Φ Γ e)
def tO (e : Eo) : TO := RE (fun _ _ (a b : Option Int) => a = b) K (evo Φ Γ e)
def tC (e : Eo) : TT := RE (fun _ _ (a b : Bool) => a = b) K (evc Φ Γ e)
end
theorem PE.imp {X : Cx} {e : Expr} {t t' : TE} (h : PE X e t) (w : ∀ σ H Q, t' σ H Q → t σ H Q) : PE X e t' := ⟨fun pins s σ H Q I q => h.run pins s σ H Q I (w σ H Q q)⟩
theorem PT.imp {X : Cx} {e : Expr} {t t' : TT} (h : PT X e t) (w : ∀ σ H Q, t' σ H Q → t σ H Q) : PT X e t' := ⟨fun pins s σ H Q I q => h.run pins s σ H Q I (w σ H Q q)⟩
theorem PW.imp {X : Cx} {e : Expr} {t t' : TT} (h : PW X e t) (w : ∀ σ H Q, t' σ H Q → t σ H Q) : PW X e t' := ⟨fun wh pins s σ H Q I q => h.run wh pins s σ H Q I (w σ H Q q)⟩
theorem PA.imp {X : Cx} {e : List Expr} {t t' : TA} (h : PA X e t) (w : ∀ σ H Q, t' σ H Q → t σ H Q) : PA X e t' := ⟨fun pos pins s σ H Q I q => h.run pos pins s σ H Q I (w σ H Q q)⟩
theorem PO.imp {X : Cx} {e : Option Expr} {t t' : TO} (h : PO X e t) (w : ∀ σ H Q, t' σ H Q → t σ H Q) : PO X e t' := ⟨fun pins s σ H Q I q => h.run pins s σ H Q I (w σ H Q q)⟩
theorem PTs.imp {X : Cx} {e : List Expr} {t t' : TT} (h : PTs X e t) (w : ∀ σ H Q, t' σ H Q → t σ H Q) : PTs X e t' := ⟨fun pins s σ H Q I q => h.run pins s σ H Q I (w σ H Q q)⟩
section
variable {K : PySem.W.Frag} {B F H : Hp} {ρ : List Addr} {σ : L2.St} {env : Env} {μ μ1 μ2 : Store}
/-- one part, and what follows -/
theorem RE.go {α β : Type} {rel : Hp → List Addr → α → β → Prop} {f : Env → Store → Option (β × Store)} {x : β} {R : α → Hp → Prop} (S : SR K B F H ρ σ env μ) (h : f env μ = some (x, μ1))
    (k : ∀ v F1 H1 ρ1, Ext F H ρ F1 H1 ρ1 → SR K B F1 H1 ρ1 σ env μ1 → rel F1 ρ1 v x → R v H1) : RE rel K f σ H R :=
  ⟨B, F, ρ, env, μ, x, μ1, S, h, fun v F1 H1 ρ1 e1 s1 c1 r1 => k v F1 H1 ρ1 e1 (S.step e1 s1 c1) r1⟩
end
/-- the end of an operation that lays new things -/
theorem fin_px {K : PySem.W.Frag} {F H F1 H1 : Hp} {ρ ρ1 : List Addr} {μ : Store} {d : D} {Q : VK} (post : ∀ v F' H' ρ', Ext F H ρ F' H' ρ' → Same F' H' → Cells K F' H' ρ' μ → Dr K F' ρ' v d → Q v H')
    (e : Ext F H ρ F1 H1 ρ1) (c : Cells K F1 H1 ρ1 μ) : ∀ v F' H', PX F1 H1 F' H' → Dr K F' ρ1 v d → Q v H' := fun v F' H' p r => post v F' H' ρ1 (e.trans p.ext) p.fh (c.px p) r
end Py
end
section
set_option Elab.async false
set_option linter.all false
set_option maxRecDepth 100000
namespace Py
open PySem L2 RZ
/-! ### what is walked -/
def SrcOk (K : PySem.W.Frag) (F : Hp) (ρ : List Addr) (J : It) (ds : List D) : Prop := ∃ (G : Hp → Prop) (Y : Nat → Hp → V → Hp → Prop), Walk J ds.length G Y ∧ (∀ F1 H, Same F F1 → Same F1 H → G H) ∧
  ∀ i x H H' F1, i < ds.length → Same F F1 → Same F1 H → Y i H x H' → ∃ F2 d, PX F1 H F2 H' ∧ ds[i]? = some d ∧ ∀ ρ1, (∀ (j : Nat) (a : Addr), ρ[j]? = some a → ρ1[j]? = some a) → Dr K F2 ρ1 x d
def tI (K : PySem.W.Frag) (Φ : FnS) (Γ : GlS) (it : I) : TI := RE (fun F ρ J ds => SrcOk K F ρ J ds) K (evI Φ Γ it)
theorem PI.imp {X : Cx} {tg e : Expr} {t t' : TI} (h : PI X tg e t) (w : ∀ σ H Q, t' σ H Q → t σ H Q) : PI X tg e t' := ⟨fun pins s σ H Q I q => h.run pins s σ H Q I (w σ H Q q)⟩
section
variable {K : PySem.W.Frag} {F H : Hp} {ρ : List Addr} {a b : Addr} {xs ys : List V} {ds es : List D}
theorem src_at (r : DrL K F ρ xs ds) {i : Nat} {x : V} {H H' F1 : Hp} (hF : Same F F1) (fh : Same F1 H) (y : YAt xs i H x H') :
    ∃ F2 d, PX F1 H F2 H' ∧ ds[i]? = some d ∧ ∀ ρ1, (∀ (j : Nat) (a : Addr), ρ[j]? = some a → ρ1[j]? = some a) → Dr K F2 ρ1 x d := by
  obtain ⟨rfl, e⟩ := y
  obtain ⟨d, h1, h2⟩ := r.getV e
  exact ⟨F1, d, .refl fh, h1, fun ρ1 hp => Dr.mono hF hp _ _ h2⟩
theorem src_list (h : SqL K F a xs) (r : DrL K F ρ xs ds) : SrcOk K F ρ (Itl K a) ds := by
  refine ⟨fun H => SqL K H a xs, YAt xs, ?_, fun F1 H h1 h2 => h2.seq (h1.seq h), fun i x H H' F1 _ hF fh y => src_at r hF fh y⟩
  rw [← r.length]
  exact walk_list
theorem src_tup (h : SqT K F a xs) (r : DrL K F ρ xs ds) : SrcOk K F ρ (Itt K a) ds := by
  refine ⟨fun H => SqT K H a xs, YAt xs, ?_, fun F1 H h1 h2 => same_t h2 (same_t h1 h), fun i x H H' F1 _ hF fh y => src_at r hF fh y⟩
  rw [← r.length]
  exact walk_tup
theorem src_range {lo : Int} {n : Nat} : SrcOk K F ρ (Itr lo n) (rangeD lo n) := by
  have hl : (rangeD lo n).length = n := by unfold rangeD; simp
  refine ⟨fun _ => True, YFn fun i => .int (lo + i), ?_, fun _ _ _ _ => trivial, fun i x H H' F1 hi hF fh y => ?_⟩
  · rw [hl]; exact walk_range
  · obtain ⟨rfl, rfl⟩ := y
    rw [hl] at hi
    refine ⟨F1, .int (lo + i), .refl fh, ?_, fun _ _ => .int _⟩
    unfold rangeD
    simp [hi]
theorem zipD_len (ds es : List D) : (zipD ds es).length = min ds.length es.length := by unfold zipD; simp
theorem zipD_get {ds es : List D} {i : Nat} {x y : D} (h1 : ds[i]? = some x) (h2 : es[i]? = some y) : (zipD ds es)[i]? = some (.tup [x, y]) := by
  unfold zipD
  rw [List.getElem?_map, (List.getElem?_zip_eq_some (z := (x, y))).mpr ⟨h1, h2⟩]
  rfl
theorem src_pair (r : DrL K F ρ xs ds) (r' : DrL K F ρ ys es) {i : Nat} {x : V} {H H' F1 : Hp} (hF : Same F F1) (fh : Same F1 H) (y : YPair (fun i => xs[i]?) (fun i => ys[i]?) i H x H') :
    ∃ F2 d, PX F1 H F2 H' ∧ (zipD ds es)[i]? = some d ∧ ∀ ρ1, (∀ (j : Nat) (a : Addr), ρ[j]? = some a → ρ1[j]? = some a) → Dr K F2 ρ1 x d := by
  obtain ⟨T, v, w, rfl, h1, rfl, h2, h3⟩ := y
  obtain ⟨d, h4, h5⟩ := r.getV h2
  obtain ⟨e, h6, h7⟩ := r'.getV h3
  have P := PX.new_ (o := .tup [v, w]) fh h1
  refine ⟨_, .tup [d, e], P, zipD_get h4 h6, fun ρ1 hp => .tup (.inl (.inl upd_same)) (.cons ?_ (.cons ?_ .nil))⟩
  · exact Dr.mono (hF.trans P.ff) hp _ _ h5
  · exact Dr.mono (hF.trans P.ff) hp _ _ h7
theorem walk_zipT {n : Nat} (hn : n = min xs.length ys.length) : Walk (ItzT K a b) n (fun H => SqT K H a xs ∧ SqT K H b ys) (YPair (fun i => xs[i]?) (fun i => ys[i]?)) := by
  subst hn
  refine ⟨fun i _ hi q => ?_, fun _ q => ⟨xs, ys, q.1, q.2, by omega⟩, fun i H v H' _ q y => ?_⟩
  · have h1 : i < xs.length := by omega
    have h2 : i < ys.length := by omega
    exact ⟨xs, ys, xs[i], ys[i], q.1, q.2, by simp [h1], by simp [h2]⟩
  · obtain ⟨T, x, z, h1, h2, h3, h4, h5⟩ := y
    exact ⟨T, x, z, h1, h2, h3, h4 xs q.1, h5 ys q.2⟩
theorem src_zipL (h : SqL K F a xs) (h' : SqL K F b ys) (r : DrL K F ρ xs ds) (r' : DrL K F ρ ys es) : SrcOk K F ρ (Itz K a b) (zipD ds es) := by
  refine ⟨fun H => SqL K H a xs ∧ SqL K H b ys, YPair (fun i => xs[i]?) (fun i => ys[i]?), ?_, fun F1 H h1 h2 => ⟨h2.seq (h1.seq h), h2.seq (h1.seq h')⟩, fun i x H H' F1 _ hF fh y => src_pair r r' hF fh y⟩
  exact walk_zip (by rw [zipD_len, r.length, r'.length])
theorem src_zipT (h : SqT K F a xs) (h' : SqT K F b ys) (r : DrL K F ρ xs ds) (r' : DrL K F ρ ys es) : SrcOk K F ρ (ItzT K a b) (zipD ds es) := by
  refine ⟨fun H => SqT K H a xs ∧ SqT K H b ys, YPair (fun i => xs[i]?) (fun i => ys[i]?), ?_, fun F1 H h1 h2 => ⟨same_t h2 (same_t h1 h), same_t h2 (same_t h1 h')⟩, fun i x H H' F1 _ hF fh y => src_pair r r' hF fh y⟩
  exact walk_zipT (by rw [zipD_len, r.length, r'.length])
theorem enumD_len : ∀ (k : Nat) (ds : List D), (enumD k ds).length = ds.length
  | _, [] => rfl
  | k, d :: ds => by show (enumD (k + 1) ds).length + 1 = _; rw [enumD_len]; rfl
theorem enumD_get : ∀ {k : Nat} {ds : List D} {i : Nat} {d : D}, ds[i]? = some d → (enumD k ds)[i]? = some (.tup [.int ((k + i : Nat) : Int), d])
  | k, [], i, _, h => by simp at h
  | k, e :: ds, 0, _, h => by simp at h; subst h; rfl
  | k, e :: ds, i + 1, d, h => by
    have h' : ds[i]? = some d := by simpa using h
    have := enumD_get (k := k + 1) h'
    show (enumD (k + 1) ds)[i]? = _
    rw [this, show k + 1 + i = k + (i + 1) by omega]
theorem src_enum (h : SqL K F a xs) (r : DrL K F ρ xs ds) : SrcOk K F ρ (Ite K a) (enumD 0 ds) := by
  refine ⟨fun H => SqL K H a xs, YPair (fun i => some (.int (i : Nat))) (fun i => xs[i]?), ?_, fun F1 H h1 h2 => h2.seq (h1.seq h), fun i x H H' F1 _ hF fh y => ?_⟩
  · rw [enumD_len, ← r.length]
    exact walk_enum
  · obtain ⟨T, v, w, rfl, h1, rfl, h2, h3⟩ := y
    cases h2
    obtain ⟨e, h6, h7⟩ := r.getV h3
    have P := PX.new_ (o := .tup [.int (i : Nat), w]) fh h1
    refine ⟨_, .tup [.int (i : Nat), e], P, by have := enumD_get (k := 0) h6; rwa [Nat.zero_add] at this, fun ρ1 hp => .tup (.inl (.inl upd_same)) (.cons (.int _) (.cons ?_ .nil))⟩
    exact Dr.mono (hF.trans P.ff) hp _ _ h7
end
/-! ### slots stored -/
section
variable {K : PySem.W.Frag} {B F H : Hp} {ρ : List Addr} {σ σ' : L2.St} {env env' : Env} {μ : Store}
theorem getV_eq {i : Nat} {d : D} (h : getV env i = some d) : env[i]? = some (some (.val d)) := by
  unfold getV at h
  split at h
  · cases h; assumption
  · cases h
theorem getO_eq {i : Nat} {ds : List D} (h : getO env i = some ds) : env[i]? = some (some (.own ds)) := by
  unfold getO at h
  split at h
  · cases h; assumption
  · cases h
/-- a slot gets a value; whatever it was -/
theorem EnvR.setV (E : EnvR K B F H ρ σ env) {i : Nat} {v : V} {d : D} (r : Dr K F ρ v d) : EnvR K B F H ρ (σ.set i (some v)) (env.set i (some (.val d))) := by
  refine ⟨by rw [List.length_set, List.length_set]; exact E.len, fun j sv h => ?_, fun j l es fs a h1 h2 h3 h4 => ?_⟩
  · by_cases q : i = j
    · subst q
      have hl : i < env.length := by
        by_cases hl : i < env.length
        · exact hl
        · rw [List.getElem?_eq_none (by rw [List.length_set]; omega)] at h; cases h
      rw [List.getElem?_set_self hl] at h
      cases h
      exact ⟨v, List.getElem?_set_self (by rw [E.len]; exact hl), r⟩
    · rw [List.getElem?_set_ne q] at h
      obtain ⟨w, h1, h2⟩ := E.at_ j sv h
      exact ⟨w, by rw [List.getElem?_set_ne q]; exact h1, h2⟩
  · have own_ne : ∀ {j : Nat} {es : List D}, (env.set i (some (.val d)))[j]? = some (some (.own es)) → i ≠ j := fun {j es} h q => by
      subst q
      by_cases hl : i < env.length
      · rw [List.getElem?_set_self hl] at h; cases h
      · rw [List.getElem?_eq_none (by rw [List.length_set]; omega)] at h; cases h
    have n1 := own_ne h1
    have n2 := own_ne h2
    rw [List.getElem?_set_ne n1] at h1 h3
    rw [List.getElem?_set_ne n2] at h2 h4
    exact E.apart j l es fs a h1 h2 h3 h4
/-- a slot is forgotten -/
theorem EnvR.setN (E : EnvR K B F H ρ σ env) {i : Nat} : EnvR K B F H ρ (σ.set i none) (env.set i none) := by
  have ne : ∀ {j : Nat} {sv : SV}, (env.set i none)[j]? = some (some sv) → i ≠ j := fun {j es} h q => by
    subst q
    by_cases hl : i < env.length
    · rw [List.getElem?_set_self hl] at h; cases h
    · rw [List.getElem?_eq_none (by rw [List.length_set]; omega)] at h; cases h
  refine ⟨by rw [List.length_set, List.length_set]; exact E.len, fun j sv h => ?_, fun j l es fs a h1 h2 h3 h4 => ?_⟩
  · have q := ne h
    rw [List.getElem?_set_ne q] at h ⊢
    exact E.at_ j sv h
  · have n1 := ne h1
    have n2 := ne h2
    rw [List.getElem?_set_ne n1] at h1 h3
    rw [List.getElem?_set_ne n2] at h2 h4
    exact E.apart j l es fs a h1 h2 h3 h4
theorem EnvR.wipe (E : EnvR K B F H ρ σ env) : ∀ vs : List Nat, EnvR K B F H ρ (L2.wipe σ vs) (wipeE env vs)
  | [] => E
  | v :: vs => (EnvR.wipe E vs).setN
theorem SR.setV (S : SR K B F H ρ σ env μ) {i : Nat} {v : V} {d : D} (r : Dr K F ρ v d) : SR K B F H ρ (σ.set i (some v)) (env.set i (some (.val d))) μ := ⟨S.fh, S.cells, S.env.setV r⟩
theorem SR.wipe (S : SR K B F H ρ σ env μ) (vs : List Nat) : SR K B F H ρ (L2.wipe σ vs) (wipeE env vs) μ := ⟨S.fh, S.cells, S.env.wipe vs⟩
/-- two slot lists that agree outside of vs are alike when wiped -/
theorem wipe_get (σ : L2.St) (j : Nat) : ∀ vs : List Nat, (L2.wipe σ vs)[j]? = if j ∈ vs ∧ j < σ.length then some none else σ[j]?
  | [] => by simp [L2.wipe]
  | v :: vs => by
    show ((L2.wipe σ vs).set v none)[j]? = _
    have ih := wipe_get σ j vs
    have hl := wipe_length σ vs
    by_cases q : v = j
    · subst q
      by_cases hj : v < σ.length
      · rw [List.getElem?_set_self (by rw [hl]; exact hj), if_pos ⟨List.mem_cons_self, hj⟩]
      · rw [List.getElem?_eq_none (by rw [List.length_set, hl]; omega), if_neg (fun z => hj z.2), List.getElem?_eq_none (by omega)]
    · rw [List.getElem?_set_ne q, ih]
      have : (j ∈ v :: vs ∧ j < σ.length) ↔ (j ∈ vs ∧ j < σ.length) := by
        simp only [List.mem_cons]
        constructor
        · rintro ⟨h | h, h2⟩
          · exact absurd h.symm q
          · exact ⟨h, h2⟩
        · rintro ⟨h, h2⟩; exact ⟨.inr h, h2⟩
      simp only [this]
theorem wipe_same {vs : List Nat} (hl : σ'.length = σ.length) (h : ∀ j, j ∉ vs → σ'[j]? = σ[j]?) : L2.wipe σ' vs = L2.wipe σ vs := by
  apply List.ext_getElem?
  intro j
  rw [wipe_get, wipe_get, hl]
  by_cases q : j ∈ vs
  · by_cases q2 : j < σ.length
    · rw [if_pos ⟨q, q2⟩, if_pos ⟨q, q2⟩]
    · rw [if_neg (fun z => q2 z.2), if_neg (fun z => q2 z.2), List.getElem?_eq_none (by omega), List.getElem?_eq_none (by omega)]
  · rw [if_neg (fun z => q z.1), if_neg (fun z => q z.1)]
    exact h j q
theorem wipe_idem (σ : L2.St) (vs : List Nat) : L2.wipe (L2.wipe σ vs) vs = L2.wipe σ vs := wipe_same (wipe_length σ vs) fun j hj => by rw [wipe_get, if_neg (fun z => hj z.1)]
end
/-! ### targets -/
def gT (K : PySem.W.Frag) (t : T) : TG := fun v σ H Q => ∃ B F ρ env μ d env', SR K B F H ρ σ env μ ∧ Dr K F ρ v d ∧ asgT t d env = some env' ∧
  ∀ σ', SR K B F H ρ σ' env' μ → σ'.length = σ.length → (∀ j, j ∉ tgS t → σ'[j]? = σ[j]?) → Q σ' H
def gTs (K : PySem.W.Frag) (t : List T) : TGs := fun vs σ H Q => ∃ B F ρ env μ ds env', SR K B F H ρ σ env μ ∧ DrL K F ρ vs ds ∧ asgTs t ds env = some env' ∧
  ∀ σ', SR K B F H ρ σ' env' μ → σ'.length = σ.length → (∀ j, j ∉ tgsS t → σ'[j]? = σ[j]?) → Q σ' H
theorem PG.imp {X : Cx} {e : Expr} {t t' : TG} (h : PG X e t) (w : ∀ v σ H Q, t' v σ H Q → t v σ H Q) : PG X e t' := ⟨fun pins s σ H v u Q I r q => h.run pins s σ H v u Q I r (w v σ H Q q)⟩
theorem PGs.imp {X : Cx} {e : List Expr} {t t' : TGs} (h : PGs X e t) (w : ∀ v σ H Q, t' v σ H Q → t v σ H Q) : PGs X e t' := ⟨fun pins s σ H v u Q I r q => h.run pins s σ H v u Q I r (w v σ H Q q)⟩
theorem mT_form {C : MC} {sc : Scope} {t : T} {e : Expr} (h : mT C sc t e = true) : (∃ x p, e = .Name x p) ∨ ∃ es k p, e = .Tuple es k p := by
  unfold mT at h
  split at h
  · exact .inl ⟨_, _, rfl⟩
  · exact .inr ⟨_, _, _, rfl⟩
  · cases h
theorem assignEach_cons {e : Expr} {es : List Expr} {env : PySem.Env} (h : ∀ v p, e ≠ .Starred v p) : assignEach (e :: es) env = (false, assign e env) :: assignEach es env := by
  cases e <;> first | rfl | exact absurd rfl (h _ _)
theorem mT_nostar {C : MC} {sc : Scope} {t : T} {e : Expr} (h : mT C sc t e = true) : ∀ v p, e ≠ .Starred v p := by
  rcases mT_form h with ⟨x, p, rfl⟩ | ⟨es, k, p, rfl⟩ <;> exact fun v p z => nomatch z
theorem assignEach_plain {C : MC} {sc : Scope} {env : PySem.Env} : ∀ {ts : List T} {es : List Expr}, mTs C sc ts es = true → (assignEach es env).length = ts.length ∧ (assignEach es env).findIdx? (·.1) = none ∧ es.length = ts.length
  | [], [], _ => ⟨rfl, rfl, rfl⟩
  | t :: ts, e :: es, h => by
    rw [mTs, Bool.and_eq_true] at h
    obtain ⟨h1, h2, h3⟩ := assignEach_plain (env := env) h.2
    rw [assignEach_cons (mT_nostar h.1)]
    refine ⟨by simp [h1], ?_, by simp [h3]⟩
    rw [List.findIdx?_cons]
    simp [h2]
  | [], _ :: _, h => by rw [mTs] at h <;> first | cases h | (intros; contradiction)
  | _ :: _, [], h => by rw [mTs] at h <;> first | cases h | (intros; contradiction)
section
variable {C : MC} {Φ : FnS} {Γ : GlS} {k : Nat} {X : Cx} {sc : Scope}
mutual
theorem pgT (G : CG C Φ Γ k X sc) : ∀ (t : T) (e : Expr), mT C sc t e = true → PG X e (gT X.K t)
  | .nm i, e, h => by
    unfold mT at h
    split at h <;> first | contradiction | skip
    rename_i q; cases q
    simp only [Bool.and_eq_true, decide_eq_true_eq] at h
    obtain ⟨h1, h2⟩ := h
    obtain ⟨l1, l2⟩ := G.locv h2
    refine PG.imp (pg_name G.nd (by rw [G.hN]; exact h1) l1 l2) fun v σ H Q q => ?_
    obtain ⟨B, F, ρ, env, μ, d, env', S, r, ha, q⟩ := q
    unfold asgT Py.setV at ha
    split at ha
    · cases ha
      exact q _ (S.setV r) (by rw [List.length_set]) fun j hj => List.getElem?_set_ne (fun z => hj (by rw [tgS]; simp [z]))
    · cases ha
  | .tp ts, e, h => by
    unfold mT at h
    split at h <;> first | contradiction | skip
    rename_i q; cases q
    obtain ⟨p1, p2, p3⟩ := assignEach_plain (env := X.env) h
    refine PG.imp (pg_tup (n := ts.length) G.calm (pgTs G ts _ h) p1 p2) fun v σ H Q q => ?_
    obtain ⟨B, F, ρ, env, μ, d, env', S, r, ha, q⟩ := q
    cases r with
    | tup r1 r2 =>
      rw [asgT] at ha
      refine ⟨_, _, rfl, same_t S.fh r1, ?_, B, F, ρ, env, μ, _, env', S, r2, ha, fun σ' S' hl hj => q σ' S' hl fun j h => hj j (by rw [tgS] at h; exact h)⟩
      have : ∀ {ts : List T} {ds : List D} {env env' : Env}, asgTs ts ds env = some env' → ds.length = ts.length := by
        intro ts
        induction ts with
        | nil => intro ds env env' h; cases ds with
          | nil => rfl
          | cons d ds => rw [asgTs] at h <;> first | cases h | (intros; contradiction)
        | cons t ts ih => intro ds env env' h; cases ds with
          | nil => rw [asgTs] at h <;> first | cases h | (intros; contradiction)
          | cons d ds =>
            rw [asgTs] at h
            obtain ⟨e1, _, h2⟩ := Option.bind_eq_some_iff.mp h
            rw [List.length_cons, List.length_cons, ih h2]
      rw [r2.length]
      exact this ha
    | _ => rw [asgT] at ha <;> first | cases ha | (intros; contradiction)
theorem pgTs (G : CG C Φ Γ k X sc) : ∀ (t : List T) (e : List Expr), mTs C sc t e = true → PGs X e (gTs X.K t)
  | [], [], _ => PGs.imp pgs_nil fun v σ H Q q => by
    obtain ⟨B, F, ρ, env, μ, ds, env', S, r, ha, q⟩ := q
    cases ds with
    | cons d ds => rw [asgTs] at ha <;> first | cases ha | (intros; contradiction)
    | nil =>
      cases r
      rw [asgTs] at ha
      cases ha
      exact ⟨rfl, q σ S rfl fun _ _ => rfl⟩
  | t :: ts, e :: es, h => by
    rw [mTs, Bool.and_eq_true] at h
    refine PGs.imp (pgs_cons (pgT G t e h.1) (pgTs G ts es h.2) (by rw [assignEach_cons (mT_nostar h.1)]; rfl)) fun v σ H Q q => ?_
    obtain ⟨B, F, ρ, env, μ, ds, env', S, r, ha, q⟩ := q
    cases r with
    | nil => rw [asgTs] at ha <;> first | cases ha | (intros; contradiction)
    | cons r1 r2 =>
      rw [asgTs] at ha
      obtain ⟨env1, h1, h2⟩ := Option.bind_eq_some_iff.mp ha
      refine ⟨_, _, rfl, B, F, ρ, env, μ, _, env1, S, r1, h1, fun σ1 S1 l1 j1 => ⟨B, F, ρ, env1, μ, _, env', S1, r2, h2, fun σ2 S2 l2 j2 => q σ2 S2 (l2.trans l1) fun j hj => ?_⟩⟩
      rw [tgsS, List.mem_append] at hj
      exact (j2 j fun z => hj (.inr z)).trans (j1 j fun z => hj (.inl z))
  | [], _ :: _, h => by rw [mTs] at h <;> first | cases h | (intros; contradiction)
  | _ :: _, [], h => by rw [mTs] at h <;> first | cases h | (intros; contradiction)
end
end
end Py
end
section
set_option Elab.async false
set_option linter.all false
set_option maxRecDepth 100000
namespace Py
open PySem L2 RZ
section
variable {C : MC} {Φ : FnS} {Γ : GlS} {k : Nat} {X : Cx} {sc : Scope}
theorem s_slot {i : Nat} {x : Str} {p : Pos} (G : CG C Φ Γ k X sc) (h1 : C.N[i]? = some x) (h2 : visB sc x = true) (h3 : okName x = true) : PE X (.Name x p) (tE X.K Φ Γ (.slot i)) := by
  refine PE.imp (pe_var (i := i) (by rw [G.hN]; exact h1) (G.vis h2) (okName_1 h3) (okName_2 h3)) fun σ H Q q => ?_
  obtain ⟨B, F, ρ, env, μ, d, μ', S, he, q⟩ := q
  rw [ev] at he
  obtain ⟨d', h4, h5⟩ := Option.map_eq_some_iff.mp he
  cases h5
  obtain ⟨v, h6, h7⟩ := S.env.at_ _ _ (getV_eq h4)
  exact ⟨v, h6, q v F H ρ .refl S.fh S.cells h7⟩
theorem s_glob {i : Nat} {x : Str} {p : Pos} (G : CG C Φ Γ k X sc) (h1 : C.gls[i]? = some x) (h2 : gloB sc x = true) (h3 : okName x = true) : PE X (.Name x p) (tE X.K Φ Γ (.glob i)) := by
  refine ⟨fun pins s σ H Q I q => ?_⟩
  obtain ⟨B, F, ρ, env, μ, d, μ', S, he, q⟩ := q
  rw [ev] at he
  obtain ⟨d', h4, h5⟩ := Option.map_eq_some_iff.mp he
  cases h5
  obtain ⟨v, u, h6, h7, h8⟩ := G.gls _ _ _ h1 h4
  exact (pe_glob (G.gl h2) h6 h7 (okName_1 h3)).run pins s σ H Q I (q v F H ρ .refl S.fh S.cells (h8 F ρ))
theorem s_int {i : Int} {n : Nat} {p : Pos} : PE X (.Constant (.int i) n p) (tE X.K Φ Γ (.int i)) := PE.imp pe_int fun σ H Q q => by
  obtain ⟨B, F, ρ, env, μ, d, μ', S, he, q⟩ := q
  rw [ev] at he; cases he
  exact q _ F H ρ .refl S.fh S.cells (.int _)
theorem s_bl {i : Bool} {n : Nat} {p : Pos} : PE X (.Constant (.bool i) n p) (tE X.K Φ Γ (.bl i)) := PE.imp pe_bl fun σ H Q q => by
  obtain ⟨B, F, ρ, env, μ, d, μ', S, he, q⟩ := q
  rw [ev] at he; cases he
  exact q _ F H ρ .refl S.fh S.cells (.bl _)
theorem s_non {n : Nat} {p : Pos} : PE X (.Constant .none n p) (tE X.K Φ Γ .non) := PE.imp pe_non fun σ H Q q => by
  obtain ⟨B, F, ρ, env, μ, d, μ', S, he, q⟩ := q
  rw [ev] at he; cases he
  exact q _ F H ρ .refl S.fh S.cells .non
theorem s_str {i : Str} {n : Nat} {p : Pos} : PE X (.Constant (.str i) n p) (tE X.K Φ Γ (.str i)) := PE.imp pe_str fun σ H Q q => by
  obtain ⟨B, F, ρ, env, μ, d, μ', S, he, q⟩ := q
  rw [ev] at he; cases he
  exact q _ F H ρ .refl S.fh S.cells (.str _)
theorem s_bin {a b : E} {x y : Expr} {op : Operator} {p : Pos} (ha : PE X x (tE X.K Φ Γ a)) (hb : PE X y (tE X.K Φ Γ b)) : PE X (.BinOp x op y p) (tE X.K Φ Γ (.bin op a b)) := by
  refine PE.imp (pe_op (op_of X op) ha hb) fun σ H Q q => ?_
  obtain ⟨B, F, ρ, env, μ, d, μ', S, he, q⟩ := q
  rw [ev] at he
  obtain ⟨⟨dx, μ1⟩, h1, h2⟩ := Option.bind_eq_some_iff.mp he
  obtain ⟨⟨dy, μ2⟩, h3, h4⟩ := Option.bind_eq_some_iff.mp h2
  obtain ⟨d', h5, h6⟩ := Option.map_eq_some_iff.mp h4
  cases h6
  refine RE.go S h1 fun v F1 H1 ρ1 e1 S1 r1 => RE.go S1 h3 fun w F2 H2 ρ2 e2 S2 r2 => ?_
  exact binS_ok op F2 H2 ρ2 v w dx dy _ Q S2.fh (r1.ext e2) r2 h5 (fin_px q (e1.trans e2) S2.cells)
theorem s_neg {a : E} {x : Expr} {p : Pos} (ha : PE X x (tE X.K Φ Γ a)) : PE X (.UnaryOp .USub x p) (tE X.K Φ Γ (.neg a)) := by
  refine PE.imp (pe_un un_neg ha) fun σ H Q q => ?_
  obtain ⟨B, F, ρ, env, μ, d, μ', S, he, q⟩ := q
  rw [ev] at he
  obtain ⟨⟨dx, μ1⟩, h1, h2⟩ := Option.bind_eq_some_iff.mp he
  obtain ⟨d', h5, h6⟩ := Option.map_eq_some_iff.mp h2
  cases h6
  refine RE.go S h1 fun v F1 H1 ρ1 e1 S1 r1 => ?_
  unfold asInt at h5
  split at h5
  · cases h5; cases r1
    exact ⟨_, rfl, q _ F1 H1 ρ1 e1 S1.fh S1.cells (.int _)⟩
  · cases h5
theorem s_not {a : E} {x : Expr} {p : Pos} (ha : PE X x (tE X.K Φ Γ a)) : PE X (.UnaryOp .Not x p) (tE X.K Φ Γ (.not a)) := by
  refine ⟨fun pins s σ H Q I q => ?_⟩
  obtain ⟨B, F, ρ, env, μ, d, μ', S, he, q⟩ := q
  rw [ev] at he
  obtain ⟨⟨dx, μ1⟩, h1, h2⟩ := Option.bind_eq_some_iff.mp he
  obtain ⟨b, h5, h6⟩ := Option.map_eq_some_iff.mp h2
  cases h6
  refine PyProof.Rows.UnaryOp_ (thn (ha.run pins s σ H _ I (RE.go (R := fun v H1 => TruV X.K v H1 b ∧ Q (.bl (!b)) H1) S h1 fun v F1 H1 ρ1 e1 S1 r1 => ⟨truS_ok S1.fh r1 h5, q _ F1 H1 ρ1 e1 S1.fh S1.cells (.bl _)⟩)) ?_)
  rintro u s1 ⟨v, H1, I1, r1, h7, h8⟩
  refine PyProof.Rows.not_of (thn (tru_ok pins s1 σ H1 v u (fun c H2 => Q (.bl (!c)) H2) I1 r1 ⟨b, h7, h8⟩) ?_)
  rintro c s2 ⟨H2, I2, q2⟩
  exact ⟨.bl (!c), H2, I2, rfl, q2⟩
theorem s_cmp {a b : E} {x y : Expr} {op : CmpOp} {p : Pos} (G : CG C Φ Γ k X sc) (n1 : op ≠ .In) (n2 : op ≠ .NotIn) (ha : PE X x (tE X.K Φ Γ a)) (hb : PE X y (tE X.K Φ Γ b)) : PE X (.Compare x [op] [y] p) (tE X.K Φ Γ (.cmp op a b)) := by
  refine PE.imp (pe_cmpR (cmp_of X G.room.units op) ha hb (nomark y n1 n2)) fun σ H Q q => ?_
  obtain ⟨B, F, ρ, env, μ, d, μ', S, he, q⟩ := q
  rw [ev] at he
  obtain ⟨⟨dx, μ1⟩, h1, h2⟩ := Option.bind_eq_some_iff.mp he
  obtain ⟨⟨dy, μ2⟩, h3, h4⟩ := Option.bind_eq_some_iff.mp h2
  obtain ⟨d', h5, h6⟩ := Option.map_eq_some_iff.mp h4
  cases h6
  refine RE.go S h1 fun v F1 H1 ρ1 e1 S1 r1 => RE.go S1 h3 fun w F2 H2 ρ2 e2 S2 r2 => ?_
  exact cmpS_ok op S2.fh (r1.ext e2) r2 h5 (q _ F2 H2 ρ2 (e1.trans e2) S2.fh S2.cells (.bl _))
theorem sT_cmp {a b : E} {x y : Expr} {op : CmpOp} {p : Pos} (G : CG C Φ Γ k X sc) (n1 : op ≠ .In) (n2 : op ≠ .NotIn) (ha : PE X x (tE X.K Φ Γ a)) (hb : PE X y (tE X.K Φ Γ b)) : PT X (.Compare x [op] [y] p) (tT X.K Φ Γ (.cmp op a b)) := by
  refine PT.imp (pt_cmpR (cmp_of X G.room.units op) ha hb (nomark y n1 n2)) fun σ H Q q => ?_
  obtain ⟨B, F, ρ, env, μ, d, μ', S, he, q⟩ := q
  rw [evT] at he
  obtain ⟨⟨dx, μ1⟩, h1, h2⟩ := Option.bind_eq_some_iff.mp he
  obtain ⟨⟨dy, μ2⟩, h3, h4⟩ := Option.bind_eq_some_iff.mp h2
  obtain ⟨d', h5, h6⟩ := Option.map_eq_some_iff.mp h4
  cases h6
  refine RE.go S h1 fun v F1 H1 ρ1 e1 S1 r1 => RE.go S1 h3 fun w F2 H2 ρ2 e2 S2 r2 => ?_
  exact cmpS_ok op S2.fh (r1.ext e2) r2 h5 ⟨_, rfl, q _ F2 H2 ρ2 (e1.trans e2) S2.fh S2.cells rfl⟩
theorem s_isN {a : E} {x : Expr} {n : Nat} {p2 p : Pos} (ha : PE X x (tE X.K Φ Γ a)) : PE X (.Compare x [.Is] [.Constant .none n p2] p) (tE X.K Φ Γ (.isN a)) := by
  refine PE.imp (pe_cmp (pc_isN ha) rfl) fun σ H Q q => ?_
  obtain ⟨B, F, ρ, env, μ, d, μ', S, he, q⟩ := q
  rw [ev] at he
  obtain ⟨⟨dx, μ1⟩, h1, h6⟩ := Option.map_eq_some_iff.mp he
  cases h6
  exact RE.go S h1 fun v F1 H1 ρ1 e1 S1 r1 => q _ F1 H1 ρ1 e1 S1.fh S1.cells (by rw [isNon_ok r1]; exact .bl _)
theorem s_notN {a : E} {x : Expr} {n : Nat} {p2 p : Pos} (ha : PE X x (tE X.K Φ Γ a)) : PE X (.Compare x [.IsNot] [.Constant .none n p2] p) (tE X.K Φ Γ (.notN a)) := by
  refine PE.imp (pe_cmp (pc_notN ha) rfl) fun σ H Q q => ?_
  obtain ⟨B, F, ρ, env, μ, d, μ', S, he, q⟩ := q
  rw [ev] at he
  obtain ⟨⟨dx, μ1⟩, h1, h6⟩ := Option.map_eq_some_iff.mp he
  cases h6
  exact RE.go S h1 fun v F1 H1 ρ1 e1 S1 r1 => q _ F1 H1 ρ1 e1 S1.fh S1.cells (by rw [isNon_ok r1]; exact .bl _)
theorem sT_isN {a : E} {x : Expr} {n : Nat} {p2 p : Pos} (ha : PE X x (tE X.K Φ Γ a)) : PT X (.Compare x [.Is] [.Constant .none n p2] p) (tT X.K Φ Γ (.isN a)) := by
  refine PT.imp (pt_cmp (pc_isN ha) rfl) fun σ H Q q => ?_
  obtain ⟨B, F, ρ, env, μ, d, μ', S, he, q⟩ := q
  rw [evT] at he
  obtain ⟨⟨dx, μ1⟩, h1, h6⟩ := Option.map_eq_some_iff.mp he
  cases h6
  exact RE.go S h1 fun v F1 H1 ρ1 e1 S1 r1 => ⟨_, rfl, q _ F1 H1 ρ1 e1 S1.fh S1.cells (isNon_ok r1)⟩
theorem sT_notN {a : E} {x : Expr} {n : Nat} {p2 p : Pos} (ha : PE X x (tE X.K Φ Γ a)) : PT X (.Compare x [.IsNot] [.Constant .none n p2] p) (tT X.K Φ Γ (.notN a)) := by
  refine PT.imp (pt_cmp (pc_notN ha) rfl) fun σ H Q q => ?_
  obtain ⟨B, F, ρ, env, μ, d, μ', S, he, q⟩ := q
  rw [evT] at he
  obtain ⟨⟨dx, μ1⟩, h1, h6⟩ := Option.map_eq_some_iff.mp he
  cases h6
  exact RE.go S h1 fun v F1 H1 ρ1 e1 S1 r1 => ⟨_, rfl, q _ F1 H1 ρ1 e1 S1.fh S1.cells (by rw [isNon_ok r1])⟩
/-- a value's truth, as a test -/
theorem sT_tru {f : Env → Store → Option (D × Store)} {g : Env → Store → Option (Bool × Store)} {x : Expr} (ha : PE X x (RE (fun F ρ v d => Dr X.K F ρ v d) X.K f)) (he : ∀ whole, isTrue x X.env whole = (do let v ← whole; standAt x.pos; holding [v] (truthy v)))
    (hg : ∀ env μ r, g env μ = some r → ∃ d, f env μ = some (d, r.2) ∧ truS d = some r.1) : PT X x (RE (fun _ _ (a b : Bool) => a = b) X.K g) := by
  refine PT.imp (pt_truth ha he) fun σ H Q q => ?_
  obtain ⟨B, F, ρ, env, μ, d, μ', S, h0, q⟩ := q
  obtain ⟨dx, h1, h2⟩ := hg env μ _ h0
  exact RE.go S h1 fun v F1 H1 ρ1 e1 S1 r1 => ⟨d, truS_ok S1.fh r1 h2, q _ F1 H1 ρ1 e1 S1.fh S1.cells rfl⟩
theorem s_ite {a b c : E} {x y z : Expr} {p : Pos} (hc : PT X z (tT X.K Φ Γ c)) (ha : PE X x (tE X.K Φ Γ a)) (hb : PE X y (tE X.K Φ Γ b)) : PE X (.IfExp z x y p) (tE X.K Φ Γ (.ite c a b)) := by
  refine PE.imp (pe_ifExp hc ha hb) fun σ H Q q => ?_
  obtain ⟨B, F, ρ, env, μ, d, μ', S, he, q⟩ := q
  rw [ev] at he
  obtain ⟨⟨dx, μ1⟩, h1, h2⟩ := Option.bind_eq_some_iff.mp he
  refine RE.go S h1 fun v F1 H1 ρ1 e1 S1 r1 => ?_
  cases r1
  cases dx with
  | true => exact iteT (RE.go S1 h2 fun w F2 H2 ρ2 e2 S2 r2 => q w F2 H2 ρ2 (e1.trans e2) S2.fh S2.cells r2)
  | false => exact iteF (RE.go S1 h2 fun w F2 H2 ρ2 e2 S2 r2 => q w F2 H2 ρ2 (e1.trans e2) S2.fh S2.cells r2)
theorem s_tup {es : Es} {xs : List Expr} {n : Nat} {p : Pos} (ha : PA X xs (tEs X.K Φ Γ es)) : PE X (.Tuple xs n p) (tE X.K Φ Γ (.tup es)) := by
  refine PE.imp (pe_tup ha) fun σ H Q q => ?_
  obtain ⟨B, F, ρ, env, μ, d, μ', S, he, q⟩ := q
  rw [ev] at he
  obtain ⟨⟨ds, μ1⟩, h1, h2⟩ := Option.bind_eq_some_iff.mp he
  dsimp only at h2
  split at h2
  · rename_i hz
    cases h2
    exact RE.go S h1 fun v F1 H1 ρ1 e1 S1 r1 => ⟨by rw [sz, r1.length]; exact hz, new_tup S1.fh r1 (fin_px q e1 S1.cells)⟩
  · cases h2
theorem s_lst {es : Es} {xs : List Expr} {p : Pos} (ha : PA X xs (tEs X.K Φ Γ es)) : PE X (.List xs p) (tE X.K Φ Γ (.lst es)) := by
  refine PE.imp (pe_lst ha) fun σ H Q q => ?_
  obtain ⟨B, F, ρ, env, μ, d, μ', S, he, q⟩ := q
  rw [ev] at he
  obtain ⟨⟨ds, μ1⟩, h1, h2⟩ := Option.bind_eq_some_iff.mp he
  dsimp only at h2
  split at h2
  · rename_i hz
    cases h2
    exact RE.go S h1 fun v F1 H1 ρ1 e1 S1 r1 => ⟨by rw [sz, r1.length]; exact hz, new_lst S1.fh r1 (fin_px q e1 S1.cells)⟩
  · cases h2
theorem new_cell {K : PySem.W.Frag} {F H : Hp} {ρ : List Addr} {μ : Store} {xs : List V} {ds : List D} {p : Addr} (fh : Same F H) (c : Cells K F H ρ μ) (r : DrL K F ρ xs ds) (hp : H p = none) :
    Ext F H ρ F (upd H p (.lst xs)) (ρ ++ [p]) ∧ Same F (upd H p (.lst xs)) ∧ Cells K F (upd H p (.lst xs)) (ρ ++ [p]) (μ ++ [ds]) := by
  have fp : F p = none := fh.free hp
  have hup : ∀ (i : Nat) (a : Addr), ρ[i]? = some a → (ρ ++ [p])[i]? = some a := fun i a h => by
    rw [List.getElem?_append_left (List.getElem?_eq_some_iff.mp h).1]; exact h
  have hne : ∀ (i : Nat) (a : Addr), ρ[i]? = some a → a ≠ p := fun i a h z => by
    have hi := (List.getElem?_eq_some_iff.mp h).1
    rw [c.len] at hi
    obtain ⟨_, ys, h2, _⟩ := c.at_ i a μ[i] h (List.getElem?_eq_getElem hi)
    rw [z, hp] at h2; cases h2
  have hcase : ∀ (i : Nat) (a : Addr), (ρ ++ [p])[i]? = some a → ρ[i]? = some a ∨ (i = ρ.length ∧ a = p) := fun i a h => by
    by_cases hi : i < ρ.length
    · rw [List.getElem?_append_left hi] at h; exact .inl h
    · rw [List.getElem?_append_right (by omega)] at h
      have : i - ρ.length = 0 := by
        by_cases q : i - ρ.length = 0
        · exact q
        · rw [List.getElem?_eq_none (by simp; omega)] at h; cases h
      rw [this] at h
      simp at h
      exact .inr ⟨by omega, h.symm⟩
  refine ⟨⟨Same.refl _, fun a o h _ => by rw [upd_ne (ne_of_none h hp)]; exact h, fun a h => ?_, fun a h1 h2 => absurd h1 h2, hup, fun a h => ?_⟩, fh.trans (same_upd' hp), ⟨by simp [c.len], fun i j a h1 h2 => ?_, fun i a es h1 h2 => ?_⟩⟩
  · by_cases q : a = p
    · subst q; exact absurd hp h
    · rw [upd_ne q]; exact h
  · rcases List.mem_append.mp h with h | h
    · exact .inl h
    · simp at h; subst h; exact .inr hp
  · rcases hcase i a h1 with q1 | ⟨q1, q2⟩
    · rcases hcase j a h2 with q3 | ⟨q3, q4⟩
      · exact c.nd i j a q1 q3
      · exact absurd q4 (hne i a q1)
    · rcases hcase j a h2 with q3 | ⟨q3, q4⟩
      · exact absurd q2 (hne j a q3)
      · omega
  · rcases hcase i a h1 with q1 | ⟨q1, q2⟩
    · have hi := (List.getElem?_eq_some_iff.mp q1).1
      rw [List.getElem?_append_left (by rw [← c.len]; exact hi)] at h2
      obtain ⟨z1, ys, z2, z3⟩ := c.at_ i a es q1 h2
      exact ⟨z1, ys, by rw [upd_ne (hne i a q1)]; exact z2, DrL.mono (Same.refl _) hup _ _ z3⟩
    · subst q2
      rw [List.getElem?_append_right (by rw [← c.len]; omega), q1, c.len, Nat.sub_self] at h2
      simp at h2
      subst h2
      exact ⟨fp, xs, upd_same, DrL.mono (Same.refl _) hup _ _ r⟩
theorem s_mlst {es : Es} {xs : List Expr} {p : Pos} (ha : PA X xs (tEs X.K Φ Γ es)) : PE X (.List xs p) (tE X.K Φ Γ (.mlst es)) := by
  refine PE.imp (pe_lst ha) fun σ H Q q => ?_
  obtain ⟨B, F, ρ, env, μ, d, μ', S, he, q⟩ := q
  rw [ev] at he
  obtain ⟨⟨ds, μ1⟩, h1, h2⟩ := Option.bind_eq_some_iff.mp he
  dsimp only at h2
  split at h2
  · rename_i hz
    cases h2
    refine RE.go S h1 fun v F1 H1 ρ1 e1 S1 r1 => ⟨by rw [sz, r1.length]; exact hz, fun p hp => ?_⟩
    obtain ⟨n1, n2, n3⟩ := new_cell S1.fh S1.cells r1 hp
    refine q _ _ _ _ (e1.trans n1) n2 n3 (.mr ?_)
    rw [← S1.cells.len, List.getElem?_append_right (Nat.le_refl _), Nat.sub_self]
    rfl
  · cases h2
theorem plainIx_of {b : Expr} (h : sliceB b = false) : PlainIx b := by
  cases b <;> first | exact fun _ _ => rfl | cases h
theorem s_ix {a b : E} {x y : Expr} {p : Pos} (hs : sliceB y = false) (ha : PE X x (tE X.K Φ Γ a)) (hb : PE X y (tE X.K Φ Γ b)) : PE X (.Subscript x y p) (tE X.K Φ Γ (.ix a b)) := by
  refine PE.imp (pe_ix ix_seq ha hb (plainIx_of hs)) fun σ H Q q => ?_
  obtain ⟨B, F, ρ, env, μ, d, μ', S, he, q⟩ := q
  rw [ev] at he
  obtain ⟨⟨dx, μ1⟩, h1, h2⟩ := Option.bind_eq_some_iff.mp he
  obtain ⟨⟨dy, μ2⟩, h3, h4⟩ := Option.bind_eq_some_iff.mp h2
  obtain ⟨d', h5, h6⟩ := Option.map_eq_some_iff.mp h4
  cases h6
  refine RE.go S h1 fun v F1 H1 ρ1 e1 S1 r1 => RE.go S1 h3 fun w F2 H2 ρ2 e2 S2 r2 => ?_
  exact ixS_ok S2.fh S2.cells (r1.ext e2) r2 h5 fun u r => q u F2 H2 ρ2 (e1.trans e2) S2.fh S2.cells r
theorem s_slc {a : E} {lo hi : Eo} {x : Expr} {l h : Option Expr} {p2 p : Pos} (ha : PE X x (tE X.K Φ Γ a)) (hl : PO X l (tO X.K Φ Γ lo)) (hh : PO X h (tO X.K Φ Γ hi)) : PE X (.Subscript x (.Slice l h none p2) p) (tE X.K Φ Γ (.slc a lo hi)) := by
  refine PE.imp (pe_slice (sl_of X) ha hl hh) fun σ H Q q => ?_
  obtain ⟨B, F, ρ, env, μ, d, μ', S, he, q⟩ := q
  rw [ev] at he
  obtain ⟨⟨dx, μ1⟩, h1, h2⟩ := Option.bind_eq_some_iff.mp he
  obtain ⟨⟨dl, μ2⟩, h3, h4⟩ := Option.bind_eq_some_iff.mp h2
  obtain ⟨⟨dh, μ3⟩, h5, h6⟩ := Option.bind_eq_some_iff.mp h4
  obtain ⟨d', h7, h8⟩ := Option.map_eq_some_iff.mp h6
  cases h8
  refine RE.go S h1 fun v F1 H1 ρ1 e1 S1 r1 => RE.go S1 h3 fun w F2 H2 ρ2 e2 S2 r2 => RE.go S2 h5 fun w' F3 H3 ρ3 e3 S3 r3 => ?_
  cases r2; cases r3
  exact slcS_ok S3.fh ((r1.ext e2).ext e3) h7 (fin_px q ((e1.trans e2).trans e3) S3.cells)
/-- an argument list without stars -/
theorem spliced_plain {env : PySem.Env} {pos : Pos} : ∀ {es : List Expr}, (∀ e ∈ es, ∀ v p, e ≠ .Starred v p) → (backTo pos (starEach es env)).any (·.1) = false
  | [], _ => rfl
  | e :: es, h => by
    rw [starEach_cons (h e List.mem_cons_self)]
    have ih := spliced_plain (env := env) (pos := pos) (es := es) fun e' he => h e' (List.mem_cons_of_mem _ he)
    show (false || (backTo pos (starEach es env)).any (·.1)) = false
    rw [Bool.false_or]
    exact ih
theorem mEs_nostar {C : MC} {sc : Scope} : ∀ {ms : Es} {es : List Expr}, mEs C sc ms es = true → ∀ e ∈ es, ∀ v p, e ≠ .Starred v p
  | .nil, es, h, e, he => by rw [mEs_nil h] at he; cases he
  | .cons m ms, es, h, e, he => by
    obtain ⟨y, ys, rfl, h1, h2⟩ := mEs_cons h
    rcases List.mem_cons.mp he with rfl | he
    · exact (mE_nostar h1).1
    · exact mEs_nostar h2 e he
theorem s_call {f : Nat} {a : E} {es : Es} {x : Str} {y : Expr} {ys : List Expr} {p2 p : Pos} (G : CG C Φ Γ k X sc) (h1 : C.fns[f]? = some x) (h2 : gloB sc x = true) (h3 : okName x = true)
    (ha : PA X (y :: ys) (tEs X.K Φ Γ (.cons a es))) (n1 : ∀ v p, y ≠ .Starred v p) (n2 : ∀ e ∈ ys, ∀ v p, e ≠ .Starred v p) : PE X (.Call (.Name x p2) (y :: ys) [] p) (tE X.K Φ Γ (.call f a es)) := by
  obtain ⟨fa, fd, ps, g1, g2, g3, g4⟩ := G.fns f x h1
  refine PE.imp (pe_call g3 G.room (G.gl h2) g1 g2 g4 .nil pass0 ha (okName_1 h3) (starEach_cons n1) (spliced_plain n2)) fun σ H Q q => ?_
  obtain ⟨B, F, ρ, env, μ, d, μ', S, he, q⟩ := q
  rw [ev] at he
  obtain ⟨⟨dx, μ1⟩, h1, h2⟩ := Option.bind_eq_some_iff.mp he
  obtain ⟨⟨dl, μ2⟩, h3, h4⟩ := Option.bind_eq_some_iff.mp h2
  have h5 : evs Φ Γ (.cons a es) env μ = some (dx :: dl, μ2) := by
    rw [evs, h1]
    show Option.map _ (evs Φ Γ es env μ1) = _
    rw [h3]
    rfl
  refine RE.go S h5 fun v F1 H1 ρ1 e1 S1 r1 => ⟨F1, ρ1, μ2, dx :: dl, d, μ', S1.fh, S1.cells, by rw [List.append_nil]; exact r1, h4, fun w F2 H2 ρ2 e2 s2 c2 r2 => q w F2 H2 ρ2 (e1.trans e2) s2 c2 r2⟩
theorem s_bi {b : Bi} {a : E} {es : Es} {y : Expr} {ys : List Expr} {p2 p : Pos} (G : CG C Φ Γ k X sc) (h2 : gloB sc (biName b) = true)
    (ha : PA X (y :: ys) (tEs X.K Φ Γ (.cons a es))) (n1 : ∀ v p, y ≠ .Starred v p) (n2 : ∀ e ∈ ys, ∀ v p, e ≠ .Starred v p) : PE X (.Call (.Name (biName b) p2) (y :: ys) [] p) (tE X.K Φ Γ (.bi b a es)) := by
  refine PE.imp (pe_bi b G.calm (G.gl h2) (G.bi (by cases b <;> decide +kernel)) ha n1 (spliced_plain n2)) fun σ H Q q => ?_
  obtain ⟨B, F, ρ, env, μ, d, μ', S, he, q⟩ := q
  rw [ev] at he
  obtain ⟨⟨dx, μ1⟩, h1, h2⟩ := Option.bind_eq_some_iff.mp he
  obtain ⟨⟨dl, μ2⟩, h3, h4⟩ := Option.bind_eq_some_iff.mp h2
  obtain ⟨d', h7, h8⟩ := Option.map_eq_some_iff.mp h4
  cases h8
  have h5 : evs Φ Γ (.cons a es) env μ = some (dx :: dl, μ') := by
    rw [evs, h1]
    show Option.map _ (evs Φ Γ es env μ1) = _
    rw [h3]
    rfl
  exact RE.go S h5 fun v F1 H1 ρ1 e1 S1 r1 => biS_ok b S1.fh S1.cells r1 h7 (fin_px q e1 S1.cells)
theorem s_isi {a : E} {t : Ty} {y : Expr} {p3 p2 p : Pos} (G : CG C Φ Γ k X sc) (h1 : gloB sc "isinstance" = true) (h2 : gloB sc (tyS t) = true) (ha : PE X y (tE X.K Φ Γ a)) (n1 : ∀ v p, y ≠ .Starred v p) :
    PE X (.Call (.Name "isinstance" p2) [y, .Name (tyS t) p3] [] p) (tE X.K Φ Γ (.isi a t)) := by
  have ht : PE X (.Name (tyS t) p3) (L2.tC (.ty (tyN t))) := by
    refine pe_bltn (u := .type (tyN t)) (G.gl h2) (G.bi (by cases t <;> decide +kernel)) (by cases t <;> decide +kernel) rfl (by cases t <;> decide +kernel) (by cases t <;> decide +kernel)
  refine PE.imp (pe_callB call_isi (G.gl h1) (G.bi (by decide +kernel)) (by decide +kernel) (pa_cons ha (pa_cons ht pa_nil (starEach_cons (fun _ _ z => nomatch z))) (starEach_cons n1)) (by decide) (by decide) (starEach_cons n1) (spliced_plain (by simp))) fun σ H Q q => ?_
  obtain ⟨B, F, ρ, env, μ, d, μ', S, he, q⟩ := q
  rw [ev] at he
  obtain ⟨⟨dx, μ1⟩, h1, h2⟩ := Option.bind_eq_some_iff.mp he
  obtain ⟨d', h7, h8⟩ := Option.map_eq_some_iff.mp h2
  cases h8
  exact RE.go S h1 fun v F1 H1 ρ1 e1 S1 r1 => isiS_ok S1.fh r1 h7 (q _ F1 H1 ρ1 e1 S1.fh S1.cells (.bl _))
end
end Py
end
section
set_option Elab.async false
set_option linter.all false
set_option maxRecDepth 100000
namespace Py
open PySem L2 RZ
/-! ### and, or -/
def tAnd (K : PySem.W.Frag) (Φ : FnS) (Γ : GlS) (a : E) (r : Es) : TE := RE (fun F ρ v d => Dr K F ρ v d) K (fun env μ => (ev Φ Γ a env μ).bind fun p => evAnd Φ Γ p.1 r env p.2)
def tOr (K : PySem.W.Frag) (Φ : FnS) (Γ : GlS) (a : E) (r : Es) : TE := RE (fun F ρ v d => Dr K F ρ v d) K (fun env μ => (ev Φ Γ a env μ).bind fun p => evOr Φ Γ p.1 r env p.2)
def tTAnd (K : PySem.W.Frag) (Φ : FnS) (Γ : GlS) (a : E) (r : Es) : TT := RE (fun _ _ (a b : Bool) => a = b) K (fun env μ => (evT Φ Γ a env μ).bind fun p => if p.1 then evTAnd Φ Γ r env p.2 else some (false, p.2))
def tTOr (K : PySem.W.Frag) (Φ : FnS) (Γ : GlS) (a : E) (r : Es) : TT := RE (fun _ _ (a b : Bool) => a = b) K (fun env μ => (evT Φ Γ a env μ).bind fun p => if p.1 then some (true, p.2) else evTOr Φ Γ r env p.2)
section
variable {C : MC} {Φ : FnS} {Γ : GlS} {k : Nat} {X : Cx} {sc : Scope} {a b : E} {r : Es} {x y : Expr} {ys : List Expr} {p : Pos}
theorem s_and1 (ha : PE X x (tE X.K Φ Γ a)) : PE X (.BoolOp .And [x] p) (tAnd X.K Φ Γ a .nil) := by
  refine PE.imp (pe_one ha) fun σ H Q q => ?_
  obtain ⟨B, F, ρ, env, μ, d, μ', S, he, q⟩ := q
  obtain ⟨⟨dx, μ1⟩, h1, h2⟩ := Option.bind_eq_some_iff.mp he
  simp only [evAnd] at h2
  cases h2
  exact ⟨B, F, ρ, env, μ, _, _, S, h1, q⟩
theorem s_and2 (ha : PE X x (tE X.K Φ Γ a)) (hb : PE X (.BoolOp .And (y :: ys) p) (tAnd X.K Φ Γ b r)) : PE X (.BoolOp .And (x :: y :: ys) p) (tAnd X.K Φ Γ a (.cons b r)) := by
  refine PE.imp (pe_and ha hb) fun σ H Q q => ?_
  obtain ⟨B, F, ρ, env, μ, d, μ', S, he, q⟩ := q
  obtain ⟨⟨dx, μ1⟩, h1, h2⟩ := Option.bind_eq_some_iff.mp he
  refine RE.go S h1 fun v F1 H1 ρ1 e1 S1 r1 => ?_
  dsimp only at h2
  unfold evAnd at h2
  split at h2
  · contradiction
  · rename_i _ _ _ _ _ _ q1
    cases q1
    cases r1
    obtain ⟨⟨dy, μ2⟩, h3, h4⟩ := Option.bind_eq_some_iff.mp h2
    refine ⟨true, rfl, iteT ⟨B, F1, ρ1, _, _, d, μ', S1, ?_, fun w F2 H2 ρ2 e2 s2 c2 r2 => q w F2 H2 ρ2 (e1.trans e2) s2 c2 r2⟩⟩
    dsimp only; rw [h3]; exact h4
  · cases h2
    cases r1
    exact ⟨false, rfl, iteF (q _ F1 H1 ρ1 e1 S1.fh S1.cells (.bl _))⟩
  · cases h2
theorem s_or1 (ha : PE X x (tE X.K Φ Γ a)) : PE X (.BoolOp .Or [x] p) (tOr X.K Φ Γ a .nil) := by
  refine PE.imp (pe_one ha) fun σ H Q q => ?_
  obtain ⟨B, F, ρ, env, μ, d, μ', S, he, q⟩ := q
  obtain ⟨⟨dx, μ1⟩, h1, h2⟩ := Option.bind_eq_some_iff.mp he
  simp only [evOr] at h2
  cases h2
  exact ⟨B, F, ρ, env, μ, _, _, S, h1, q⟩
theorem s_or2 (ha : PE X x (tE X.K Φ Γ a)) (hb : PE X (.BoolOp .Or (y :: ys) p) (tOr X.K Φ Γ b r)) : PE X (.BoolOp .Or (x :: y :: ys) p) (tOr X.K Φ Γ a (.cons b r)) := by
  refine PE.imp (pe_or ha hb) fun σ H Q q => ?_
  obtain ⟨B, F, ρ, env, μ, d, μ', S, he, q⟩ := q
  obtain ⟨⟨dx, μ1⟩, h1, h2⟩ := Option.bind_eq_some_iff.mp he
  refine RE.go S h1 fun v F1 H1 ρ1 e1 S1 r1 => ?_
  dsimp only at h2
  unfold evOr at h2
  split at h2
  · contradiction
  · rename_i _ _ _ _ _ _ q1
    cases q1
    cases r1
    obtain ⟨⟨dy, μ2⟩, h3, h4⟩ := Option.bind_eq_some_iff.mp h2
    refine ⟨false, rfl, iteF ⟨B, F1, ρ1, _, _, d, μ', S1, ?_, fun w F2 H2 ρ2 e2 s2 c2 r2 => q w F2 H2 ρ2 (e1.trans e2) s2 c2 r2⟩⟩
    dsimp only; rw [h3]; exact h4
  · cases h2
    cases r1
    exact ⟨true, rfl, iteT (q _ F1 H1 ρ1 e1 S1.fh S1.cells (.bl _))⟩
  · cases h2
theorem sT_and1 (ha : PT X x (tT X.K Φ Γ a)) : PW X (.BoolOp .And [x] p) (tTAnd X.K Φ Γ a .nil) := by
  refine PW.imp (pw_and1 ha) fun σ H Q q => ?_
  obtain ⟨B, F, ρ, env, μ, d, μ', S, he, q⟩ := q
  obtain ⟨⟨dx, μ1⟩, h1, h2⟩ := Option.bind_eq_some_iff.mp he
  refine ⟨B, F, ρ, env, μ, _, _, S, h1, fun w F2 H2 ρ2 e2 s2 c2 r2 => ?_⟩
  dsimp only at h2
  cases dx with
  | true => rw [if_pos rfl, evTAnd] at h2; cases h2; exact q w F2 H2 ρ2 e2 s2 c2 r2
  | false => rw [if_neg Bool.false_ne_true] at h2; cases h2; exact q w F2 H2 ρ2 e2 s2 c2 r2
theorem sT_and2 (ha : PT X x (tT X.K Φ Γ a)) (hb : PW X (.BoolOp .And (y :: ys) p) (tTAnd X.K Φ Γ b r)) : PW X (.BoolOp .And (x :: y :: ys) p) (tTAnd X.K Φ Γ a (.cons b r)) := by
  refine PW.imp (pw_and ha hb) fun σ H Q q => ?_
  obtain ⟨B, F, ρ, env, μ, d, μ', S, he, q⟩ := q
  obtain ⟨⟨dx, μ1⟩, h1, h2⟩ := Option.bind_eq_some_iff.mp he
  refine RE.go S h1 fun v F1 H1 ρ1 e1 S1 r1 => ?_
  cases r1
  dsimp only at h2
  cases dx with
  | true =>
    rw [if_pos rfl, evTAnd] at h2
    exact iteT ⟨B, F1, ρ1, env, μ1, d, μ', S1, h2, fun w F2 H2 ρ2 e2 s2 c2 r2 => q w F2 H2 ρ2 (e1.trans e2) s2 c2 r2⟩
  | false =>
    rw [if_neg Bool.false_ne_true] at h2; cases h2
    exact iteF (q _ F1 H1 ρ1 e1 S1.fh S1.cells rfl)
theorem sT_or1 (ha : PT X x (tT X.K Φ Γ a)) : PW X (.BoolOp .Or [x] p) (tTOr X.K Φ Γ a .nil) := by
  refine PW.imp (pw_or1 ha) fun σ H Q q => ?_
  obtain ⟨B, F, ρ, env, μ, d, μ', S, he, q⟩ := q
  obtain ⟨⟨dx, μ1⟩, h1, h2⟩ := Option.bind_eq_some_iff.mp he
  refine ⟨B, F, ρ, env, μ, _, _, S, h1, fun w F2 H2 ρ2 e2 s2 c2 r2 => ?_⟩
  dsimp only at h2
  cases dx with
  | true => rw [if_pos rfl] at h2; cases h2; exact q w F2 H2 ρ2 e2 s2 c2 r2
  | false => rw [if_neg Bool.false_ne_true, evTOr] at h2; cases h2; exact q w F2 H2 ρ2 e2 s2 c2 r2
theorem sT_or2 (ha : PT X x (tT X.K Φ Γ a)) (hb : PW X (.BoolOp .Or (y :: ys) p) (tTOr X.K Φ Γ b r)) : PW X (.BoolOp .Or (x :: y :: ys) p) (tTOr X.K Φ Γ a (.cons b r)) := by
  refine PW.imp (pw_or ha hb) fun σ H Q q => ?_
  obtain ⟨B, F, ρ, env, μ, d, μ', S, he, q⟩ := q
  obtain ⟨⟨dx, μ1⟩, h1, h2⟩ := Option.bind_eq_some_iff.mp he
  refine RE.go S h1 fun v F1 H1 ρ1 e1 S1 r1 => ?_
  cases r1
  dsimp only at h2
  cases dx with
  | false =>
    rw [if_neg Bool.false_ne_true, evTOr] at h2
    exact iteF ⟨B, F1, ρ1, env, μ1, d, μ', S1, h2, fun w F2 H2 ρ2 e2 s2 c2 r2 => q w F2 H2 ρ2 (e1.trans e2) s2 c2 r2⟩
  | true =>
    rw [if_pos rfl] at h2; cases h2
    exact iteT (q _ F1 H1 ρ1 e1 S1.fh S1.cells rfl)
/-! ### walks -/
theorem s_seq {tg : Expr} (ha : PE X x (tE X.K Φ Γ a)) : PI X tg x (tI X.K Φ Γ (.seq a)) := by
  refine ⟨fun pins s σ H R I q => ?_⟩
  obtain ⟨B, F, ρ, env, μ, ds, μ', S, he, q⟩ := q
  rw [evI] at he
  obtain ⟨⟨dx, μ1⟩, h1, h2⟩ := Option.bind_eq_some_iff.mp he
  dsimp only at h2
  split at h2
  · cases h2
    refine (pi_tup ha).run pins s σ H R I (RE.go S h1 fun v F1 H1 ρ1 e1 S1 r1 => ?_)
    cases r1 with
    | tup r1 r2 => exact ⟨_, rfl, ⟨_, same_t S1.fh r1⟩, q _ F1 H1 ρ1 e1 S1.fh S1.cells (src_tup r1 r2)⟩
  · cases h2
    refine (pi_list ha).run pins s σ H R I (RE.go S h1 fun v F1 H1 ρ1 e1 S1 r1 => ?_)
    cases r1 with
    | lst r1 r2 => exact ⟨_, rfl, ⟨_, .inl (.inl (S1.fh _ _ r1))⟩, q _ F1 H1 ρ1 e1 S1.fh S1.cells (src_list (.inl (.inl r1)) r2)⟩
  · cases h2
    refine (pi_list ha).run pins s σ H R I (RE.go S h1 fun v F1 H1 ρ1 e1 S1 r1 => ?_)
    cases r1 with
    | scr r1 r2 => exact ⟨_, rfl, ⟨_, S1.fh.seq r1⟩, q _ F1 H1 ρ1 e1 S1.fh S1.cells (src_list r1 r2)⟩
  · cases h2
theorem rngS_eq {lo hi : Int} {ds : List D} (h : rngS lo hi = some ds) : (-(2 ^ 62) ≤ lo ∧ lo < 2 ^ 62 ∧ -(2 ^ 62) ≤ hi ∧ hi < 2 ^ 62) ∧ ds = rangeD lo (hi - lo).toNat := by
  unfold rngS at h
  split at h
  · rename_i q
    cases h
    simp only [Bool.and_eq_true, decide_eq_true_eq] at q
    exact ⟨⟨by omega, by omega, by omega, by omega⟩, rfl⟩
  · cases h
theorem asInt_eq {d : D} {i : Int} (h : asInt d = some i) : d = .int i := by
  unfold asInt at h
  split at h
  · cases h; rfl
  · cases h
theorem s_rng1 {tg : Expr} {p2 : Pos} (G : CG C Φ Γ k X sc) (hg : gloB sc "range" = true) (ha : PE X x (tE X.K Φ Γ a)) (n1 : ∀ v p, x ≠ .Starred v p) : PI X tg (.Call (.Name "range" p2) [x] [] p) (tI X.K Φ Γ (.rng1 a)) := by
  refine PI.imp (pi_range1 (G.gl hg) (G.bi (by decide +kernel)) (pa_cons ha pa_nil (starEach_cons n1)) (starEach_cons n1)) fun σ H R q => ?_
  obtain ⟨B, F, ρ, env, μ, ds, μ', S, he, q⟩ := q
  rw [evI] at he
  obtain ⟨⟨dx, μ1⟩, h1, h2⟩ := Option.bind_eq_some_iff.mp he
  obtain ⟨j, h3, h4⟩ := Option.bind_eq_some_iff.mp h2
  obtain ⟨es, h5, h6⟩ := Option.map_eq_some_iff.mp h4
  cases h6
  refine RE.go S h1 fun v F1 H1 ρ1 e1 S1 r1 => ?_
  have e0 := asInt_eq h3
  subst e0
  cases r1
  obtain ⟨⟨b1, b2, b3, b4⟩, e2⟩ := rngS_eq h5
  subst e2
  rw [show j - 0 = j by omega] at *
  exact ⟨j, rfl, b3, b4, q _ F1 H1 ρ1 e1 S1.fh S1.cells src_range⟩
theorem s_rng2 {tg : Expr} {p2 : Pos} (G : CG C Φ Γ k X sc) (hg : gloB sc "range" = true) (ha : PE X x (tE X.K Φ Γ a)) (hb : PE X y (tE X.K Φ Γ b)) (n1 : ∀ v p, x ≠ .Starred v p) (n2 : ∀ v p, y ≠ .Starred v p) : PI X tg (.Call (.Name "range" p2) [x, y] [] p) (tI X.K Φ Γ (.rng2 a b)) := by
  refine PI.imp (pi_range2 (G.gl hg) (G.bi (by decide +kernel)) (pa_cons ha (pa_cons hb pa_nil (starEach_cons n2)) (starEach_cons n1)) (by rw [starEach_cons n1, starEach_cons n2]; rfl) (starEach_cons n2)) fun σ H R q => ?_
  obtain ⟨B, F, ρ, env, μ, ds, μ', S, he, q⟩ := q
  rw [evI] at he
  obtain ⟨⟨dx, μ1⟩, h1, h2⟩ := Option.bind_eq_some_iff.mp he
  obtain ⟨⟨dy, μ2⟩, h1', h2'⟩ := Option.bind_eq_some_iff.mp h2
  obtain ⟨i, h3, h4⟩ := Option.bind_eq_some_iff.mp h2'
  obtain ⟨j, h3', h4'⟩ := Option.bind_eq_some_iff.mp h4
  obtain ⟨es, h5, h6⟩ := Option.map_eq_some_iff.mp h4'
  cases h6
  refine RE.go S h1 fun v F1 H1 ρ1 e1 S1 r1 => RE.go S1 h1' fun w F2 H2 ρ2 e2 S2 r2 => ?_
  have e0 := asInt_eq h3
  subst e0
  have e0' := asInt_eq h3'
  subst e0'
  cases r1
  cases r2
  obtain ⟨b1, e3⟩ := rngS_eq h5
  subst e3
  exact ⟨i, j, rfl, b1, q _ F2 H2 ρ2 (e1.trans e2) S2.fh S2.cells src_range⟩
theorem s_zip {tg : Expr} {p2 : Pos} (G : CG C Φ Γ k X sc) (hg : gloB sc "zip" = true) (hk : isTup tg = true) (ha : PE X x (tE X.K Φ Γ a)) (hb : PE X y (tE X.K Φ Γ b)) (n1 : ∀ v p, x ≠ .Starred v p) (n2 : ∀ v p, y ≠ .Starred v p) : PI X tg (.Call (.Name "zip" p2) [x, y] [] p) (tI X.K Φ Γ (.zip a b)) := by
  cases tg with
  | Tuple elts kk tpos =>
    refine PI.imp (pi_zipA (G.gl hg) (G.bi (by decide +kernel)) (pa_cons ha (pa_cons hb pa_nil (starEach_cons n2)) (starEach_cons n1)) (starEach_cons n1) (by rw [starEach_cons n2]; rfl)) fun σ H R q => ?_
    obtain ⟨B, F, ρ, env, μ, ds, μ', S, he, q⟩ := q
    rw [evI] at he
    obtain ⟨⟨dx, μ1⟩, h1, h2⟩ := Option.bind_eq_some_iff.mp he
    obtain ⟨⟨dy, μ2⟩, h1', h2'⟩ := Option.bind_eq_some_iff.mp h2
    refine RE.go S h1 fun v F1 H1 ρ1 e1 S1 r1 => RE.go S1 h1' fun w F2 H2 ρ2 e2 S2 r2 => ?_
    dsimp only at h2'
    split at h2'
    · cases h2'
      cases r1 with
      | tup u1 u2 =>
        cases r2 with
        | tup w1 w2 =>
          have v1 := same_t e2.ff u1
          exact ⟨_, _, _, _, rfl, .inr ⟨same_t S2.fh v1, same_t S2.fh w1, q _ F2 H2 ρ2 (e1.trans e2) S2.fh S2.cells (src_zipT v1 w1 (u2.ext e2) w2)⟩⟩
    · cases h2'
      cases r1 with
      | lst u1 u2 =>
        cases r2 with
        | lst w1 w2 =>
          have v1 := e2.ff _ _ u1
          exact ⟨_, _, _, _, rfl, .inl ⟨.inl (.inl (S2.fh _ _ v1)), .inl (.inl (S2.fh _ _ w1)), q _ F2 H2 ρ2 (e1.trans e2) S2.fh S2.cells (src_zipL (.inl (.inl v1)) (.inl (.inl w1)) (u2.ext e2) w2)⟩⟩
    · cases h2'
  | _ => cases hk
theorem s_enum {tg : Expr} {p2 : Pos} (G : CG C Φ Γ k X sc) (hg : gloB sc "enumerate" = true) (hk : isTup tg = true) (ha : PE X x (tE X.K Φ Γ a)) (n1 : ∀ v p, x ≠ .Starred v p) : PI X tg (.Call (.Name "enumerate" p2) [x] [] p) (tI X.K Φ Γ (.enum a)) := by
  cases tg with
  | Tuple elts kk tpos =>
    refine PI.imp (pi_enum (G.gl hg) (G.bi (by decide +kernel)) (pa_cons ha pa_nil (starEach_cons n1)) (starEach_cons n1)) fun σ H R q => ?_
    obtain ⟨B, F, ρ, env, μ, ds, μ', S, he, q⟩ := q
    rw [evI] at he
    obtain ⟨⟨dx, μ1⟩, h1, h2⟩ := Option.bind_eq_some_iff.mp he
    refine RE.go S h1 fun v F1 H1 ρ1 e1 S1 r1 => ?_
    dsimp only at h2
    split at h2
    · cases h2
      cases r1 with
      | lst u1 u2 => exact ⟨_, _, rfl, .inl (.inl (S1.fh _ _ u1)), q _ F1 H1 ρ1 e1 S1.fh S1.cells (src_enum (.inl (.inl u1)) u2)⟩
    · cases h2
  | _ => cases hk
end
end Py
end
section
set_option Elab.async false
set_option linter.all false
set_option maxRecDepth 100000
namespace Py
open PySem L2 RZ
section
variable {K : PySem.W.Frag} {B F H F' H' : Hp} {ρ ρ' : List Addr} {μ : Store} {p : Addr} {o : HO}
theorem write_ok (e : Ext F H ρ F' H' ρ') (fh : Same F' H') (c : Cells K F' H' ρ' μ) (hH : H p = none) (hF : F' p = none) (hρ : p ∉ ρ') : Ext F H ρ F' (upd H' p o) ρ' ∧ Same F' (upd H' p o) ∧ Cells K F' (upd H' p o) ρ' μ := by
  refine ⟨⟨e.ff, fun a u h n => ?_, fun a h => ?_, e.new, e.rr, e.rn⟩, fun a u h => ?_, ⟨c.len, c.nd, fun i a ds h1 h2 => ?_⟩⟩
  · rw [upd_ne (ne_of_none h hH)]; exact e.hh a u h n
  · by_cases q : a = p
    · subst q; exact absurd hH h
    · rw [upd_ne q]; exact e.dm a h
  · rw [upd_ne (ne_of_none h hF)]; exact fh a u h
  · obtain ⟨z1, ys, z2, z3⟩ := c.at_ i a ds h1 h2
    refine ⟨z1, ys, ?_, z3⟩
    rw [upd_ne (fun z => hρ (by rw [← z]; exact List.mem_of_getElem? h1))]
    exact z2
theorem frz_ok (e : Ext F H ρ F' H' ρ') (fh : Same F' H') (c : Cells K F' H' ρ' μ) (hH : H p = none) (h' : H' p = some o) (hF : F' p = none) (hρ : p ∉ ρ') : Ext F H ρ (upd F' p o) H' ρ' ∧ Same (upd F' p o) H' ∧ Cells K (upd F' p o) H' ρ' μ := by
  refine ⟨⟨e.ff.trans (same_upd' hF), e.hh, e.dm, fun a h1 h2 => ?_, e.rr, e.rn⟩, fun a u h => ?_, ⟨c.len, c.nd, fun i a ds h1 h2 => ?_⟩⟩
  · by_cases q : a = p
    · subst q; exact hH
    · rw [upd_ne q] at h2; exact e.new a h1 h2
  · by_cases q : a = p
    · subst q; rw [upd_same] at h; rw [h']; exact h
    · rw [upd_ne q] at h; exact fh a u h
  · obtain ⟨z1, ys, z2, z3⟩ := c.at_ i a ds h1 h2
    refine ⟨?_, ys, z2, DrL.mono (same_upd' hF) (fun _ _ h => h) _ _ z3⟩
    rw [upd_ne (fun z => hρ (by rw [← z]; exact List.mem_of_getElem? h1))]
    exact z1
end
/-- a new list, not yet frozen -/
def tN (K : PySem.W.Frag) (f : Env → Store → Option (List D × Store)) : TE := fun σ H Q => ∃ B F ρ env μ ds μ', SR K B F H ρ σ env μ ∧ f env μ = some (ds, μ') ∧
  ∀ p F' H' ρ' xs, Ext F H ρ F' H' ρ' → Same F' H' → Cells K F' H' ρ' μ' → H' p = some (.lst xs) → H p = none → F' p = none → p ∉ ρ' → DrL K F' ρ' xs ds → Q (.ref p) H'
def lcF (Φ : FnS) (Γ : GlS) (a : E) (t : T) (it : I) (c : Eo) (vs : List Nat) : Env → Store → Option (List D × Store) := fun env μ => (evI Φ Γ it env μ).bind fun (ds, μ1) => if ds.length ≤ SZ then lcS t (fun env' μ' => evc Φ Γ c env' μ') (fun env' μ' => ev Φ Γ a env' μ') (wipeE env vs) ds μ1 else none
theorem tN_freeze {K : PySem.W.Frag} {f : Env → Store → Option (List D × Store)} {g : Env → Store → Option (D × Store)} (hg : ∀ env μ r, g env μ = some r → ∃ ds, r.1 = .lst ds ∧ f env μ = some (ds, r.2)) : ∀ σ H Q, RE (fun F ρ v d => Dr K F ρ v d) K g σ H Q → tN K f σ H Q := by
  intro σ H Q q
  obtain ⟨B, F, ρ, env, μ, d, μ', S, h0, q⟩ := q
  obtain ⟨ds, h1, h2⟩ := hg env μ _ h0
  dsimp only at h1 h2
  subst h1
  refine ⟨B, F, ρ, env, μ, ds, μ', S, h2, fun p F' H' ρ' xs e s c h3 h4 h5 h6 r => ?_⟩
  obtain ⟨w1, w2, w3⟩ := frz_ok e s c h4 h3 h5 h6
  exact q _ _ H' ρ' w1 w2 w3 (.lst upd_same (DrL.mono (same_upd' h5) (fun _ _ h => h) _ _ r))
section
variable {C : MC} {Φ : FnS} {Γ : GlS} {k : Nat} {X : Cx} {sc : Scope}
theorem s_lc {a : E} {t : T} {it : I} {c : Eo} {vs : List Nat} {x tg iter : Expr} {ifs : List Expr} {scope : Scope} {p : Pos} (G : CG C Φ Γ k X sc) (hb : blkC C.N sc scope (vs.map fun i => (C.N.getD i "", i)) = true) (hsub : ∀ j ∈ tgS t, j ∈ vs)
    (hset : ∀ x, foldedSetIterable iter X.env x = pure x) (hi : PI X tg iter (tI X.K Φ Γ it))
    (hg : ∀ (s : Shared) (H : Hp) (Cc : Addr) (cl : List (Str × Addr)) (fp : List Addr), PG (X.blk s H scope (compEnvC scope cl Cc X.env) fp) tg (gT X.K t))
    (ht : ∀ (s : Shared) (H : Hp) (Cc : Addr) (cl : List (Str × Addr)) (fp : List Addr), PTs (X.blk s H scope (compEnvC scope cl Cc X.env) fp) ifs (tC X.K Φ Γ c))
    (he : ∀ (s : Shared) (H : Hp) (Cc : Addr) (cl : List (Str × Addr)) (fp : List Addr), PE (X.blk s H scope (compEnvC scope cl Cc X.env) fp) x (tE X.K Φ Γ a)) :
    (PE X (.ListComp x [⟨tg, iter, ifs, 0⟩] scope p) (tE X.K Φ Γ (.lc a t it c vs)) ∧ PE X (.ListComp x [⟨tg, iter, ifs, 0⟩] scope p) (tN X.K (lcF Φ Γ a t it c vs))) ∧ (∀ σ H Q, tE X.K Φ Γ (.lc a t it c vs) σ H Q → tN X.K (lcF Φ Γ a t it c vs) σ H Q) ∧
      ∀ σ H Q, tN X.K (lcF Φ Γ a t it c vs) σ H Q → tLc (tI X.K Φ Γ it) (gT X.K t) (tC X.K Φ Γ c) (tE X.K Φ Γ a) ((vs.map fun i => (C.N.getD i "", i)).map (·.2)) σ H Q := by
  have fz : ∀ σ H Q, tE X.K Φ Γ (.lc a t it c vs) σ H Q → tN X.K (lcF Φ Γ a t it c vs) σ H Q := by
    refine tN_freeze fun env μ r hr => ?_
    rw [ev] at hr
    obtain ⟨⟨ds, μ1⟩, h1, h2⟩ := Option.bind_eq_some_iff.mp hr
    dsimp only at h2
    split at h2
    case isFalse => cases h2
    rename_i hz
    obtain ⟨⟨xs, μe⟩, h3, h4⟩ := Option.map_eq_some_iff.mp h2
    cases h4
    refine ⟨xs, rfl, ?_⟩
    unfold lcF
    rw [h1]
    dsimp only [Option.bind_some]
    rw [if_pos hz]
    exact h3
  have key : ∀ σ H Q, tN X.K (lcF Φ Γ a t it c vs) σ H Q → tLc (tI X.K Φ Γ it) (gT X.K t) (tC X.K Φ Γ c) (tE X.K Φ Γ a) ((vs.map fun i => (C.N.getD i "", i)).map (·.2)) σ H Q := by
    intro σ H Q q
    have evs_eq : (vs.map fun i => (C.N.getD i "", i)).map (·.2) = vs := by
      rw [List.map_map]
      exact List.map_id _
    rw [evs_eq]
    obtain ⟨B, F, ρ, env, μ, xs, μe, S, h0, q⟩ := q
    unfold lcF at h0
    obtain ⟨⟨ds, μ1⟩, h1, h2⟩ := Option.bind_eq_some_iff.mp h0
    dsimp only at h2
    split at h2
    case isFalse => cases h2
    rename_i hz
    have h3 := h2
    refine RE.go S h1 fun J F1 H1 ρ1 e1 S1 r1 D0 hD => ?_
    obtain ⟨G', Y, W, hG, hY⟩ := r1
    have fD : F1 D0 = none := S1.fh.free hD
    have nD : D0 ∉ ρ1 := fun z => by
      obtain ⟨i, hi, e⟩ := List.getElem_of_mem z
      have hi' := hi
      rw [S1.cells.len] at hi'
      obtain ⟨_, ys, z2, _⟩ := S1.cells.at_ i D0 _ (by rw [List.getElem?_eq_getElem hi, e]) (List.getElem?_eq_getElem hi')
      rw [hD] at z2; cases z2
    have w0 := write_ok (o := .lst []) (Ext.refl (F := F1) (H := H1) (ρ := ρ1)) S1.fh S1.cells hD fD nD
    refine lc_it W (fun i H2 => ∃ F2 ρ2 μ2 acc accd rest, Ext F1 H1 ρ1 F2 H2 ρ2 ∧ Same F2 H2 ∧ Cells X.K F2 H2 ρ2 μ2 ∧ H2 D0 = some (.lst acc) ∧ F2 D0 = none ∧ D0 ∉ ρ2 ∧ DrL X.K F2 ρ2 acc accd ∧ acc.length ≤ i ∧
      lcS t (fun env' μ' => evc Φ Γ c env' μ') (fun env' μ' => ev Φ Γ a env' μ') (wipeE env vs) (ds.drop i) μ2 = some (rest, μe) ∧ accd ++ rest = xs) ?_ ?_ ?_ ?_
    · exact ⟨F1, ρ1, μ1, [], [], xs, w0.1, w0.2.1, w0.2.2, upd_same, fD, nD, .nil, Nat.le_refl _, h3, rfl⟩
    · rintro i H2 _ ⟨F2, ρ2, μ2, acc, accd, rest, e2, s2, _⟩
      exact hG F2 H2 e2.ff s2
    · rintro i y H2 H2' hi ⟨F2, ρ2, μ2, acc, accd, rest, e2, s2, c2, d2, f2, n2, r2, l2, q2, q3⟩ hy
      obtain ⟨F3, dx, P, g1, g2⟩ := hY i y H2 H2' F2 hi e2.ff s2 hy
      have hdrop : ds.drop i = dx :: ds.drop (i + 1) := by
        have hlt : i < ds.length := hi
        rw [List.drop_eq_getElem_cons hlt]
        rw [List.getElem?_eq_getElem hlt] at g1
        cases g1
        rfl
      rw [hdrop, lcS] at q2
      obtain ⟨env', u1, u2⟩ := Option.bind_eq_some_iff.mp q2
      obtain ⟨⟨b, μ3⟩, u3, u4⟩ := Option.bind_eq_some_iff.mp u2
      have S2 : SR X.K B F2 H2 ρ2 σ env μ2 := S1.step e2 s2 c2
      have S3 := (S2.px P).wipe vs
      have dD : H2' D0 = some (.lst acc) := P.hh _ _ d2
      have f3 : F3 D0 = none := by
        by_cases z : F3 D0 = none
        · exact z
        · have := P.new D0 f2 z
          rw [d2] at this; cases this
      refine ⟨B, F3, ρ2, wipeE env vs, μ2, dx, env', S3, g2 ρ2 e2.rr, u1, fun σ2 S4 hl hj => ⟨?_, ?_⟩⟩
      · rw [wipe_same hl fun j hj' => hj j fun z => hj' (hsub j z), wipe_idem]
      · refine RE.go S4 u3 fun b' F4 H4 ρ4 e4 S5 r => ?_
        cases r
        have d4 : H4 D0 = some (.lst acc) := e4.hh _ _ dD n2
        have f4 : F4 D0 = none := by
          by_cases z : F4 D0 = none
          · exact z
          · have := e4.new D0 f3 z
            rw [dD] at this; cases this
        have n4 : D0 ∉ ρ4 := fun z => (e4.rn D0 z).elim n2 fun z => by rw [dD] at z; cases z
        dsimp only at u4
        cases b with
        | true =>
          rw [if_pos rfl] at u4
          obtain ⟨⟨dy, μ4⟩, u5, u6⟩ := Option.bind_eq_some_iff.mp u4
          obtain ⟨⟨rest', μ5⟩, u7, u8⟩ := Option.map_eq_some_iff.mp u6
          cases u8
          refine iteT (RE.go S5 u5 fun w F5 H5 ρ5 e5 S6 r5 => ?_)
          have d5 : H5 D0 = some (.lst acc) := e5.hh _ _ d4 n4
          have f5 : F5 D0 = none := by
            by_cases z : F5 D0 = none
            · exact z
            · have := e5.new D0 f4 z
              rw [d4] at this; cases this
          have n5 : D0 ∉ ρ5 := fun z => (e5.rn D0 z).elim n4 fun z => by rw [d4] at z; cases z
          have hsz : acc.length < sizeLine := by rw [sz]; omega
          have eA := ((e2.trans P.ext).trans e4).trans e5
          obtain ⟨w1, w2, w3⟩ := write_ok (o := .lst (acc ++ [w])) eA S6.fh S6.cells hD f5 n5
          refine ⟨acc, d5, hsz, F5, ρ5, μ4, acc ++ [w], accd ++ [dy], rest', w1, w2, w3, upd_same, f5, n5, ((((r2.ext P.ext).ext e4).ext e5).append (.cons r5 .nil)), by simp; omega, u7, ?_⟩
          rw [List.append_assoc]
          exact q3
        | false =>
          rw [if_neg Bool.false_ne_true] at u4
          exact iteF ⟨F4, ρ4, μ3, acc, accd, rest, (e2.trans P.ext).trans e4, S5.fh, S5.cells, d4, f4, n4, (r2.ext P.ext).ext e4, by omega, u4, q3⟩
    · rintro H2 ⟨F2, ρ2, μ2, acc, accd, rest, e2, s2, c2, d2, f2, n2, r2, l2, q2, q3⟩
      rw [List.drop_length, lcS] at q2
      cases q2
      rw [List.append_nil] at q3
      subst q3
      have hn : H D0 = none := by
        by_cases z : H D0 = none
        · exact z
        · exact absurd hD (e1.dm D0 z)
      exact q D0 F2 H2 ρ2 acc (e1.trans e2) s2 c2 d2 hn f2 n2 r2
  have pn := PE.imp (pe_lc (pos := p) G.calm G.nd hi (G.blkOk hb) hg ht he hset) key
  exact ⟨⟨PE.imp pn fz, pn⟩, fz, key⟩
/-! ### an own list lent -/
theorem flat_dr {K : PySem.W.Frag} {F F' : Hp} {ρ ρ' : List Addr} {v : V} {d : D} (h : Dr K F ρ v d) (f : flat d = true) : Dr K F' ρ' v d := by
  cases h <;> first | exact .non | exact .bl _ | exact .int _ | exact .str _ | cases f
theorem flat_drL {K : PySem.W.Frag} {F F' : Hp} {ρ ρ' : List Addr} : ∀ {v : List V} {d : List D}, DrL K F ρ v d → d.all flat = true → DrL K F' ρ' v d
  | _, _, .nil, _ => .nil
  | _, _, .cons a b, f => by
    rw [List.all_cons, Bool.and_eq_true] at f
    exact .cons (flat_dr a f.1) (flat_drL b f.2)
theorem scalS_at : ∀ {μ : Store} {i : Nat} {ds : List D}, scalS μ = true → μ[i]? = some ds → ds.all flat = true
  | [], _, _, _, h => by simp at h
  | es :: r, 0, _, h, e => by
    rw [scalS, Bool.and_eq_true] at h
    simp at e; subst e; exact h.1
  | es :: r, i + 1, _, h, e => by
    rw [scalS, Bool.and_eq_true] at h
    exact scalS_at h.2 (by simpa using e)
theorem lend {K : PySem.W.Frag} {B F H : Hp} {ρ : List Addr} {σ : L2.St} {env : Env} {μ : Store} {i : Nat} {ds : List D} (S : SR K B F H ρ σ env μ) (h : getO env i = some ds) :
    ∃ F1, SR K B F1 H ρ σ (env.set i (some (.val (.lst ds)))) μ ∧ ∀ F' H' ρ' μ', Ext F1 H ρ F' H' ρ' → Same F' H' → Cells K F' H' ρ' μ' → scalS μ' = true → ∃ F2, Ext F H ρ F2 H' ρ' ∧ Same F2 H' ∧ Cells K F2 H' ρ' μ' := by
  have he := getO_eq h
  obtain ⟨v, h1, a, xs, rfl, h2, h3, h4, h5, h6⟩ := S.env.at_ _ _ he
  have hi : i < env.length := (List.getElem?_eq_some_iff.mp he).1
  have hz : ∀ a', F a' = none → upd F a (.lst xs) a' ≠ none → a' = a := fun a' h7 h8 => by
    by_cases q : a' = a
    · exact q
    · rw [upd_ne q] at h8; exact absurd h7 h8
  refine ⟨upd F a (.lst xs), ⟨fun b o e => ?_, ⟨S.cells.len, S.cells.nd, fun j b es g1 g2 => ?_⟩, ⟨by rw [List.length_set]; exact S.env.len, fun j sv g => ?_, fun j l es fs b g1 g2 g3 g4 => ?_⟩⟩, ?_⟩
  · by_cases q : b = a
    · subst q; rw [upd_same] at e; rw [h2]; exact e
    · rw [upd_ne q] at e; exact S.fh b o e
  · obtain ⟨z1, ys, z2, z3⟩ := S.cells.at_ j b es g1 g2
    refine ⟨?_, ys, z2, DrL.mono (same_upd' h4) (fun _ _ h => h) _ _ z3⟩
    rw [upd_ne (fun z => h5 (by rw [← z]; exact List.mem_of_getElem? g1))]
    exact z1
  · by_cases q : i = j
    · subst q
      rw [List.getElem?_set_self hi] at g
      cases g
      exact ⟨_, h1, .lst upd_same (DrL.mono (same_upd' h4) (fun _ _ h => h) _ _ h3)⟩
    · rw [List.getElem?_set_ne q] at g
      obtain ⟨w, w1, w2⟩ := S.env.at_ j sv g
      refine ⟨w, w1, ?_⟩
      cases sv with
      | val d => exact Dr.mono (same_upd' h4) (fun _ _ h => h) _ _ w2
      | own es =>
        obtain ⟨b, ys, rfl, k2, k3, k4, k5, k6⟩ := w2
        have nb : b ≠ a := fun z => q (S.env.apart i j ds es a he g h1 (by rw [← z]; exact w1))
        exact ⟨b, ys, rfl, k2, DrL.mono (same_upd' h4) (fun _ _ h => h) _ _ k3, by rw [upd_ne nb]; exact k4, k5, k6⟩
  · have own_ne : ∀ {j : Nat} {es : List D}, (env.set i (some (.val (.lst ds))))[j]? = some (some (.own es)) → i ≠ j := fun {j es} h q => by
      subst q
      rw [List.getElem?_set_self hi] at h; cases h
    rw [List.getElem?_set_ne (own_ne g1)] at g1
    rw [List.getElem?_set_ne (own_ne g2)] at g2
    exact S.env.apart j l es fs b g1 g2 g3 g4
  · intro F' H' ρ' μ' e s c hs
    have na : ∀ b, b ∈ ρ' → b ≠ a := fun b hb z => by
      subst z
      rcases e.rn b hb with z | z
      · exact h5 z
      · rw [h2] at z; cases z
    refine ⟨fun b => if b = a then none else F' b, ⟨fun b o g => ?_, e.hh, e.dm, fun b g1 g2 => ?_, e.rr, e.rn⟩, fun b o g => ?_, ⟨c.len, c.nd, fun j b es g1 g2 => ?_⟩⟩
    · have nb : b ≠ a := ne_of_none g h4
      rw [if_neg nb]
      exact e.ff b o (by rw [upd_ne nb]; exact g)
    · by_cases q : b = a
      · rw [if_pos q] at g2; exact absurd rfl g2
      · rw [if_neg q] at g2
        exact e.new b (by rw [upd_ne q]; exact g1) g2
    · dsimp only at g
      by_cases q : b = a
      · rw [if_pos q] at g; cases g
      · rw [if_neg q] at g; exact s b o g
    · obtain ⟨z1, ys, z2, z3⟩ := c.at_ j b es g1 g2
      refine ⟨?_, ys, z2, flat_drL z3 (scalS_at hs g2)⟩
      rw [if_neg (na b (List.mem_of_getElem? g1))]
      exact z1
theorem s_bor {i : Nat} {a : E} {x : Expr} (ha : PE X x (tE X.K Φ Γ a)) : PE X x (tE X.K Φ Γ (.bor i a)) := by
  refine PE.imp ha fun σ H Q q => ?_
  obtain ⟨B, F, ρ, env, μ, d, μ', S, he, q⟩ := q
  rw [ev] at he
  obtain ⟨ds, h1, h2⟩ := Option.bind_eq_some_iff.mp he
  obtain ⟨⟨d', μ1⟩, h3, h4⟩ := Option.bind_eq_some_iff.mp h2
  dsimp only at h4
  split at h4
  case isFalse => cases h4
  rename_i hf
  cases h4
  rw [Bool.and_eq_true] at hf
  obtain ⟨F1, S1, k1⟩ := lend S h1
  refine ⟨B, F1, ρ, _, μ, _, _, S1, h3, fun v F' H' ρ' e s c r => ?_⟩
  obtain ⟨F2, w1, w2, w3⟩ := k1 F' H' ρ' _ e s c hf.2
  exact q v F2 H' ρ' w1 w2 w3 (flat_dr r hf.1)
theorem sT_bor {i : Nat} {a : E} {x : Expr} (ha : PT X x (tT X.K Φ Γ a)) : PT X x (tT X.K Φ Γ (.bor i a)) := by
  refine PT.imp ha fun σ H Q q => ?_
  obtain ⟨B, F, ρ, env, μ, d, μ', S, he, q⟩ := q
  rw [evT] at he
  obtain ⟨ds, h1, h2⟩ := Option.bind_eq_some_iff.mp he
  obtain ⟨⟨d', μ1⟩, h3, h4⟩ := Option.bind_eq_some_iff.mp h2
  dsimp only at h4
  split at h4
  case isFalse => cases h4
  rename_i hf
  cases h4
  obtain ⟨F1, S1, k1⟩ := lend S h1
  refine ⟨B, F1, ρ, _, μ, _, _, S1, h3, fun v F' H' ρ' e s c r => ?_⟩
  obtain ⟨F2, w1, w2, w3⟩ := k1 F' H' ρ' _ e s c hf
  exact q v F2 H' ρ' w1 w2 w3 r
end
end Py
end
section
set_option Elab.async false
set_option linter.all false
set_option maxRecDepth 100000
set_option maxHeartbeats 4000000
namespace Py
open PySem L2 RZ
theorem mE_noset {C : MC} {sc : Scope} : ∀ {m : E} {e : Expr}, mE C sc m e = true → ∀ l n p, e ≠ .Set l n p := by
  intro m
  induction m using E.rec (motive_2 := fun _ => True) (motive_3 := fun _ => True) (motive_4 := fun _ => True) with
  | bor i e ih => intro x h; rw [mE] at h; exact ih h
  | nil => trivial
  | cons => trivial
  | none => trivial
  | some => trivial
  | seq => trivial
  | rng1 => trivial
  | rng2 => trivial
  | zip => trivial
  | enum => trivial
  | _ =>
    intro x h v n p z
    subst z
    rw [mE] at h <;> first | cases h | (intros; contradiction)
theorem folded_of {e : Expr} {env : PySem.Env} (h : ∀ l n p, e ≠ .Set l n p) : ∀ x, foldedSetIterable e env x = pure x := by
  cases e <;> first | exact fun _ => rfl | exact absurd rfl (h _ _ _)
theorem mI_noset {C : MC} {sc : Scope} {it : I} {e : Expr} {k : Bool} (h : mI C sc it e k = true) : ∀ l n p, e ≠ .Set l n p := by
  cases it with
  | seq a => exact mE_noset (mI_seq h)
  | rng1 a => obtain ⟨_, _, _, _, rfl, _⟩ := mI_rng1 h; exact fun _ _ _ z => nomatch z
  | rng2 a b => obtain ⟨_, _, _, _, _, rfl, _⟩ := mI_rng2 h; exact fun _ _ _ z => nomatch z
  | zip a b => obtain ⟨_, _, _, _, _, rfl, _⟩ := mI_zip h; exact fun _ _ _ z => nomatch z
  | enum a => obtain ⟨_, _, _, _, rfl, _⟩ := mI_enum h; exact fun _ _ _ z => nomatch z
theorem blk_kind {N : List Str} {sc scope : Scope} {own : List (Str × Nat)} (h : blkC N sc scope own = true) : scope.kind = .function := (blkOk_by h).kind
section
variable {C : MC} {Φ : FnS} {Γ : GlS} {k : Nat}
theorem sT_none {X : Cx} {m : E} {e : Expr} (h : ∀ env μ, evT Φ Γ m env μ = none) : PT X e (tT X.K Φ Γ m) := ⟨fun pins s σ H Q I q => by
  obtain ⟨B, F, ρ, env, μ, d, μ', S, he, q⟩ := q
  rw [h] at he; cases he⟩
theorem bool_of_map {α : Type} {f : α → Bool → Bool} {x : Option (D × Store)} {g : D → Option Bool} {r : Bool × Store} (h : (x.bind fun p => (g p.1).map fun k => (k, p.2)) = some r) : ∃ d, x = some (d, r.2) ∧ g d = some r.1 := by
  obtain ⟨⟨d, μ⟩, h1, h2⟩ := Option.bind_eq_some_iff.mp h
  obtain ⟨b, h3, h4⟩ := Option.map_eq_some_iff.mp h2
  cases h4
  exact ⟨d, h1, h3⟩
theorem pa_two {Φ : FnS} {Γ : GlS} {X : Cx} {m : E} {ms : Es} {y : Expr} {ys : List Expr} (h1 : PE X y (tE X.K Φ Γ m)) (n : ∀ v p, y ≠ .Starred v p) (h2 : PA X ys (tEs X.K Φ Γ ms)) : PA X (y :: ys) (tEs X.K Φ Γ (.cons m ms)) := by
  refine PA.imp (pa_cons h1 h2 (starEach_cons n)) fun σ H Q q => ?_
  obtain ⟨B, F, ρ, env, μ, d, μ', S, he, q⟩ := q
  rw [evs] at he
  obtain ⟨⟨dx, μ1⟩, h1, h2⟩ := Option.bind_eq_some_iff.mp he
  obtain ⟨⟨dl, μ2⟩, h3, h4⟩ := Option.map_eq_some_iff.mp h2
  cases h4
  exact RE.go S h1 fun v F1 H1 ρ1 e1 S1 r1 => RE.go S1 h3 fun w F2 H2 ρ2 e2 S2 r2 => q _ F2 H2 ρ2 (e1.trans e2) S2.fh S2.cells (.cons (r1.ext e2) r2)
theorem pa_nil' {Φ : FnS} {Γ : GlS} {X : Cx} : PA X [] (tEs X.K Φ Γ .nil) := PA.imp pa_nil fun σ H Q q => by
  obtain ⟨B, F, ρ, env, μ, d, μ', S, he, q⟩ := q
  rw [evs] at he
  cases he
  exact q _ F H ρ .refl S.fh S.cells .nil
theorem po_none' {Φ : FnS} {Γ : GlS} {X : Cx} : PO X none (tO X.K Φ Γ .none) := PO.imp po_none fun σ H Q q => by
  obtain ⟨B, F, ρ, env, μ, d, μ', S, he, q⟩ := q
  rw [evo] at he
  cases he
  exact q _ F H ρ .refl S.fh S.cells rfl
theorem po_some' {Φ : FnS} {Γ : GlS} {X : Cx} {m : E} {e : Expr} (h : PE X e (tE X.K Φ Γ m)) : PO X (some e) (tO X.K Φ Γ (.some m)) := PO.imp (po_some h) fun σ H Q q => by
  obtain ⟨B, F, ρ, env, μ, d, μ', S, he, q⟩ := q
  rw [evo] at he
  obtain ⟨⟨dx, μ1⟩, h1, h2⟩ := Option.bind_eq_some_iff.mp he
  obtain ⟨i, h3, h4⟩ := Option.map_eq_some_iff.mp h2
  cases h4
  refine RE.go S h1 fun v F1 H1 ρ1 e1 S1 r1 => ?_
  have e0 := asInt_eq h3
  subst e0
  cases r1
  exact ⟨_, rfl, q _ F1 H1 ρ1 e1 S1.fh S1.cells rfl⟩
theorem pc_none' {Φ : FnS} {Γ : GlS} {X : Cx} : PTs X [] (tC X.K Φ Γ .none) := PTs.imp pts_nil fun σ H Q q => by
  obtain ⟨B, F, ρ, env, μ, d, μ', S, he, q⟩ := q
  rw [evc] at he
  cases he
  exact q _ F H ρ .refl S.fh S.cells rfl
theorem pc_some' {Φ : FnS} {Γ : GlS} {X : Cx} {m : E} {e : Expr} (h : PT X e (tT X.K Φ Γ m)) : PTs X [e] (tC X.K Φ Γ (.some m)) := PTs.imp (pts_one h) fun σ H Q q => by
  obtain ⟨B, F, ρ, env, μ, d, μ', S, he, q⟩ := q
  rw [evc] at he
  exact ⟨B, F, ρ, env, μ, d, μ', S, he, q⟩
mutual
theorem peE : ∀ (m : E) (X : Cx) (sc : Scope) (e : Expr), CG C Φ Γ k X sc → mE C sc m e = true → PE X e (tE X.K Φ Γ m)
  | .slot i, X, sc, e, G, h => by obtain ⟨x, p, rfl, ⟨h1, h2⟩, h3⟩ := mE_slot h; exact s_slot G h1 h2 h3
  | .glob i, X, sc, e, G, h => by obtain ⟨x, p, rfl, ⟨h1, h2⟩, h3⟩ := mE_glob h; exact s_glob G h1 h2 h3
  | .int i, X, sc, e, G, h => by obtain ⟨j, n, p, rfl, rfl⟩ := mE_int h; exact s_int
  | .bl i, X, sc, e, G, h => by obtain ⟨j, n, p, rfl, rfl⟩ := mE_bl h; exact s_bl
  | .non, X, sc, e, G, h => by obtain ⟨n, p, rfl⟩ := mE_non h; exact s_non
  | .str i, X, sc, e, G, h => by obtain ⟨j, n, p, rfl, rfl⟩ := mE_str h; exact s_str
  | .bin op a b, X, sc, e, G, h => by
    obtain ⟨x, o, y, p, rfl, ⟨rfl, h1⟩, h2⟩ := mE_bin h
    exact s_bin (peE a X sc x G h1) (peE b X sc y G h2)
  | .neg a, X, sc, e, G, h => by
    obtain ⟨x, p, rfl, h1⟩ := mE_neg h
    exact s_neg (peE a X sc x G h1)
  | .not a, X, sc, e, G, h => by
    obtain ⟨x, p, rfl, h1⟩ := mE_not h
    exact s_not (peE a X sc x G h1)
  | .cmp op a b, X, sc, e, G, h => by
    obtain ⟨x, o, y, p, rfl, ⟨⟨⟨rfl, h3⟩, h4⟩, h1⟩, h2⟩ := mE_cmp h
    exact s_cmp G (of_decide_eq_false h3) (of_decide_eq_false h4) (peE a X sc x G h1) (peE b X sc y G h2)
  | .isN a, X, sc, e, G, h => by
    obtain ⟨x, n, p2, p, rfl, h1⟩ := mE_isN h
    exact s_isN (peE a X sc x G h1)
  | .notN a, X, sc, e, G, h => by
    obtain ⟨x, n, p2, p, rfl, h1⟩ := mE_notN h
    exact s_notN (peE a X sc x G h1)
  | .and a r, X, sc, e, G, h => by
    obtain ⟨x, xs, p, rfl, h1, h2⟩ := mE_and h
    refine PE.imp (pAnd r X sc xs a x p G (peE a X sc x G h1) h2) fun σ H Q q => ?_
    obtain ⟨B, F, ρ, env, μ, d, μ', S, he, q⟩ := q
    rw [ev] at he
    exact ⟨B, F, ρ, env, μ, d, μ', S, he, q⟩
  | .or a r, X, sc, e, G, h => by
    obtain ⟨x, xs, p, rfl, h1, h2⟩ := mE_or h
    refine PE.imp (pOr r X sc xs a x p G (peE a X sc x G h1) h2) fun σ H Q q => ?_
    obtain ⟨B, F, ρ, env, μ, d, μ', S, he, q⟩ := q
    rw [ev] at he
    exact ⟨B, F, ρ, env, μ, d, μ', S, he, q⟩
  | .ite c a b, X, sc, e, G, h => by
    obtain ⟨z, x, y, p, rfl, ⟨h1, h2⟩, h3⟩ := mE_ite h
    exact s_ite (ptE c X sc z G h1) (peE a X sc x G h2) (peE b X sc y G h3)
  | .tup es, X, sc, e, G, h => by
    obtain ⟨xs, n, p, rfl, h1⟩ := mE_tup h
    exact s_tup (paEs es X sc xs G h1)
  | .lst es, X, sc, e, G, h => by
    obtain ⟨xs, p, rfl, h1⟩ := mE_lst h
    exact s_lst (paEs es X sc xs G h1)
  | .mlst es, X, sc, e, G, h => by
    obtain ⟨xs, p, rfl, h1⟩ := mE_mlst h
    exact s_mlst (paEs es X sc xs G h1)
  | .ix a b, X, sc, e, G, h => by
    obtain ⟨x, y, p, rfl, h1, h2⟩ := mE_ix h
    exact s_ix (mE_nostar h2).2 (peE a X sc x G h1) (peE b X sc y G h2)
  | .slc a lo hi, X, sc, e, G, h => by
    obtain ⟨x, l, u, p2, p, rfl, ⟨h1, h2⟩, h3⟩ := mE_slc h
    exact s_slc (peE a X sc x G h1) (poEo lo X sc l G h2) (poEo hi X sc u G h3)
  | .call f a es, X, sc, e, G, h => by
    obtain ⟨x, p2, y, ys, p, rfl, ⟨⟨⟨h1, h2⟩, h3⟩, h4⟩, h5⟩ := mE_call h
    exact s_call G h1 h2 h3 (pa_two (peE a X sc y G h4) (mE_nostar h4).1 (paEs es X sc ys G h5)) (mE_nostar h4).1 (mEs_nostar h5)
  | .bi b a es, X, sc, e, G, h => by
    obtain ⟨x, p2, y, ys, p, rfl, ⟨⟨rfl, h2⟩, h4⟩, h5⟩ := mE_bi h
    exact s_bi G h2 (pa_two (peE a X sc y G h4) (mE_nostar h4).1 (paEs es X sc ys G h5)) (mE_nostar h4).1 (mEs_nostar h5)
  | .isi a t, X, sc, e, G, h => by
    obtain ⟨x, p2, y, z, p3, p, rfl, ⟨⟨⟨rfl, h1⟩, h2⟩, rfl⟩, h3⟩ := mE_isi h
    exact s_isi G h1 h3 (peE a X sc y G h2) (mE_nostar h2).1
  | .lc a t it c vs, X, sc, e, G, h => by
    obtain ⟨x, tg, iter, ifs, n, scope, p, rfl, ⟨⟨⟨⟨⟨rfl, h1⟩, h2⟩, h3⟩, h4⟩, h5⟩, h6⟩ := mE_lc h
    exact (s_lc G h1 (fun j hj => by have := List.all_eq_true.mp h2 j hj; simpa using this) (folded_of (mI_noset h3)) (piI it X sc iter tg G h3)
      (fun s H Cc cl fp => pgT (G.blk (blk_kind h1) s H Cc cl fp) t tg h4) (fun s H Cc cl fp => pcEo c _ scope ifs (G.blk (blk_kind h1) s H Cc cl fp) h5) (fun s H Cc cl fp => peE a _ scope x (G.blk (blk_kind h1) s H Cc cl fp) h6)).1.1
  | .bor i a, X, sc, e, G, h => s_bor (peE a X sc e G (mE_bor h))
theorem ptE : ∀ (m : E) (X : Cx) (sc : Scope) (e : Expr), CG C Φ Γ k X sc → mE C sc m e = true → PT X e (tT X.K Φ Γ m)
  | .slot i, X, sc, e, G, h => by
    have hp := peE (.slot i) X sc e G h
    obtain ⟨x, p, rfl, _⟩ := mE_slot h
    refine sT_tru hp (fun _ => rfl) fun env μ r hr => ?_
    rw [evT] at hr
    obtain ⟨d, h1, h2⟩ := Option.bind_eq_some_iff.mp hr
    obtain ⟨b, h3, h4⟩ := Option.map_eq_some_iff.mp h2
    cases h4
    exact ⟨d, by rw [ev, h1]; rfl, h3⟩
  | .ix a b, X, sc, e, G, h => by
    have hp := peE (.ix a b) X sc e G h
    obtain ⟨x, y, p, rfl, _⟩ := mE_ix h
    refine sT_tru hp (fun _ => rfl) fun env μ r hr => ?_
    rw [evT] at hr
    obtain ⟨⟨d, μ1⟩, h1, h2⟩ := Option.bind_eq_some_iff.mp hr
    obtain ⟨⟨d2, μ2⟩, h3, h4⟩ := Option.bind_eq_some_iff.mp h2
    obtain ⟨d3, h5, h6⟩ := Option.bind_eq_some_iff.mp h4
    obtain ⟨b, h7, h8⟩ := Option.map_eq_some_iff.mp h6
    cases h8
    refine ⟨d3, ?_, h7⟩
    rw [ev, h1]
    show Option.bind (ev _ _ _ _ _) _ = _
    rw [h3]
    show Option.map _ (ixS _ _ _) = _
    rw [h5]; rfl
  | .call f a es, X, sc, e, G, h => by
    have hp := peE (.call f a es) X sc e G h
    obtain ⟨x, p2, y, ys, p, rfl, _⟩ := mE_call h
    refine sT_tru hp (fun _ => rfl) fun env μ r hr => ?_
    rw [evT] at hr
    obtain ⟨⟨d, μ1⟩, h1, h2⟩ := Option.bind_eq_some_iff.mp hr
    obtain ⟨⟨d2, μ2⟩, h3, h4⟩ := Option.bind_eq_some_iff.mp h2
    obtain ⟨⟨d3, μ3⟩, h5, h6⟩ := Option.bind_eq_some_iff.mp h4
    obtain ⟨b, h7, h8⟩ := Option.map_eq_some_iff.mp h6
    cases h8
    refine ⟨d3, ?_, h7⟩
    rw [ev, h1]
    show Option.bind (evs _ _ _ _ _) _ = _
    rw [h3]
    exact h5
  | .bi b a es, X, sc, e, G, h => by
    have hp := peE (.bi b a es) X sc e G h
    obtain ⟨x, p2, y, ys, p, rfl, _⟩ := mE_bi h
    refine sT_tru hp (fun _ => rfl) fun env μ r hr => ?_
    rw [evT] at hr
    obtain ⟨⟨d, μ1⟩, h1, h2⟩ := Option.bind_eq_some_iff.mp hr
    obtain ⟨⟨d2, μ2⟩, h3, h4⟩ := Option.bind_eq_some_iff.mp h2
    obtain ⟨d3, h5, h6⟩ := Option.bind_eq_some_iff.mp h4
    obtain ⟨b, h7, h8⟩ := Option.map_eq_some_iff.mp h6
    cases h8
    refine ⟨d3, ?_, h7⟩
    rw [ev, h1]
    show Option.bind (evs _ _ _ _ _) _ = _
    rw [h3]
    show Option.map _ (biS _ _ _) = _
    rw [h5]; rfl
  | .isi a t, X, sc, e, G, h => by
    have hp := peE (.isi a t) X sc e G h
    obtain ⟨x, p2, y, z, p3, p, rfl, _⟩ := mE_isi h
    refine sT_tru hp (fun _ => rfl) fun env μ r hr => ?_
    rw [evT] at hr
    obtain ⟨⟨d, μ1⟩, h1, h2⟩ := Option.bind_eq_some_iff.mp hr
    obtain ⟨b, h7, h8⟩ := Option.map_eq_some_iff.mp h2
    cases h8
    refine ⟨.bl b, ?_, rfl⟩
    rw [ev, h1]
    show Option.map _ (isiS _ _) = _
    rw [h7]; rfl
  | .cmp op a b, X, sc, e, G, h => by
    obtain ⟨x, o, y, p, rfl, ⟨⟨⟨rfl, h3⟩, h4⟩, h1⟩, h2⟩ := mE_cmp h
    exact sT_cmp G (of_decide_eq_false h3) (of_decide_eq_false h4) (peE a X sc x G h1) (peE b X sc y G h2)
  | .isN a, X, sc, e, G, h => by
    obtain ⟨x, n, p2, p, rfl, h1⟩ := mE_isN h
    exact sT_isN (peE a X sc x G h1)
  | .notN a, X, sc, e, G, h => by
    obtain ⟨x, n, p2, p, rfl, h1⟩ := mE_notN h
    exact sT_notN (peE a X sc x G h1)
  | .not a, X, sc, e, G, h => by
    obtain ⟨x, p, rfl, h1⟩ := mE_not h
    refine PT.imp (pt_not (ptE a X sc x G h1)) fun σ H Q q => ?_
    obtain ⟨B, F, ρ, env, μ, d, μ', S, he, q⟩ := q
    rw [evT] at he
    obtain ⟨⟨b, μ1⟩, h2, h3⟩ := Option.map_eq_some_iff.mp he
    cases h3
    exact RE.go S h2 fun v F1 H1 ρ1 e1 S1 r1 => q _ F1 H1 ρ1 e1 S1.fh S1.cells (by rw [r1])
  | .and a r, X, sc, e, G, h => by
    obtain ⟨x, xs, p, rfl, h1, h2⟩ := mE_and h
    refine PT.imp (PW.pt (ptAnd r X sc xs a x p G (ptE a X sc x G h1) h2)) fun σ H Q q => ?_
    obtain ⟨B, F, ρ, env, μ, d, μ', S, he, q⟩ := q
    rw [evT] at he
    exact ⟨B, F, ρ, env, μ, d, μ', S, he, q⟩
  | .or a r, X, sc, e, G, h => by
    obtain ⟨x, xs, p, rfl, h1, h2⟩ := mE_or h
    refine PT.imp (PW.pt (ptOr r X sc xs a x p G (ptE a X sc x G h1) h2)) fun σ H Q q => ?_
    obtain ⟨B, F, ρ, env, μ, d, μ', S, he, q⟩ := q
    rw [evT] at he
    exact ⟨B, F, ρ, env, μ, d, μ', S, he, q⟩
  | .bor i a, X, sc, e, G, h => sT_bor (ptE a X sc e G (mE_bor h))
  | .ite _ _ _, X, sc, e, G, h => sT_none fun _ _ => by rw [evT]
  | .glob _, X, sc, e, G, h => sT_none fun _ _ => by rw [evT] <;> (intros; contradiction)
  | .int _, X, sc, e, G, h => sT_none fun _ _ => by rw [evT] <;> (intros; contradiction)
  | .bl _, X, sc, e, G, h => sT_none fun _ _ => by rw [evT] <;> (intros; contradiction)
  | .non, X, sc, e, G, h => sT_none fun _ _ => by rw [evT] <;> (intros; contradiction)
  | .str _, X, sc, e, G, h => sT_none fun _ _ => by rw [evT] <;> (intros; contradiction)
  | .bin _ _ _, X, sc, e, G, h => sT_none fun _ _ => by rw [evT] <;> (intros; contradiction)
  | .neg _, X, sc, e, G, h => sT_none fun _ _ => by rw [evT] <;> (intros; contradiction)
  | .tup _, X, sc, e, G, h => sT_none fun _ _ => by rw [evT] <;> (intros; contradiction)
  | .lst _, X, sc, e, G, h => sT_none fun _ _ => by rw [evT] <;> (intros; contradiction)
  | .mlst _, X, sc, e, G, h => sT_none fun _ _ => by rw [evT] <;> (intros; contradiction)
  | .slc _ _ _, X, sc, e, G, h => sT_none fun _ _ => by rw [evT] <;> (intros; contradiction)
  | .lc _ _ _ _ _, X, sc, e, G, h => sT_none fun _ _ => by rw [evT] <;> (intros; contradiction)
theorem pAnd : ∀ (r : Es) (X : Cx) (sc : Scope) (xs : List Expr) (a : E) (x : Expr) (p : Pos), CG C Φ Γ k X sc → PE X x (tE X.K Φ Γ a) → mEs C sc r xs = true → PE X (.BoolOp .And (x :: xs) p) (tAnd X.K Φ Γ a r)
  | .nil, X, sc, xs, a, x, p, G, ha, h => by rw [mEs_nil h]; exact s_and1 ha
  | .cons b r, X, sc, xs, a, x, p, G, ha, h => by
    obtain ⟨y, ys, rfl, h1, h2⟩ := mEs_cons h
    exact s_and2 ha (pAnd r X sc ys b y p G (peE b X sc y G h1) h2)
theorem pOr : ∀ (r : Es) (X : Cx) (sc : Scope) (xs : List Expr) (a : E) (x : Expr) (p : Pos), CG C Φ Γ k X sc → PE X x (tE X.K Φ Γ a) → mEs C sc r xs = true → PE X (.BoolOp .Or (x :: xs) p) (tOr X.K Φ Γ a r)
  | .nil, X, sc, xs, a, x, p, G, ha, h => by rw [mEs_nil h]; exact s_or1 ha
  | .cons b r, X, sc, xs, a, x, p, G, ha, h => by
    obtain ⟨y, ys, rfl, h1, h2⟩ := mEs_cons h
    exact s_or2 ha (pOr r X sc ys b y p G (peE b X sc y G h1) h2)
theorem ptAnd : ∀ (r : Es) (X : Cx) (sc : Scope) (xs : List Expr) (a : E) (x : Expr) (p : Pos), CG C Φ Γ k X sc → PT X x (tT X.K Φ Γ a) → mEs C sc r xs = true → PW X (.BoolOp .And (x :: xs) p) (tTAnd X.K Φ Γ a r)
  | .nil, X, sc, xs, a, x, p, G, ha, h => by rw [mEs_nil h]; exact sT_and1 ha
  | .cons b r, X, sc, xs, a, x, p, G, ha, h => by
    obtain ⟨y, ys, rfl, h1, h2⟩ := mEs_cons h
    exact sT_and2 ha (ptAnd r X sc ys b y p G (ptE b X sc y G h1) h2)
theorem ptOr : ∀ (r : Es) (X : Cx) (sc : Scope) (xs : List Expr) (a : E) (x : Expr) (p : Pos), CG C Φ Γ k X sc → PT X x (tT X.K Φ Γ a) → mEs C sc r xs = true → PW X (.BoolOp .Or (x :: xs) p) (tTOr X.K Φ Γ a r)
  | .nil, X, sc, xs, a, x, p, G, ha, h => by rw [mEs_nil h]; exact sT_or1 ha
  | .cons b r, X, sc, xs, a, x, p, G, ha, h => by
    obtain ⟨y, ys, rfl, h1, h2⟩ := mEs_cons h
    exact sT_or2 ha (ptOr r X sc ys b y p G (ptE b X sc y G h1) h2)
theorem paEs : ∀ (ms : Es) (X : Cx) (sc : Scope) (es : List Expr), CG C Φ Γ k X sc → mEs C sc ms es = true → PA X es (tEs X.K Φ Γ ms)
  | .nil, X, sc, es, G, h => by rw [mEs_nil h]; exact pa_nil'
  | .cons m ms, X, sc, es, G, h => by
    obtain ⟨y, ys, rfl, h1, h2⟩ := mEs_cons h
    exact pa_two (peE m X sc y G h1) (mE_nostar h1).1 (paEs ms X sc ys G h2)
theorem poEo : ∀ (m : Eo) (X : Cx) (sc : Scope) (e : Option Expr), CG C Φ Γ k X sc → mEo C sc m e = true → PO X e (tO X.K Φ Γ m)
  | .none, X, sc, e, G, h => by rw [mEo_none h]; exact po_none'
  | .some m, X, sc, e, G, h => by
    obtain ⟨y, rfl, h1⟩ := mEo_some h
    exact po_some' (peE m X sc y G h1)
theorem pcEo : ∀ (m : Eo) (X : Cx) (sc : Scope) (e : List Expr), CG C Φ Γ k X sc → mEc C sc m e = true → PTs X e (tC X.K Φ Γ m)
  | .none, X, sc, e, G, h => by rw [mEc_none h]; exact pc_none'
  | .some m, X, sc, e, G, h => by
    obtain ⟨y, rfl, h1⟩ := mEc_some h
    exact pc_some' (ptE m X sc y G h1)
theorem piI : ∀ (it : I) (X : Cx) (sc : Scope) (e tg : Expr), CG C Φ Γ k X sc → mI C sc it e (isTup tg) = true → PI X tg e (tI X.K Φ Γ it)
  | .seq a, X, sc, e, tg, G, h => s_seq (peE a X sc e G (mI_seq h))
  | .rng1 a, X, sc, e, tg, G, h => by
    obtain ⟨f, p2, y, p, rfl, ⟨rfl, h1⟩, h2⟩ := mI_rng1 h
    exact s_rng1 G h1 (peE a X sc y G h2) (mE_nostar h2).1
  | .rng2 a b, X, sc, e, tg, G, h => by
    obtain ⟨f, p2, y, z, p, rfl, ⟨⟨rfl, h1⟩, h2⟩, h3⟩ := mI_rng2 h
    exact s_rng2 G h1 (peE a X sc y G h2) (peE b X sc z G h3) (mE_nostar h2).1 (mE_nostar h3).1
  | .zip a b, X, sc, e, tg, G, h => by
    obtain ⟨f, p2, y, z, p, rfl, ⟨⟨⟨hk, rfl⟩, h1⟩, h2⟩, h3⟩ := mI_zip h
    exact s_zip G h1 hk (peE a X sc y G h2) (peE b X sc z G h3) (mE_nostar h2).1 (mE_nostar h3).1
  | .enum a, X, sc, e, tg, G, h => by
    obtain ⟨f, p2, y, p, rfl, ⟨⟨hk, rfl⟩, h1⟩, h2⟩ := mI_enum h
    exact s_enum G h1 hk (peE a X sc y G h2) (mE_nostar h2).1
end
end
end Py
end
section
set_option Elab.async false
set_option linter.all false
set_option maxRecDepth 100000
set_option maxHeartbeats 4000000
namespace Py
open PySem L2 RZ
def asgOk (tg x : Expr) : Bool := match x with
  | .ListComp .. => (match tg with | .Name .. => true | _ => false)
  | .SetComp .. => false
  | .DictComp .. => false
  | .Tuple .. => (match tg with | .Tuple .. => false | .List .. => false | _ => true)
  | _ => true
def isLc : Expr → Bool
  | .ListComp .. => true | _ => false
def isCall : Expr → Bool
  | .Call .. => true | _ => false
def isSub : Expr → Bool
  | .Subscript .. => true | _ => false
def isNew : E → Bool
  | .lst _ => true | .lc .. => true | .bi .list _ _ => true
  | _ => false
def lclB (sc : Scope) (x : Str) : Bool := match sc.names.lookup x with
  | some .local => true | _ => false
mutual
def mS (C : MC) (sc : Scope) : S → Stmt → Bool
  | .app i e, .Expr (.Call (.Attribute (.Name x _) m p2) [y] [] p3) _ => decide (C.N[i]? = some x) && visB sc x && okName x && decide (m = ("append" : Str)) && (p2.endLine == p3.line) && mE C sc e y
  | .expr e, .Expr x _ => isCall x && mE C sc e x
  | .asg t e, .Assign [tg] x _ => mT C sc t tg && mE C sc e x && asgOk tg x
  | .asgN i e, .Assign [.Name y py] x _ => mT C sc (.nm i) (.Name y py) && mE C sc e x && isNew e
  | .par i j a b, .Assign [.Tuple [.Name x px, .Name y py] _ _] (.Tuple [u, v] _ _) _ => decide (C.N[i]? = some x) && decide (C.N[j]? = some y) && decide (i ≠ j) && lclB sc x && lclB sc y && decide (px.line = py.line) && mE C sc a u && mE C sc b v && !(foldedForSure 8 u && foldedForSure 8 v) && !(constantsAlone 8 u && constantsAlone 8 v)
  | .aug i op e, .AugAssign (.Name x _) op' y _ => decide (C.N[i]? = some x) && locB sc x && decide (op = op') && mE C sc e y
  | .setm o i e, .Assign [.Subscript x y _] z _ => mE C sc o x && mE C sc i y && mE C sc e z && !sliceB y && asgOk (.Name "" ⟨0, 0, 0, 0⟩) z && !isLc z
  | .ret e, .Return (some x) _ => mE C sc e x
  | .retN, .Return none _ => true
  | .iff c a b, .If x ys zs _ => mE C sc c x && mSs C sc a ys && mSs C sc b zs
  | .wh c b, .While x ys [] _ => mE C sc c x && mSs C sc b ys
  | .for t it b, .For tg x ys [] _ => mT C sc t tg && mI C sc it x (isTup tg) && mSs C sc b ys
  | .brk, .Break _ => true
  | .cont, .Continue _ => true
  | .pass, .Pass _ => true
  | .frz _ s, x => mS C sc s x
  | _, _ => false
def mSs (C : MC) (sc : Scope) : List S → List Stmt → Bool
  | [], [] => true
  | s :: r, x :: xs => mS C sc s x && mSs C sc r xs
  | _, _ => false
end
section
variable {C : MC} {sc : Scope} {e : Stmt}
theorem mS_app {i : Nat} {a : E} (h : mS C sc (.app i a) e = true) : ∃ x p1 m p2 y p3 p, e = .Expr (.Call (.Attribute (.Name x p1) m p2) [y] [] p3) p ∧ ((((C.N[i]? = some x ∧ visB sc x = true) ∧ okName x = true) ∧ m = ("append" : Str)) ∧ (p2.endLine == p3.line) = true) ∧ mE C sc a y = true := by
  unfold mS at h
  split at h <;> first | contradiction | skip
  rename_i q; cases q
  simp only [Bool.and_eq_true, decide_eq_true_eq] at h
  exact ⟨_, _, _, _, _, _, _, rfl, h⟩
theorem mS_expr {a : E} (h : mS C sc (.expr a) e = true) : ∃ x p, e = .Expr x p ∧ isCall x = true ∧ mE C sc a x = true := by
  unfold mS at h
  split at h <;> first | contradiction | skip
  rename_i q; cases q
  simp only [Bool.and_eq_true, decide_eq_true_eq] at h
  exact ⟨_, _, rfl, h⟩
theorem mS_asg {t : T} {a : E} (h : mS C sc (.asg t a) e = true) : ∃ tg x p, e = .Assign [tg] x p ∧ (mT C sc t tg = true ∧ mE C sc a x = true) ∧ asgOk tg x = true := by
  unfold mS at h
  split at h <;> first | contradiction | skip
  rename_i q; cases q
  simp only [Bool.and_eq_true, decide_eq_true_eq] at h
  exact ⟨_, _, _, rfl, h⟩
theorem mS_asgN {i : Nat} {a : E} (h : mS C sc (.asgN i a) e = true) : ∃ y py x p, e = .Assign [.Name y py] x p ∧ (mT C sc (.nm i) (.Name y py) = true ∧ mE C sc a x = true) ∧ isNew a = true := by
  unfold mS at h
  split at h <;> first | contradiction | skip
  rename_i q; cases q
  simp only [Bool.and_eq_true, decide_eq_true_eq] at h
  exact ⟨_, _, _, _, rfl, h⟩
theorem mS_par {i j : Nat} {a b : E} (h : mS C sc (.par i j a b) e = true) : ∃ x px y py k1 p1 u v k2 p2 p, e = .Assign [.Tuple [.Name x px, .Name y py] k1 p1] (.Tuple [u, v] k2 p2) p ∧
    ((((((((C.N[i]? = some x ∧ C.N[j]? = some y) ∧ i ≠ j) ∧ lclB sc x = true) ∧ lclB sc y = true) ∧ px.line = py.line) ∧ mE C sc a u = true) ∧ mE C sc b v = true) ∧ (foldedForSure 8 u && foldedForSure 8 v) = false) ∧ (constantsAlone 8 u && constantsAlone 8 v) = false := by
  unfold mS at h
  split at h <;> first | contradiction | skip
  rename_i q; cases q
  rw [Bool.and_eq_true, Bool.and_eq_true, Bool.not_eq_true', Bool.not_eq_true'] at h
  obtain ⟨⟨h, h1⟩, h2⟩ := h
  simp only [Bool.and_eq_true, decide_eq_true_eq] at h
  exact ⟨_, _, _, _, _, _, _, _, _, _, _, rfl, ⟨h, h1⟩, h2⟩
theorem mS_aug {i : Nat} {op : Operator} {a : E} (h : mS C sc (.aug i op a) e = true) : ∃ x p1 o y p, e = .AugAssign (.Name x p1) o y p ∧ ((C.N[i]? = some x ∧ locB sc x = true) ∧ op = o) ∧ mE C sc a y = true := by
  unfold mS at h
  split at h <;> first | contradiction | skip
  rename_i q; cases q
  simp only [Bool.and_eq_true, decide_eq_true_eq] at h
  exact ⟨_, _, _, _, _, rfl, h⟩
theorem mS_setm {o i a : E} (h : mS C sc (.setm o i a) e = true) : ∃ x y p1 z p, e = .Assign [.Subscript x y p1] z p ∧ ((((mE C sc o x = true ∧ mE C sc i y = true) ∧ mE C sc a z = true) ∧ sliceB y = false) ∧ asgOk (.Name "" ⟨0, 0, 0, 0⟩) z = true) ∧ isLc z = false := by
  unfold mS at h
  split at h <;> first | contradiction | skip
  rename_i q; cases q
  simp only [Bool.and_eq_true, Bool.not_eq_true'] at h
  exact ⟨_, _, _, _, _, rfl, h⟩
theorem mS_ret {a : E} (h : mS C sc (.ret a) e = true) : ∃ x p, e = .Return (some x) p ∧ mE C sc a x = true := by
  unfold mS at h
  split at h <;> first | contradiction | skip
  rename_i q; cases q
  exact ⟨_, _, rfl, h⟩
theorem mS_retN (h : mS C sc .retN e = true) : ∃ p, e = .Return none p := by
  unfold mS at h
  split at h <;> first | contradiction | skip
  exact ⟨_, rfl⟩
theorem mS_iff {c : E} {a b : List S} (h : mS C sc (.iff c a b) e = true) : ∃ x ys zs p, e = .If x ys zs p ∧ (mE C sc c x = true ∧ mSs C sc a ys = true) ∧ mSs C sc b zs = true := by
  unfold mS at h
  split at h <;> first | contradiction | skip
  rename_i q; cases q
  simp only [Bool.and_eq_true] at h
  exact ⟨_, _, _, _, rfl, h⟩
theorem mS_wh {c : E} {b : List S} (h : mS C sc (.wh c b) e = true) : ∃ x ys p, e = .While x ys [] p ∧ mE C sc c x = true ∧ mSs C sc b ys = true := by
  unfold mS at h
  split at h <;> first | contradiction | skip
  rename_i q; cases q
  simp only [Bool.and_eq_true] at h
  exact ⟨_, _, _, rfl, h⟩
theorem mS_for {t : T} {it : I} {b : List S} (h : mS C sc (.for t it b) e = true) : ∃ tg x ys p, e = .For tg x ys [] p ∧ (mT C sc t tg = true ∧ mI C sc it x (isTup tg) = true) ∧ mSs C sc b ys = true := by
  unfold mS at h
  split at h <;> first | contradiction | skip
  rename_i q; cases q
  simp only [Bool.and_eq_true] at h
  exact ⟨_, _, _, _, rfl, h⟩
theorem mS_brk (h : mS C sc .brk e = true) : ∃ p, e = .Break p := by
  unfold mS at h
  split at h <;> first | contradiction | skip
  exact ⟨_, rfl⟩
theorem mS_cont (h : mS C sc .cont e = true) : ∃ p, e = .Continue p := by
  unfold mS at h
  split at h <;> first | contradiction | skip
  exact ⟨_, rfl⟩
theorem mS_pass (h : mS C sc .pass e = true) : ∃ p, e = .Pass p := by
  unfold mS at h
  split at h <;> first | contradiction | skip
  exact ⟨_, rfl⟩
theorem mS_frz {i : Nat} {s : S} (h : mS C sc (.frz i s) e = true) : mS C sc s e = true := by
  rw [mS] at h; exact h
end
/-! ### what becomes of the stores of an assignment -/
theorem blockKind_fn {env : PySem.Env} (h : env.scope.kind = .function) : env.blockKind = .function := by unfold PySem.Env.blockKind; rw [h]; rfl
theorem swap_lc {elt : Expr} {gs : List Comprehension} {scope : Scope} {pos py : Pos} {y : Str} {l : Nat} {env : PySem.Env} (hk : env.scope.kind = .function) :
    swapsWith (.ListComp elt gs scope pos) (some (.Name y py)) l env = pure (env.kindOf y == some .local && py.line == pos.line && !(scope.names.any fun (n, k) => n == y && (k == .local || k == .cell))) := by
  unfold swapsWith
  simp only [blockKind_fn hk, Expr.pos]
  rfl
theorem swap_plain {tg x : Expr} {l : Nat} {env : PySem.Env} (h : asgOk tg x = true) (hn : isLc x = false) : swapsWithSole [tg] x l env = pure false := by
  unfold swapsWithSole swapsWith
  cases x <;> first | rfl | (cases hn; done) | (unfold asgOk at h; cases h)
theorem stores_plain {tg x : Expr} {env : PySem.Env} (h : asgOk tg x = true) : swappedStores [tg] x env = pure none := by
  unfold swappedStores
  cases x <;> cases tg <;> first | rfl | (unfold asgOk at h; cases h)
theorem stores_par {x y : Str} {px py p1 p2 : Pos} {k1 k2 : Nat} {u v : Expr} {env : PySem.Env} (hk : env.scope.kind = .function) (hx : env.kindOf x = some .local) (hy : env.kindOf y = some .local) (hne : x ≠ y) (hl : px.line = py.line)
    (n1 : ∀ w p, u ≠ .Starred w p) (n2 : ∀ w p, v ≠ .Starred w p) (h1 : (foldedForSure 8 u && foldedForSure 8 v) = false) (h2 : (constantsAlone 8 u && constantsAlone 8 v) = false) :
    swappedStores [.Tuple [.Name x px, .Name y py] k1 p1] (.Tuple [u, v] k2 p2) env = pure (some [x, y]) := by
  have hs : ([u, v].any fun | .Starred .. => true | _ => false) = false := by
    have f : ∀ w : Expr, (∀ a p, w ≠ .Starred a p) → (match w with | .Starred .. => true | _ => false) = false := fun w hw => by
      cases w <;> first | rfl | exact absurd rfl (hw _ _)
    simp only [List.any_cons, List.any_nil, f u n1, f v n2, Bool.or_false]
  have hf : [u, v].all (foldedForSure 8) = false := by simpa using h1
  have hc : [u, v].all (constantsAlone 8) = false := by simpa using h2
  have hxy : (y == x) = false := by simpa using fun z => hne z.symm
  unfold swappedStores
  simp only [blockKind_fn hk, hs, hf, hc]
  simp [Expr.pos, hx, hy, hl, List.eraseDups, List.eraseDupsBy, List.eraseDupsBy.loop, hxy, hne]
end Py
end
section
set_option Elab.async false
set_option linter.all false
set_option maxRecDepth 100000
set_option maxHeartbeats 4000000
namespace Py
open PySem L2 RZ
/-! ### statements by data; F0, B0, ρ0: the entry -/
structure Gr (F : Hp) (ρ : List Addr) (F' : Hp) (ρ' : List Addr) : Prop where
  ff : Same F F'
  rr : ∀ (i : Nat) (a : Addr), ρ[i]? = some a → ρ'[i]? = some a
theorem Gr.refl {F : Hp} {ρ : List Addr} : Gr F ρ F ρ := ⟨Same.refl _, fun _ _ h => h⟩
theorem Gr.trans {F F' F'' : Hp} {ρ ρ' ρ'' : List Addr} (a : Gr F ρ F' ρ') (b : Gr F' ρ' F'' ρ'') : Gr F ρ F'' ρ'' := ⟨a.ff.trans b.ff, fun i x h => b.rr i x (a.rr i x h)⟩
theorem Ext.gr {F H F' H' : Hp} {ρ ρ' : List Addr} (e : Ext F H ρ F' H' ρ') : Gr F ρ F' ρ' := ⟨e.ff, e.rr⟩
def PostS (K : PySem.W.Frag) (F0 B0 : Hp) (ρ0 : List Addr) (F : Hp) (ρ : List Addr) (D : Ends) : Fl → Prop
  | .nx env' μ' => ∀ σ' F' H' ρ', SR K B0 F' H' ρ' σ' env' μ' → Ext F0 B0 ρ0 F' H' ρ' → Gr F ρ F' ρ' → D.nx σ' H'
  | .bk env' μ' => ∀ σ' F' H' ρ', SR K B0 F' H' ρ' σ' env' μ' → Ext F0 B0 ρ0 F' H' ρ' → Gr F ρ F' ρ' → D.bk σ' H'
  | .ct env' μ' => ∀ σ' F' H' ρ', SR K B0 F' H' ρ' σ' env' μ' → Ext F0 B0 ρ0 F' H' ρ' → Gr F ρ F' ρ' → D.ct σ' H'
  | .rt d μ' => ∀ v F' H' ρ', Ext F0 B0 ρ0 F' H' ρ' → Same F' H' → Cells K F' H' ρ' μ' → Dr K F' ρ' v d → D.rt v H'
def RS (K : PySem.W.Frag) (f : Env → Store → Option Fl) : TS := fun D σ H => ∃ F0 B0 ρ0 F ρ env μ r, SR K B0 F H ρ σ env μ ∧ Ext F0 B0 ρ0 F H ρ ∧ f env μ = some r ∧ PostS K F0 B0 ρ0 F ρ D r
theorem PostS.grow {K : PySem.W.Frag} {F0 B0 : Hp} {ρ0 : List Addr} {F F1 : Hp} {ρ ρ1 : List Addr} {D : Ends} {r : Fl} (q : PostS K F0 B0 ρ0 F ρ D r) (g : Gr F ρ F1 ρ1) : PostS K F0 B0 ρ0 F1 ρ1 D r := by
  cases r with
  | nx e m => exact fun σ' F' H' ρ' S E G => q σ' F' H' ρ' S E (g.trans G)
  | bk e m => exact fun σ' F' H' ρ' S E G => q σ' F' H' ρ' S E (g.trans G)
  | ct e m => exact fun σ' F' H' ρ' S E G => q σ' F' H' ρ' S E (g.trans G)
  | rt d m => exact q
def tS (K : PySem.W.Frag) (Φ : FnS) (Γ : GlS) (s : S) : TS := RS K (ex Φ Γ s)
def tSs (K : PySem.W.Frag) (Φ : FnS) (Γ : GlS) (s : List S) : TS := RS K (exs Φ Γ s)
theorem PS.imp {X : Cx} {e : Stmt} {t t' : TS} (h : PS X e t) (w : ∀ D σ H, t' D σ H → t D σ H) : PS X e t' := ⟨fun pins s σ H D I q => h.run pins s σ H D I (w D σ H q)⟩
theorem PSs.imp {X : Cx} {e : List Stmt} {t t' : TS} (h : PSs X e t) (w : ∀ D σ H, t' D σ H → t D σ H) : PSs X e t' := ⟨fun pins s σ H D I q => h.run pins s σ H D I (w D σ H q)⟩
section
variable {K : PySem.W.Frag} {B F H : Hp} {ρ : List Addr} {σ : L2.St} {env : Env} {μ : Store}
/-- an own list is written -/
theorem SR.own_write (S : SR K B F H ρ σ env μ) {i : Nat} {ds es : List D} {a : Addr} {ys : List V} (he : env[i]? = some (some (.own ds))) (hσ : σ[i]? = some (some (.ref a))) (hF : F a = none) (hρ : a ∉ ρ) (hB : B a = none) (r : DrL K F ρ ys es) :
    SR K B F (upd H a (.lst ys)) ρ σ (env.set i (some (.own es))) μ := by
  have hi : i < env.length := (List.getElem?_eq_some_iff.mp he).1
  have hcase : ∀ {j : Nat} {fs : List D}, (env.set i (some (.own es)))[j]? = some (some (.own fs)) → ∃ gs, env[j]? = some (some (.own gs)) := fun {j fs} h => by
    by_cases q : i = j
    · subst q; exact ⟨ds, he⟩
    · rw [List.getElem?_set_ne q] at h; exact ⟨fs, h⟩
  refine ⟨fun b u h => ?_, ⟨S.cells.len, S.cells.nd, fun j b fs h1 h2 => ?_⟩, ⟨by rw [List.length_set]; exact S.env.len, fun j sv h => ?_, fun j l fs gs b h1 h2 h3 h4 => ?_⟩⟩
  · rw [upd_ne (ne_of_none h hF)]; exact S.fh b u h
  · obtain ⟨z1, zs, z2, z3⟩ := S.cells.at_ j b fs h1 h2
    exact ⟨z1, zs, by rw [upd_ne (fun z => hρ (by rw [← z]; exact List.mem_of_getElem? h1))]; exact z2, z3⟩
  · by_cases q : i = j
    · subst q
      rw [List.getElem?_set_self hi] at h
      cases h
      exact ⟨_, hσ, a, ys, rfl, upd_same, r, hF, hρ, hB⟩
    · rw [List.getElem?_set_ne q] at h
      obtain ⟨w, h1, h2⟩ := S.env.at_ j sv h
      refine ⟨w, h1, ?_⟩
      cases sv with
      | val d => exact h2
      | own fs =>
        obtain ⟨b, zs, rfl, k2, k3, k4, k5, k6⟩ := h2
        have nb : b ≠ a := fun z => q (S.env.apart i j ds fs a he h hσ (by rw [← z]; exact h1))
        exact ⟨b, zs, rfl, by rw [upd_ne nb]; exact k2, k3, k4, k5, k6⟩
  · obtain ⟨fs', g1⟩ := hcase h1
    obtain ⟨gs', g2⟩ := hcase h2
    exact S.env.apart j l fs' gs' b g1 g2 h3 h4
/-- a new own list at a slot -/
theorem SR.own_new (S : SR K B F H ρ σ env μ) {i : Nat} {es : List D} {a : Addr} {ys : List V} (hi : i < env.length) (hH : H a = some (.lst ys)) (hF : F a = none) (hρ : a ∉ ρ) (hB : B a = none) (hn : ∀ (j : Nat) (fs : List D), env[j]? = some (some (.own fs)) → σ[j]? ≠ some (some (.ref a))) (r : DrL K F ρ ys es) :
    SR K B F H ρ (σ.set i (some (.ref a))) (env.set i (some (.own es))) μ := by
  have hl : i < σ.length := by rw [S.env.len]; exact hi
  refine ⟨S.fh, S.cells, ⟨by rw [List.length_set, List.length_set]; exact S.env.len, fun j sv h => ?_, fun j l fs gs b h1 h2 h3 h4 => ?_⟩⟩
  · by_cases q : i = j
    · subst q
      rw [List.getElem?_set_self hi] at h
      cases h
      exact ⟨_, List.getElem?_set_self hl, a, ys, rfl, hH, r, hF, hρ, hB⟩
    · rw [List.getElem?_set_ne q] at h
      obtain ⟨w, h1, h2⟩ := S.env.at_ j sv h
      exact ⟨w, by rw [List.getElem?_set_ne q]; exact h1, h2⟩
  · by_cases q1 : i = j
    · by_cases q2 : i = l
      · exact q1.symm.trans q2
      · subst q1
        rw [List.getElem?_set_self hl] at h3
        cases h3
        rw [List.getElem?_set_ne q2] at h2 h4
        exact absurd h4 (hn l gs h2)
    · by_cases q2 : i = l
      · subst q2
        rw [List.getElem?_set_self hl] at h4
        cases h4
        rw [List.getElem?_set_ne q1] at h1 h3
        exact absurd h3 (hn j fs h1)
      · rw [List.getElem?_set_ne q1] at h1 h3
        rw [List.getElem?_set_ne q2] at h2 h4
        exact S.env.apart j l fs gs b h1 h2 h3 h4
/-- an own list is frozen -/
theorem SR.freeze {F0 : Hp} {ρ0 : List Addr} (S : SR K B F H ρ σ env μ) (E : Ext F0 B ρ0 F H ρ) {i : Nat} {ds : List D} (h : getO env i = some ds) : ∃ F1, SR K B F1 H ρ σ (env.set i (some (.val (.lst ds)))) μ ∧ Ext F0 B ρ0 F1 H ρ ∧ Gr F ρ F1 ρ := by
  have he := getO_eq h
  obtain ⟨v, h1, a, xs, rfl, h2, h3, h4, h5, h6⟩ := S.env.at_ _ _ he
  have hi : i < env.length := (List.getElem?_eq_some_iff.mp he).1
  obtain ⟨w1, w2, w3⟩ := frz_ok E S.fh S.cells h6 h2 h4 h5
  refine ⟨upd F a (.lst xs), ⟨w2, w3, ⟨by rw [List.length_set]; exact S.env.len, fun j sv g => ?_, fun j l es fs b g1 g2 g3 g4 => ?_⟩⟩, w1, ⟨same_upd' h4, fun _ _ h => h⟩⟩
  · by_cases q : i = j
    · subst q
      rw [List.getElem?_set_self hi] at g
      cases g
      exact ⟨_, h1, .lst upd_same (DrL.mono (same_upd' h4) (fun _ _ h => h) _ _ h3)⟩
    · rw [List.getElem?_set_ne q] at g
      obtain ⟨w, w1, w2⟩ := S.env.at_ j sv g
      refine ⟨w, w1, ?_⟩
      cases sv with
      | val d => exact Dr.mono (same_upd' h4) (fun _ _ h => h) _ _ w2
      | own es =>
        obtain ⟨b, ys, rfl, k2, k3, k4, k5, k6⟩ := w2
        have nb : b ≠ a := fun z => q (S.env.apart i j ds es a he g h1 (by rw [← z]; exact w1))
        exact ⟨b, ys, rfl, k2, DrL.mono (same_upd' h4) (fun _ _ h => h) _ _ k3, by rw [upd_ne nb]; exact k4, k5, k6⟩
  · have own_ne : ∀ {j : Nat} {es : List D}, (env.set i (some (.val (.lst ds))))[j]? = some (some (.own es)) → i ≠ j := fun {j es} h q => by
      subst q
      rw [List.getElem?_set_self hi] at h; cases h
    rw [List.getElem?_set_ne (own_ne g1)] at g1
    rw [List.getElem?_set_ne (own_ne g2)] at g2
    exact S.env.apart j l es fs b g1 g2 g3 g4
/-- a living list is written -/
theorem SR.cell_write {F0 : Hp} {ρ0 : List Addr} (S : SR K B F H ρ σ env μ) (E : Ext F0 B ρ0 F H ρ) {c : Nat} {a : Addr} {ds es : List D} {ys : List V} (hρ : ρ[c]? = some a) (hμ : μ[c]? = some ds) (r : DrL K F ρ ys es) :
    SR K B F (upd H a (.lst ys)) ρ σ env (μ.set c es) ∧ Ext F0 B ρ0 F (upd H a (.lst ys)) ρ := by
  obtain ⟨fa, zs, ha, _⟩ := S.cells.at_ c a ds hρ hμ
  have hc : c < μ.length := (List.getElem?_eq_some_iff.mp hμ).1
  have ma : a ∈ ρ := List.mem_of_getElem? hρ
  refine ⟨⟨fun b u h => ?_, ⟨by rw [List.length_set]; exact S.cells.len, S.cells.nd, fun j b fs h1 h2 => ?_⟩, ⟨S.env.len, fun j sv h => ?_, S.env.apart⟩⟩, ⟨E.ff, fun b u h n => ?_, fun b h => ?_, E.new, E.rr, E.rn⟩⟩
  · rw [upd_ne (ne_of_none h fa)]; exact S.fh b u h
  · by_cases q : c = j
    · subst q
      rw [List.getElem?_set_self hc] at h2
      cases h2
      rw [hρ] at h1
      cases h1
      exact ⟨fa, ys, upd_same, r⟩
    · rw [List.getElem?_set_ne q] at h2
      obtain ⟨z1, ws, z2, z3⟩ := S.cells.at_ j b fs h1 h2
      exact ⟨z1, ws, by rw [upd_ne (fun z => q (S.cells.nd c j a hρ (by rw [← z]; exact h1)))]; exact z2, z3⟩
  · obtain ⟨w, h1, h2⟩ := S.env.at_ j sv h
    refine ⟨w, h1, ?_⟩
    cases sv with
    | val d => exact h2
    | own fs =>
      obtain ⟨b, ws, rfl, k2, k3, k4, k5, k6⟩ := h2
      exact ⟨b, ws, rfl, by rw [upd_ne (fun z => k5 (by rw [z]; exact ma))]; exact k2, k3, k4, k5, k6⟩
  · have nb : b ≠ a := fun z => by
      subst z
      rcases E.rn b ma with z | z
      · exact n z
      · rw [z] at h; cases h
    rw [upd_ne nb]; exact E.hh b u h n
  · by_cases q : b = a
    · subst q; rw [upd_same]; exact fun z => nomatch z
    · rw [upd_ne q]; exact E.dm b h
end
/-! ### loops -/
theorem whN_mono {c : Env → Store → Option (Bool × Store)} {b : Env → Store → Option Fl} : ∀ {n : Nat} {env : Env} {μ : Store} {r : Fl}, whN c b n env μ = some r → whN c b (n + 1) env μ = some r
  | 0, _, _, _, h => by rw [whN] at h; cases h
  | n + 1, env, μ, r, h => by
    rw [whN] at h ⊢
    obtain ⟨⟨k, μ1⟩, h1, h2⟩ := Option.bind_eq_some_iff.mp h
    rw [h1]
    dsimp only [Option.bind_some] at h2 ⊢
    cases k with
    | false => exact h2
    | true =>
      rw [if_pos rfl] at h2 ⊢
      obtain ⟨fl, h3, h4⟩ := Option.bind_eq_some_iff.mp h2
      rw [h3]
      dsimp only [Option.bind_some] at h4 ⊢
      cases fl with
      | nx e m => exact whN_mono h4
      | ct e m => exact whN_mono h4
      | bk e m => exact h4
      | rt d m => exact h4
theorem whN_le {c : Env → Store → Option (Bool × Store)} {b : Env → Store → Option Fl} {n m : Nat} {env : Env} {μ : Store} {r : Fl} (h : whN c b n env μ = some r) (hm : n ≤ m) : whN c b m env μ = some r := by
  induction hm with
  | refl => exact h
  | step _ ih => exact whN_mono ih
theorem whS_some {c : Env → Store → Option (Bool × Store)} {b : Env → Store → Option Fl} {env : Env} {μ : Store} {r : Fl} : whS c b env μ = some r ↔ ∃ n, whN c b n env μ = some r := by
  unfold whS
  constructor
  · intro h
    split at h
    · rename_i q
      cases h
      exact ⟨_, Classical.choose_spec (Classical.choose_spec q)⟩
    · cases h
  · rintro ⟨n, h⟩
    have q : ∃ n r, whN c b n env μ = some r := ⟨n, r, h⟩
    rw [dif_pos q]
    have h2 := Classical.choose_spec (Classical.choose_spec q)
    have a := whN_le h2 (Nat.le_max_left _ n)
    have b' := whN_le h (Nat.le_max_right (Classical.choose q) n)
    rw [a] at b'
    exact b'
end Py
end
section
set_option Elab.async false
set_option linter.all false
set_option maxRecDepth 100000
set_option maxHeartbeats 4000000
namespace Py
open PySem L2 RZ
section
variable {C : MC} {Φ : FnS} {Γ : GlS} {k : Nat} {X : Cx} {sc : Scope}
theorem cells_ne {K : PySem.W.Frag} {F H : Hp} {ρ : List Addr} {μ : Store} (c : Cells K F H ρ μ) {a : Addr} (h : H a = none) : a ∉ ρ := fun z => by
  obtain ⟨i, hi, e⟩ := List.getElem_of_mem z
  have hi' := hi
  rw [c.len] at hi'
  obtain ⟨_, ys, z2, _⟩ := c.at_ i a _ (by rw [List.getElem?_eq_getElem hi, e]) (List.getElem?_eq_getElem hi')
  rw [h] at z2; cases z2
/-- new lists -/
def newF (Φ : FnS) (Γ : GlS) : E → Env → Store → Option (List D × Store)
  | .lst es, env, μ => (evs Φ Γ es env μ).bind fun (ds, μ1) => if ds.length ≤ SZ then some (ds, μ1) else none
  | .lc a t it c vs, env, μ => lcF Φ Γ a t it c vs env μ
  | .bi .list e es, env, μ => (ev Φ Γ e env μ).bind fun (x, μ1) => (evs Φ Γ es env μ1).bind fun (xs, μ2) => match xs with
    | [] => (itsS μ2 x).map fun ds => (ds, μ2)
    | _ => none
  | _, _, _ => none
theorem newF_ok {e : E} (hn : isNew e = true) {env : Env} {μ : Store} {r : D × Store} (h : ev Φ Γ e env μ = some r) : ∃ ds, r.1 = .lst ds ∧ newF Φ Γ e env μ = some (ds, r.2) := by
  cases e with
  | lst es =>
    rw [ev] at h
    obtain ⟨⟨ds, μ1⟩, h1, h2⟩ := Option.bind_eq_some_iff.mp h
    dsimp only at h2
    split at h2
    case isFalse => cases h2
    rename_i hz
    cases h2
    exact ⟨ds, rfl, by rw [newF, h1]; dsimp only [Option.bind_some]; rw [if_pos hz]⟩
  | lc a t it c vs =>
    rw [ev] at h
    obtain ⟨⟨ds, μ1⟩, h1, h2⟩ := Option.bind_eq_some_iff.mp h
    dsimp only at h2
    split at h2
    case isFalse => cases h2
    rename_i hz
    obtain ⟨⟨xs, μe⟩, h3, h4⟩ := Option.map_eq_some_iff.mp h2
    cases h4
    refine ⟨xs, rfl, ?_⟩
    rw [newF]
    unfold lcF
    rw [h1]
    dsimp only [Option.bind_some]
    rw [if_pos hz]
    exact h3
  | bi b e es =>
    cases b with
    | list =>
      rw [ev] at h
      obtain ⟨⟨x, μ1⟩, h1, h2⟩ := Option.bind_eq_some_iff.mp h
      obtain ⟨⟨xs, μ2⟩, h3, h4⟩ := Option.bind_eq_some_iff.mp h2
      obtain ⟨d, h5, h6⟩ := Option.map_eq_some_iff.mp h4
      cases h6
      cases xs with
      | nil =>
        unfold biS at h5
        obtain ⟨ds, h7, h8⟩ := Option.map_eq_some_iff.mp h5
        cases h8
        refine ⟨ds, rfl, ?_⟩
        rw [newF, h1]
        dsimp only [Option.bind_some]
        rw [h3]
        dsimp only [Option.bind_some]
        rw [h7]
        rfl
      | cons y ys => unfold biS at h5; cases h5
    | _ => cases hn
  | _ => cases hn
theorem peN (m : E) (e : Expr) (G : CG C Φ Γ k X sc) (h : mE C sc m e = true) (hn : isNew m = true) : PE X e (tN X.K (newF Φ Γ m)) := by
  cases m with
  | lst es =>
    obtain ⟨xs, p, rfl, h1⟩ := mE_lst h
    refine PE.imp (pe_lst (paEs es X sc xs G h1)) fun σ H Q q => ?_
    obtain ⟨B, F, ρ, env, μ, ds, μ', S, he, q⟩ := q
    rw [newF] at he
    obtain ⟨⟨ds', μ1⟩, h1, h2⟩ := Option.bind_eq_some_iff.mp he
    dsimp only at h2
    split at h2
    case isFalse => cases h2
    rename_i hz
    cases h2
    refine RE.go S h1 fun v F1 H1 ρ1 e1 S1 r1 => ⟨by rw [sz, r1.length]; exact hz, fun p hp => ?_⟩
    have fp := S1.fh.free hp
    have np := cells_ne S1.cells hp
    have hH : H p = none := by
      by_cases z : H p = none
      · exact z
      · exact absurd hp (e1.dm p z)
    obtain ⟨w1, w2, w3⟩ := write_ok (o := .lst v) e1 S1.fh S1.cells hH fp np
    exact q p F1 _ ρ1 v w1 w2 w3 upd_same hH fp np r1
  | lc a t it c vs =>
    obtain ⟨x, tg, iter, ifs, n, scope, p, rfl, ⟨⟨⟨⟨⟨rfl, h1⟩, h2⟩, h3⟩, h4⟩, h5⟩, h6⟩ := mE_lc h
    refine PE.imp (s_lc G h1 (fun j hj => by have := List.all_eq_true.mp h2 j hj; simpa using this) (folded_of (mI_noset h3)) (piI it X sc iter tg G h3)
      (fun s H Cc cl fp => pgT (G.blk (blk_kind h1) s H Cc cl fp) t tg h4) (fun s H Cc cl fp => pcEo c _ scope ifs (G.blk (blk_kind h1) s H Cc cl fp) h5) (fun s H Cc cl fp => peE a _ scope x (G.blk (blk_kind h1) s H Cc cl fp) h6)).1.2 fun σ H Q q => ?_
    obtain ⟨B, F, ρ, env, μ, ds, μ', S, he, q⟩ := q
    rw [newF] at he
    exact ⟨B, F, ρ, env, μ, ds, μ', S, he, q⟩
  | bi b a es =>
    cases b with
    | list =>
      obtain ⟨x, p2, y, ys, p, rfl, ⟨⟨rfl, h2⟩, h4⟩, h5⟩ := mE_bi h
      have ha := pa_two (peE a X sc y G h4) (mE_nostar h4).1 (paEs es X sc ys G h5)
      refine PE.imp (pe_bi .list G.calm (G.gl h2) (G.bi (by decide +kernel)) ha (mE_nostar h4).1 (spliced_plain (mEs_nostar h5))) fun σ H Q q => ?_
      obtain ⟨B, F, ρ, env, μ, ds, μ', S, he, q⟩ := q
      rw [newF] at he
      obtain ⟨⟨dx, μ1⟩, g1, g2⟩ := Option.bind_eq_some_iff.mp he
      obtain ⟨⟨dl, μ2⟩, g3, g4⟩ := Option.bind_eq_some_iff.mp g2
      dsimp only at g4
      split at g4
      case h_2 => cases g4
      obtain ⟨es', g5, g6⟩ := Option.map_eq_some_iff.mp g4
      cases g6
      have g7 : evs Φ Γ (.cons a es) env μ = some ([dx], μ') := by
        rw [evs, g1]
        show Option.map _ (evs Φ Γ es env μ1) = _
        rw [g3]
        rfl
      refine RE.go S g7 fun v F1 H1 ρ1 e1 S1 r1 => ?_
      obtain ⟨w, rfl, rw1⟩ := DrL.one r1
      obtain ⟨a', ws, rfl, k3, k4, _⟩ := itsS_ok S1.fh S1.cells rw1 g5
      refine ⟨a', ws, rfl, k3, fun p hp => ?_⟩
      have fp := S1.fh.free hp
      have np := cells_ne S1.cells hp
      have hH : H p = none := by
        by_cases z : H p = none
        · exact z
        · exact absurd hp (e1.dm p z)
      obtain ⟨w1, w2, w3⟩ := write_ok (o := .lst ws) e1 S1.fh S1.cells hH fp np
      exact q p F1 _ ρ1 ws w1 w2 w3 upd_same hH fp np k4
    | _ => cases hn
  | _ => cases hn
/-! ### assignments -/
theorem s_asgLc {i : Nat} {a : E} {t : T} {it : I} {c : Eo} {vs : List Nat} {y : Str} {py p : Pos} {e : Expr} (G : CG C Φ Γ k X sc) (hi : C.N[i]? = some y) (hl : locB sc y = true) (h : mE C sc (.lc a t it c vs) e = true) :
    PS X (.Assign [.Name y py] e p) (tAsg (tN X.K (lcF Φ Γ a t it c vs)) (gName i)) := by
  obtain ⟨x, tg, iter, ifs, n, scope, cp, rfl, ⟨⟨⟨⟨⟨rfl, h1⟩, h2⟩, h3⟩, h4⟩, h5⟩, h6⟩ := mE_lc h
  have hs := folded_of (env := X.env) (mI_noset h3)
  have w1 := piI it X sc iter tg G h3
  have w2 := fun s H Cc cl fp => pgT (G.blk (blk_kind h1) s H Cc cl fp) t tg h4
  have w3 := fun s H Cc cl fp => pcEo c _ scope ifs (G.blk (blk_kind h1) s H Cc cl fp) h5
  have w4 := fun s H Cc cl fp => peE a _ scope x (G.blk (blk_kind h1) s H Cc cl fp) h6
  have L := s_lc (p := cp) G h1 (fun j hj => by have := List.all_eq_true.mp h2 j hj; simpa using this) hs w1 w2 w3 w4
  have e1 := swap_lc (elt := x) (gs := [⟨tg, iter, ifs, 0⟩]) (scope := scope) (pos := cp) (py := py) (y := y) (l := p.line) (env := X.env) G.kind
  obtain ⟨l1, l2⟩ := G.locv hl
  generalize hb : (X.env.kindOf y == some .local && py.line == cp.line && !(scope.names.any fun (n, k) => n == y && (k == .local || k == .cell))) = b at e1
  cases b with
  | true =>
    simp only [Bool.and_eq_true] at hb
    have hloc : X.env.scope.names.lookup y = some .local := (by simpa using hb.1.1 : X.env.kindOf y = some .local)
    exact PS.imp (ps_setLc G.calm G.nd (by rw [G.hN]; exact hi) hloc e1 w1 (G.blkOk h1) w2 w3 w4 hs) fun D σ H q => L.2.2 σ H _ q
  | false => exact ps_set G.nd (by rw [G.hN]; exact hi) l1 L.1.2 e1 l2
theorem lc_or (x : Expr) : (∃ elt gs scope pos, x = .ListComp elt gs scope pos) ∨ isLc x = false := by
  cases x <;> first | exact .inl ⟨_, _, _, _, rfl⟩ | exact .inr rfl
theorem mE_lc_form {m : E} {elt : Expr} {gs : List Comprehension} {scope : Scope} {pos : Pos} (h : mE C sc m (.ListComp elt gs scope pos) = true) : (∃ a t it c vs, m = .lc a t it c vs) ∨ ∃ i m', m = .bor i m' := by
  cases m <;> first | exact .inl ⟨_, _, _, _, _, rfl⟩ | exact .inr ⟨_, _, rfl⟩ | (exfalso; rw [mE] at h <;> first | cases h | (intros; contradiction))
/-- name = value, whatever its form -/
theorem s_asgName {i : Nat} {a : E} {y : Str} {py p : Pos} {x : Expr} (G : CG C Φ Γ k X sc) (hi : C.N[i]? = some y) (hl : locB sc y = true) (ha : mE C sc a x = true) (hk : asgOk (.Name y py) x = true) :
    PS X (.Assign [.Name y py] x p) (tAsg (tE X.K Φ Γ a) (gName i)) := by
  obtain ⟨l1, l2⟩ := G.locv hl
  rcases lc_or x with ⟨elt, gs, scope, pos, rfl⟩ | hx
  · rcases mE_lc_form ha with ⟨b, t, it, c, vs, rfl⟩ | ⟨j, m', rfl⟩
    · obtain ⟨x, tg, iter, ifs, n, scope', cp, e0, ⟨⟨⟨⟨⟨rfl, h1⟩, h2⟩, h3⟩, h4⟩, h5⟩, h6⟩ := mE_lc ha
      cases e0
      have L := s_lc (p := pos) G h1 (fun j hj => by have := List.all_eq_true.mp h2 j hj; simpa using this) (folded_of (mI_noset h3)) (piI it X sc iter tg G h3)
        (fun s H Cc cl fp => pgT (G.blk (blk_kind h1) s H Cc cl fp) t tg h4) (fun s H Cc cl fp => pcEo c _ scope ifs (G.blk (blk_kind h1) s H Cc cl fp) h5) (fun s H Cc cl fp => peE b _ scope elt (G.blk (blk_kind h1) s H Cc cl fp) h6)
      exact PS.imp (s_asgLc G hi hl ha) fun D σ H q => L.2.1 σ H _ q
    · -- a lent list's comprehension hands back a list: never flat
      refine ⟨fun pins s σ H D I q => ?_⟩
      exfalso
      obtain ⟨B, F, ρ, env, μ, d, μ', S, he, q⟩ := q
      have ha' := mE_bor ha
      rw [ev] at he
      obtain ⟨ds, h1, h2⟩ := Option.bind_eq_some_iff.mp he
      obtain ⟨⟨d', μ1⟩, h3, h4⟩ := Option.bind_eq_some_iff.mp h2
      dsimp only at h4
      split at h4
      case isFalse => cases h4
      rename_i hf
      rw [Bool.and_eq_true] at hf
      have key : ∀ (m : E), mE C sc m (.ListComp elt gs scope pos) = true → ∀ env μ r, ev Φ Γ m env μ = some r → flat r.1 = true → False := by
        intro m
        induction m using E.rec (motive_2 := fun _ => True) (motive_3 := fun _ => True) (motive_4 := fun _ => True) with
        | bor i e ih =>
          intro h env μ r hr hf
          rw [ev] at hr
          obtain ⟨ds, h1, h2⟩ := Option.bind_eq_some_iff.mp hr
          obtain ⟨⟨d', μ1⟩, h3, h4⟩ := Option.bind_eq_some_iff.mp h2
          dsimp only at h4
          split at h4
          case isFalse => cases h4
          rename_i hf'
          rw [Bool.and_eq_true] at hf'
          exact ih (mE_bor h) _ _ _ h3 hf'.1
        | lc a t it c vs =>
          intro h env μ r hr hf
          rw [ev] at hr
          obtain ⟨⟨ds, μ1⟩, h1, h2⟩ := Option.bind_eq_some_iff.mp hr
          dsimp only at h2
          split at h2
          case isFalse => cases h2
          obtain ⟨⟨xs, μe⟩, h3, h4⟩ := Option.map_eq_some_iff.mp h2
          cases h4
          cases hf
        | nil => trivial
        | cons => trivial
        | none => trivial
        | some => trivial
        | seq => trivial
        | rng1 => trivial
        | rng2 => trivial
        | zip => trivial
        | enum => trivial
        | _ => intro h; rw [mE] at h <;> first | cases h | (intros; contradiction)
      exact key m' ha' _ _ _ h3 hf.1
  · exact ps_set G.nd (by rw [G.hN]; exact hi) l1 (peE a X sc x G ha) (by
      have := swap_plain (l := p.line) (env := X.env) hk hx
      exact this) l2
end
end Py
end
section
set_option Elab.async false
set_option linter.all false
set_option maxRecDepth 100000
set_option maxHeartbeats 4000000
namespace Py
open PySem L2 RZ
section
variable {C : MC} {Φ : FnS} {Γ : GlS} {k : Nat} {X : Cx} {sc : Scope}
theorem dm_back {F H F' H' : Hp} {ρ ρ' : List Addr} (e : Ext F H ρ F' H' ρ') {p : Addr} (h : H' p = none) : H p = none := by
  by_cases z : H p = none
  · exact z
  · exact absurd h (e.dm p z)
theorem setV_eq {env env' : Env} {i : Nat} {d : D} (h : setV env i d = some env') : i < env.length ∧ env' = env.set i (some (.val d)) := by
  unfold setV at h
  split at h
  · cases h; exact ⟨‹_›, rfl⟩
  · cases h
theorem q_app {i : Nat} {a : E} {x : Str} {p1 p2 p3 p : Pos} {y : Expr} (G : CG C Φ Γ k X sc) (h1 : C.N[i]? = some x) (h2 : visB sc x = true) (h3 : okName x = true) (hl : (p2.endLine == p3.line) = true) (n1 : ∀ v p, y ≠ .Starred v p) (ha : PE X y (tE X.K Φ Γ a)) :
    PS X (.Expr (.Call (.Attribute (.Name x p1) "append" p2) [y] [] p3) p) (tS X.K Φ Γ (.app i a)) := by
  have hv : PE X (.Name x p1) (tVar i) := pe_var (by rw [G.hN]; exact h1) (G.vis h2) (okName_1 h3) (okName_2 h3)
  have hm := pe_bm (cpos := p3) (apos := p2) PySem.F.plainAttrs_list PySem.F.slot_list_append PySem.F.type_list_append mt_append hv (pa_cons ha pa_nil (starEach_cons n1)) rfl (by rw [starEach_cons n1]; rfl) hl (starEach_cons n1) rfl
  refine PS.imp (ps_expr hm) fun D σ H q => ?_
  obtain ⟨F0, B0, ρ0, F, ρ, env, μ, r, S, E0, he, q⟩ := q
  rw [ex] at he
  obtain ⟨⟨d, μ1⟩, g1, g2⟩ := Option.bind_eq_some_iff.mp he
  obtain ⟨ds, g3, g4⟩ := Option.bind_eq_some_iff.mp g2
  split at g4
  case isFalse => cases g4
  rename_i hz
  cases g4
  have ho := getO_eq g3
  obtain ⟨v, k1, al, xs, rfl, k2, k3, k4, k5, k6⟩ := S.env.at_ _ _ ho
  refine ⟨_, k1, .inl ⟨rfl, _, .inl (.inl k2)⟩, ?_⟩
  refine RE.go S g1 fun w F1 H1 ρ1 e1 S1 r1 => ?_
  obtain ⟨v', k1', al', xs', e0, j2, j3, j4, j5, j6⟩ := S1.env.at_ _ _ ho
  rw [k1] at k1'
  cases k1'
  cases e0
  refine ⟨al, xs', w, rfl, rfl, j2, by rw [sz, j3.length]; exact hz, ?_⟩
  have E1 := E0.trans e1
  have S2 := S1.own_write ho k1 j4 j5 j6 (j3.append (.cons r1 .nil))
  exact q σ F1 _ ρ1 S2 (write_ok E1 S1.fh S1.cells j6 j4 j5).1 e1.gr
theorem q_expr {a : E} {x : Expr} {p : Pos} (hc : isCall x = true) (ha : PE X x (tE X.K Φ Γ a)) : PS X (.Expr x p) (tS X.K Φ Γ (.expr a)) := by
  refine PS.imp (ps_expr ha (by cases x <;> first | rfl | cases hc)) fun D σ H q => ?_
  obtain ⟨F0, B0, ρ0, F, ρ, env, μ, r, S, E0, he, q⟩ := q
  rw [ex] at he
  obtain ⟨⟨d, μ1⟩, g1, g2⟩ := Option.map_eq_some_iff.mp he
  cases g2
  exact RE.go S g1 fun w F1 H1 ρ1 e1 S1 r1 => q σ F1 H1 ρ1 S1 (E0.trans e1) e1.gr
theorem q_asg {t : T} {a : E} {tg x : Expr} {p : Pos} (G : CG C Φ Γ k X sc) (ht : mT C sc t tg = true) (ha : mE C sc a x = true) (hk : asgOk tg x = true) : PS X (.Assign [tg] x p) (tS X.K Φ Γ (.asg t a)) := by
  rcases lc_or x with ⟨elt, gs, scope, pos, rfl⟩ | hx
  · -- the target is a name
    cases tg with
    | Name y py =>
      unfold mT at ht
      split at ht <;> first | contradiction | skip
      rename_i i _ _ _ q; cases q
      simp only [Bool.and_eq_true, decide_eq_true_eq] at ht
      refine PS.imp (s_asgName G ht.1 ht.2 ha hk) fun D σ H q => ?_
      obtain ⟨F0, B0, ρ0, F, ρ, env, μ, r, S, E0, he, q⟩ := q
      rw [ex] at he
      obtain ⟨⟨d, μ1⟩, g1, g2⟩ := Option.bind_eq_some_iff.mp he
      obtain ⟨env', g3, g4⟩ := Option.map_eq_some_iff.mp g2
      cases g4
      rw [asgT] at g3
      obtain ⟨_, rfl⟩ := setV_eq g3
      exact RE.go S g1 fun w F1 H1 ρ1 e1 S1 r1 => q _ F1 H1 ρ1 (S1.setV r1) (E0.trans e1) e1.gr
    | _ => unfold asgOk at hk; cases hk
  · refine PS.imp (ps_asg (peE a X sc x G ha) (pgT G t tg ht) (swap_plain hk hx) (stores_plain hk) (by rw [assignEach_cons (mT_nostar ht)]; rfl)) fun D σ H q => ?_
    obtain ⟨F0, B0, ρ0, F, ρ, env, μ, r, S, E0, he, q⟩ := q
    rw [ex] at he
    obtain ⟨⟨d, μ1⟩, g1, g2⟩ := Option.bind_eq_some_iff.mp he
    obtain ⟨env', g3, g4⟩ := Option.map_eq_some_iff.mp g2
    cases g4
    exact RE.go S g1 fun w F1 H1 ρ1 e1 S1 r1 => ⟨B0, F1, ρ1, env, μ1, d, env', S1, r1, g3, fun σ' S' _ _ => q σ' F1 H1 ρ1 S' (E0.trans e1) e1.gr⟩
theorem newS_name {i : Nat} {a : E} {y : Str} {py p : Pos} {x : Expr} (G : CG C Φ Γ k X sc) (hi : C.N[i]? = some y) (hl : locB sc y = true) (ha : mE C sc a x = true) (hn : isNew a = true) :
    PS X (.Assign [.Name y py] x p) (tAsg (tN X.K (newF Φ Γ a)) (gName i)) := by
  obtain ⟨l1, l2⟩ := G.locv hl
  cases a with
  | lc b t it c vs =>
    refine PS.imp (s_asgLc G hi hl ha) fun D σ H q => ?_
    obtain ⟨B, F, ρ, env, μ, ds, μ', S, he, q⟩ := q
    rw [newF] at he
    exact ⟨B, F, ρ, env, μ, ds, μ', S, he, q⟩
  | lst es =>
    have hp := peN (Φ := Φ) (Γ := Γ) (k := k) (.lst es) x G ha hn
    obtain ⟨xs, p, rfl, _⟩ := mE_lst ha
    exact ps_set G.nd (by rw [G.hN]; exact hi) l1 hp rfl l2
  | bi b e es =>
    have hp := peN (Φ := Φ) (Γ := Γ) (k := k) (.bi b e es) x G ha hn
    obtain ⟨x, p2, y, ys, p, rfl, _⟩ := mE_bi ha
    exact ps_set G.nd (by rw [G.hN]; exact hi) l1 hp rfl l2
  | _ => cases hn
theorem q_asgN {i : Nat} {a : E} {y : Str} {py p : Pos} {x : Expr} (G : CG C Φ Γ k X sc) (hi : C.N[i]? = some y) (hl : locB sc y = true) (ha : mE C sc a x = true) (hn : isNew a = true) : PS X (.Assign [.Name y py] x p) (tS X.K Φ Γ (.asgN i a)) := by
  refine PS.imp (newS_name G hi hl ha hn) fun D σ H q => ?_
  obtain ⟨F0, B0, ρ0, F, ρ, env, μ, r, S, E0, he, q⟩ := q
  rw [ex] at he
  obtain ⟨⟨d, μ1⟩, g1, g2⟩ := Option.bind_eq_some_iff.mp he
  obtain ⟨ds, k1, k2⟩ := newF_ok hn g1
  dsimp only at k1 k2
  subst k1
  dsimp only at g2
  split at g2
  case isFalse => cases g2
  rename_i hlen
  cases g2
  refine ⟨B0, F, ρ, env, μ, ds, μ1, S, k2, fun p F' H' ρ' xs e s c h3 h4 h5 h6 r => ?_⟩
  have S1 := S.step e s c
  refine q _ F' H' ρ' (S1.own_new hlen h3 h5 h6 (dm_back E0 h4) (fun j fs hj hσ => ?_) r) (E0.trans e) e.gr
  obtain ⟨v, j1, al, ws, rfl, j2, _⟩ := S.env.at_ _ _ hj
  rw [hσ] at j1
  cases j1
  rw [h4] at j2
  cases j2
theorem q_par {i j : Nat} {a b : E} {x y : Str} {px py p1 p2 p : Pos} {k1 k2 : Nat} {u v : Expr} (G : CG C Φ Γ k X sc) (hi : C.N[i]? = some x) (hj : C.N[j]? = some y) (hij : i ≠ j) (hx : lclB sc x = true) (hy : lclB sc y = true) (hl : px.line = py.line)
    (h1 : (foldedForSure 8 u && foldedForSure 8 v) = false) (h2 : (constantsAlone 8 u && constantsAlone 8 v) = false) (ha : mE C sc a u = true) (hb : mE C sc b v = true) :
    PS X (.Assign [.Tuple [.Name x px, .Name y py] k1 p1] (.Tuple [u, v] k2 p2) p) (tS X.K Φ Γ (.par i j a b)) := by
  have lx : X.env.scope.names.lookup x = some .local := by
    unfold lclB at hx
    split at hx
    · exact G.loc _ ‹_›
    · cases hx
  have ly : X.env.scope.names.lookup y = some .local := by
    unfold lclB at hy
    split at hy
    · exact G.loc _ ‹_›
    · cases hy
  have hxy : x ≠ y := fun z => hij (by
    have nd := G.nd
    rw [G.hN] at nd
    subst z
    exact nodup_ix nd hi hj)
  have n1 := (mE_nostar ha).1
  have n2 := (mE_nostar hb).1
  have hpa := pa_two (peE a X sc u G ha) n1 (pa_two (peE b X sc v G hb) n2 (pa_nil' (Φ := Φ) (Γ := Γ)))
  refine PS.imp (ps_par G.calm G.nd (by rw [G.hN]; exact hi) (by rw [G.hN]; exact hj) hij lx ly hpa (stores_par G.kind lx ly hxy hl n1 n2 h1 h2)) fun D σ H q => ?_
  obtain ⟨F0, B0, ρ0, F, ρ, env, μ, r, S, E0, he, q⟩ := q
  rw [ex] at he
  obtain ⟨⟨d, μ1⟩, g1, g2⟩ := Option.bind_eq_some_iff.mp he
  obtain ⟨⟨d2, μ2⟩, g3, g4⟩ := Option.bind_eq_some_iff.mp g2
  obtain ⟨env1, g5, g6⟩ := Option.bind_eq_some_iff.mp g4
  obtain ⟨env2, g7, g8⟩ := Option.map_eq_some_iff.mp g6
  cases g8
  obtain ⟨_, rfl⟩ := setV_eq g5
  obtain ⟨_, rfl⟩ := setV_eq g7
  have he2 : evs Φ Γ (.cons a (.cons b .nil)) env μ = some ([d, d2], μ2) := by
    rw [evs, g1]
    show Option.map _ (evs Φ Γ (.cons b .nil) env μ1) = _
    have : evs Φ Γ (.cons b .nil) env μ1 = some ([d2], μ2) := by
      rw [evs]
      simp only [g3, Option.bind_some]
      rw [evs]
      rfl
    rw [this]
    rfl
  refine RE.go S he2 fun ws F1 H1 ρ1 e1 S1 r1 => ?_
  obtain ⟨w1, w2, rfl, r2, r3⟩ := DrL.two r1
  exact ⟨w1, w2, rfl, q _ F1 H1 ρ1 ((S1.setV r2).setV r3) (E0.trans e1) e1.gr⟩
theorem q_aug {i : Nat} {op : Operator} {a : E} {x : Str} {p1 p : Pos} {y : Expr} (G : CG C Φ Γ k X sc) (hi : C.N[i]? = some x) (hl : locB sc x = true) (ha : PE X y (tE X.K Φ Γ a)) : PS X (.AugAssign (.Name x p1) op y p) (tS X.K Φ Γ (.aug i op a)) := by
  obtain ⟨l1, l2⟩ := G.locv hl
  have hi' : X.N[i]? = some x := by rw [G.hN]; exact hi
  cases op with
  | Add =>
    refine PS.imp (ps_aug G.nd hi' l1 ha ip_add l2) fun D σ H q => ?_
    obtain ⟨F0, B0, ρ0, F, ρ, env, μ, r, S, E0, he, q⟩ := q
    rw [ex] at he
    obtain ⟨dx, g1, g2⟩ := Option.bind_eq_some_iff.mp he
    obtain ⟨⟨dy, μ1⟩, g3, g4⟩ := Option.bind_eq_some_iff.mp g2
    dsimp only at g4
    split at g4
    · obtain ⟨env', g5, g6⟩ := Option.map_eq_some_iff.mp g4
      cases g6
      obtain ⟨_, rfl⟩ := setV_eq g5
      obtain ⟨v, k1, k2⟩ := S.env.at_ _ _ (getV_eq g1)
      have k2' : Dr X.K F ρ v (.int _) := k2
      cases k2'
      refine ⟨_, k1, RE.go S g3 fun w F1 H1 ρ1 e1 S1 r1 => ?_⟩
      cases r1
      exact ⟨_, _, rfl, rfl, q _ F1 H1 ρ1 (S1.setV (.int _)) (E0.trans e1) e1.gr⟩
    · contradiction
    · cases g4
  | Sub =>
    refine PS.imp (ps_aug G.nd hi' l1 ha ip_sub l2) fun D σ H q => ?_
    obtain ⟨F0, B0, ρ0, F, ρ, env, μ, r, S, E0, he, q⟩ := q
    rw [ex] at he
    obtain ⟨dx, g1, g2⟩ := Option.bind_eq_some_iff.mp he
    obtain ⟨⟨dy, μ1⟩, g3, g4⟩ := Option.bind_eq_some_iff.mp g2
    dsimp only at g4
    split at g4
    · contradiction
    · obtain ⟨env', g5, g6⟩ := Option.map_eq_some_iff.mp g4
      cases g6
      obtain ⟨_, rfl⟩ := setV_eq g5
      obtain ⟨v, k1, k2⟩ := S.env.at_ _ _ (getV_eq g1)
      have k2' : Dr X.K F ρ v (.int _) := k2
      cases k2'
      refine ⟨_, k1, RE.go S g3 fun w F1 H1 ρ1 e1 S1 r1 => ?_⟩
      cases r1
      exact ⟨_, _, rfl, rfl, q _ F1 H1 ρ1 (S1.setV (.int _)) (E0.trans e1) e1.gr⟩
    · cases g4
  | _ =>
    refine ⟨fun pins s σ H D I q => ?_⟩
    exfalso
    obtain ⟨F0, B0, ρ0, F, ρ, env, μ, r, S, E0, he, q⟩ := q
    rw [ex] at he
    obtain ⟨dx, g1, g2⟩ := Option.bind_eq_some_iff.mp he
    obtain ⟨⟨dy, μ1⟩, g3, g4⟩ := Option.bind_eq_some_iff.mp g2
    cases g4
theorem q_setm {o i a : E} {x y z : Expr} {p1 p : Pos} (G : CG C Φ Γ k X sc) (ho : mE C sc o x = true) (hi : mE C sc i y = true) (ha : mE C sc a z = true) (hs : sliceB y = false) (hk : asgOk (.Name "" ⟨0, 0, 0, 0⟩) z = true) (hlc : isLc z = false) :
    PS X (.Assign [.Subscript x y p1] z p) (tS X.K Φ Γ (.setm o i a)) := by
  have hk' : asgOk (.Subscript x y p1) z = true := by
    cases z <;> first | rfl | (unfold asgOk at hk; cases hk; done) | cases hlc
  have hg : PG X (.Subscript x y p1) (gSub (tE X.K Φ Γ o) (tE X.K Φ Γ i) rSetL) := pg_sub (peE o X sc x G ho) (peE i X sc y G hi) set_list (by cases y <;> first | exact fun _ => rfl | cases hs)
  refine PS.imp (ps_asg (peE a X sc z G ha) hg (swap_plain hk' hlc) (stores_plain hk') rfl) fun D σ H q => ?_
  obtain ⟨F0, B0, ρ0, F, ρ, env, μ, r, S, E0, he, q⟩ := q
  rw [ex] at he
  obtain ⟨⟨d, μ1⟩, g1, g2⟩ := Option.bind_eq_some_iff.mp he
  obtain ⟨⟨dx, μ2⟩, g3, g4⟩ := Option.bind_eq_some_iff.mp g2
  obtain ⟨⟨dy, μ3⟩, g5, g6⟩ := Option.bind_eq_some_iff.mp g4
  dsimp only at g6
  split at g6
  case h_2 => cases g6
  obtain ⟨ds, g7, g8⟩ := Option.bind_eq_some_iff.mp g6
  obtain ⟨j, g9, g10⟩ := Option.map_eq_some_iff.mp g8
  cases g10
  refine RE.go S g1 fun v F1 H1 ρ1 e1 S1 r1 => RE.go S1 g3 fun w F2 H2 ρ2 e2 S2 r2 => RE.go S2 g5 fun w' F3 H3 ρ3 e3 S3 r3 => ?_
  cases r3
  cases r2 with
  | mr hm =>
    have hm3 := e3.rr _ _ hm
    obtain ⟨_, xs, j2, j3⟩ := S3.cells.at_ _ _ _ hm3 g7
    obtain ⟨S4, E4⟩ := S3.cell_write (((E0.trans e1).trans e2).trans e3) hm3 g7 (j3.set j ((r1.ext e2).ext e3))
    exact ⟨_, xs, _, j, rfl, rfl, j2, by rw [j3.length]; exact g9, q σ F3 _ ρ3 S4 E4 ((e1.trans e2).trans e3).gr⟩
theorem q_ret {a : E} {x : Expr} {p : Pos} (ha : PE X x (tE X.K Φ Γ a)) : PS X (.Return (some x) p) (tS X.K Φ Γ (.ret a)) := by
  refine PS.imp (ps_ret ha) fun D σ H q => ?_
  obtain ⟨F0, B0, ρ0, F, ρ, env, μ, r, S, E0, he, q⟩ := q
  rw [ex] at he
  obtain ⟨⟨d, μ1⟩, g1, g2⟩ := Option.map_eq_some_iff.mp he
  cases g2
  exact RE.go S g1 fun w F1 H1 ρ1 e1 S1 r1 => q w F1 H1 ρ1 (E0.trans e1) S1.fh S1.cells r1
theorem q_if {c : E} {a b : List S} {x : Expr} {ys zs : List Stmt} {p : Pos} (hc : PT X x (tT X.K Φ Γ c)) (ha : PSs X ys (tSs X.K Φ Γ a)) (hb : PSs X zs (tSs X.K Φ Γ b)) : PS X (.If x ys zs p) (tS X.K Φ Γ (.iff c a b)) := by
  refine PS.imp (ps_if hc ha hb) fun D σ H q => ?_
  obtain ⟨F0, B0, ρ0, F, ρ, env, μ, r, S, E0, he, q⟩ := q
  rw [ex] at he
  obtain ⟨⟨k, μ1⟩, g1, g2⟩ := Option.bind_eq_some_iff.mp he
  refine RE.go S g1 fun w F1 H1 ρ1 e1 S1 r1 => ?_
  cases r1
  dsimp only at g2
  cases k with
  | true => exact iteT ⟨F0, B0, ρ0, F1, ρ1, env, μ1, r, S1, E0.trans e1, by rw [if_pos rfl] at g2; exact g2, q.grow e1.gr⟩
  | false => exact iteF ⟨F0, B0, ρ0, F1, ρ1, env, μ1, r, S1, E0.trans e1, by rw [if_neg Bool.false_ne_true] at g2; exact g2, q.grow e1.gr⟩
theorem q_while {c : E} {b : List S} {x : Expr} {ys : List Stmt} {p : Pos} (hp : PassesOwn (model X.prog X.w) X.A X.env X.xe) (hc : PT X x (tT X.K Φ Γ c)) (hb : PSs X ys (tSs X.K Φ Γ b)) : PS X (.While x ys [] p) (tS X.K Φ Γ (.wh c b)) := by
  refine PS.imp (ps_while hp hc hb) fun D σ H q => ?_
  obtain ⟨F0, B0, ρ0, F, ρ, env, μ, r, S, E0, he, q⟩ := q
  rw [ex] at he
  obtain ⟨n, hn⟩ := whS_some.mp he
  have Wd : Nat → L2.St → Hp → Prop := fun m σ H => True
  refine ⟨fun m σ H => ∃ F1 ρ1 env μ, SR X.K B0 F1 H ρ1 σ env μ ∧ Ext F0 B0 ρ0 F1 H ρ1 ∧ Gr F ρ F1 ρ1 ∧ whN (fun env' μ' => evT Φ Γ c env' μ') (fun env' μ' => exs Φ Γ b env' μ') m env μ = some r, ⟨n, F, ρ, env, μ, S, E0, .refl, hn⟩, ?_⟩
  rintro m σ H ⟨F', ρ', env, μ, S, E, gr, h⟩
  cases m with
  | zero => rw [whN] at h; cases h
  | succ m =>
    rw [whN] at h
    obtain ⟨⟨k, μ1⟩, g1, g2⟩ := Option.bind_eq_some_iff.mp h
    refine RE.go S g1 fun w F1 H1 ρ1 e1 S1 r1 => ?_
    cases r1
    dsimp only at g2
    have E1 := E.trans e1
    have gr1 := gr.trans e1.gr
    cases k with
    | false =>
      rw [if_neg Bool.false_ne_true] at g2
      cases g2
      exact iteF (q σ F1 H1 ρ1 S1 E1 gr1)
    | true =>
      rw [if_pos rfl] at g2
      obtain ⟨fl, g3, g4⟩ := Option.bind_eq_some_iff.mp g2
      refine iteT ⟨fun σ H => ∃ F1 ρ1 env μ, SR X.K B0 F1 H ρ1 σ env μ ∧ Ext F0 B0 ρ0 F1 H ρ1 ∧ Gr F ρ F1 ρ1 ∧ whN (fun env' μ' => evT Φ Γ c env' μ') (fun env' μ' => exs Φ Γ b env' μ') m env μ = some r, fun σ' H' h' => ⟨m, Nat.lt_succ_self m, h'⟩, F0, B0, ρ0, F1, ρ1, env, μ1, fl, S1, E1, g3, ?_⟩
      cases fl with
      | nx e μ' => exact fun σ' F' H' ρ' S' E' G' => ⟨F', ρ', _, _, S', E', gr1.trans G', g4⟩
      | ct e μ' => exact fun σ' F' H' ρ' S' E' G' => ⟨F', ρ', _, _, S', E', gr1.trans G', g4⟩
      | bk e μ' => cases g4; exact fun σ' F' H' ρ' S' E' G' => q σ' F' H' ρ' S' E' (gr1.trans G')
      | rt d μ' => cases g4; exact fun v F' H' ρ' E' s' c' r' => q v F' H' ρ' E' s' c' r'
theorem q_for {t : T} {it : I} {b : List S} {tg x : Expr} {ys : List Stmt} {p : Pos} (G : CG C Φ Γ k X sc) (hp : PassesOwn (model X.prog X.w) X.A X.env X.xe) (ht : mT C sc t tg = true) (hi : mI C sc it x (isTup tg) = true) (hb : PSs X ys (tSs X.K Φ Γ b)) : PS X (.For tg x ys [] p) (tS X.K Φ Γ (.for t it b)) := by
  refine PS.imp (ps_for hp G.calm (piI it X sc x tg G hi) (pgT G t tg ht) hb (folded_of (mI_noset hi))) fun D σ H q => ?_
  obtain ⟨F0, B0, ρ0, F, ρ, env, μ, r, S, E0, he, q⟩ := q
  rw [ex] at he
  obtain ⟨⟨ds, μ1⟩, g1, g2⟩ := Option.bind_eq_some_iff.mp he
  refine RE.go S g1 fun J F1 H1 ρ1 e1 S1 r1 => ?_
  obtain ⟨G', Y, W, hG, hY⟩ := r1
  refine for_it W (fun i σ H => ∃ F2 ρ2 env2 μ2, SR X.K B0 F2 H ρ2 σ env2 μ2 ∧ Ext F0 B0 ρ0 F2 H ρ2 ∧ Gr F1 ρ1 F2 ρ2 ∧ forS t (fun env' μ' => exs Φ Γ b env' μ') (ds.drop i) env2 μ2 = some r) ?_ ?_ ?_ ?_
  · exact ⟨F1, ρ1, env, μ1, S1, E0.trans e1, .refl, g2⟩
  · rintro i σ H _ ⟨F2, ρ2, env2, μ2, S2, E2, s2, _⟩
    exact hG F2 H s2.ff S2.fh
  · rintro i y σ H H' hi' ⟨F2, ρ2, env2, μ2, S2, E2, gr, hf⟩ hy
    obtain ⟨F3, dx, P, k1, k2⟩ := hY i y H H' F2 hi' gr.ff S2.fh hy
    have hdrop : ds.drop i = dx :: ds.drop (i + 1) := by
      have hlt : i < ds.length := hi'
      rw [List.drop_eq_getElem_cons hlt]
      rw [List.getElem?_eq_getElem hlt] at k1
      cases k1
      rfl
    rw [hdrop, forS] at hf
    obtain ⟨env1, u1, u2⟩ := Option.bind_eq_some_iff.mp hf
    obtain ⟨fl, u3, u4⟩ := Option.bind_eq_some_iff.mp u2
    have S3 := S2.px P
    have E3 := E2.trans (P.ext (ρ := ρ2))
    have gr3 : Gr F1 ρ1 F3 ρ2 := gr.trans ⟨P.ff, fun _ _ h => h⟩
    refine ⟨B0, F3, ρ2, env2, μ2, dx, env1, S3, k2 ρ2 gr.rr, u1, fun σ2 S4 _ _ => ⟨F0, B0, ρ0, F3, ρ2, env1, μ2, fl, S4, E3, u3, ?_⟩⟩
    cases fl with
    | nx e μ' => exact fun σ' F' H' ρ' S' E' G' => ⟨F', ρ', _, _, S', E', gr3.trans G', u4⟩
    | ct e μ' => exact fun σ' F' H' ρ' S' E' G' => ⟨F', ρ', _, _, S', E', gr3.trans G', u4⟩
    | bk e μ' => cases u4; exact fun σ' F' H' ρ' S' E' G' => q σ' F' H' ρ' S' E' ((e1.gr.trans gr3).trans G')
    | rt d μ' => cases u4; exact fun v F' H' ρ' E' s' c' r' => q v F' H' ρ' E' s' c' r'
  · rintro σ H ⟨F2, ρ2, env2, μ2, S2, E2, gr, hf⟩
    rw [List.drop_length, forS] at hf
    cases hf
    exact q σ F2 H ρ2 S2 E2 (e1.gr.trans gr)
/-! ### all statements -/
mutual
theorem psS (G : CG C Φ Γ k X sc) (hp : PassesOwn (model X.prog X.w) X.A X.env X.xe) : ∀ (s : S) (e : Stmt), mS C sc s e = true → PS X e (tS X.K Φ Γ s)
  | .app i a, e, h => by
    obtain ⟨x, p1, m, p2, y, p3, p, rfl, ⟨⟨⟨⟨h1, h2⟩, h3⟩, rfl⟩, h4⟩, h5⟩ := mS_app h
    exact q_app G h1 h2 h3 h4 (mE_nostar h5).1 (peE a X sc y G h5)
  | .expr a, e, h => by
    obtain ⟨x, p, rfl, h1, h2⟩ := mS_expr h
    exact q_expr h1 (peE a X sc x G h2)
  | .asg t a, e, h => by
    obtain ⟨tg, x, p, rfl, ⟨h1, h2⟩, h3⟩ := mS_asg h
    exact q_asg G h1 h2 h3
  | .asgN i a, e, h => by
    obtain ⟨y, py, x, p, rfl, ⟨h1, h2⟩, h3⟩ := mS_asgN h
    unfold mT at h1
    simp only [Bool.and_eq_true, decide_eq_true_eq] at h1
    exact q_asgN G h1.1 h1.2 h2 h3
  | .par i j a b, e, h => by
    obtain ⟨x, px, y, py, k1, p1, u, v, k2, p2, p, rfl, ⟨⟨⟨⟨⟨⟨⟨⟨h1, h2⟩, h3⟩, h4⟩, h5⟩, h6⟩, h7⟩, h8⟩, h9⟩, h10⟩ := mS_par h
    exact q_par G h1 h2 h3 h4 h5 h6 h9 h10 h7 h8
  | .aug i op a, e, h => by
    obtain ⟨x, p1, o, y, p, rfl, ⟨⟨h1, h2⟩, rfl⟩, h3⟩ := mS_aug h
    exact q_aug G h1 h2 (peE a X sc y G h3)
  | .setm o i a, e, h => by
    obtain ⟨x, y, p1, z, p, rfl, ⟨⟨⟨⟨h1, h2⟩, h3⟩, h4⟩, h5⟩, h6⟩ := mS_setm h
    exact q_setm G h1 h2 h3 h4 h5 h6
  | .ret a, e, h => by
    obtain ⟨x, p, rfl, h1⟩ := mS_ret h
    exact q_ret (peE a X sc x G h1)
  | .retN, e, h => by
    obtain ⟨p, rfl⟩ := mS_retN h
    refine PS.imp ps_retN fun D σ H q => ?_
    obtain ⟨F0, B0, ρ0, F, ρ, env, μ, r, S, E0, he, q⟩ := q
    rw [ex] at he; cases he
    exact q _ F H ρ E0 S.fh S.cells .non
  | .iff c a b, e, h => by
    obtain ⟨x, ys, zs, p, rfl, ⟨h1, h2⟩, h3⟩ := mS_iff h
    exact q_if (ptE c X sc x G h1) (pssS G hp a ys h2) (pssS G hp b zs h3)
  | .wh c b, e, h => by
    obtain ⟨x, ys, p, rfl, h1, h2⟩ := mS_wh h
    exact q_while hp (ptE c X sc x G h1) (pssS G hp b ys h2)
  | .for t it b, e, h => by
    obtain ⟨tg, x, ys, p, rfl, ⟨h1, h2⟩, h3⟩ := mS_for h
    exact q_for G hp h1 h2 (pssS G hp b ys h3)
  | .brk, e, h => by
    obtain ⟨p, rfl⟩ := mS_brk h
    refine PS.imp ps_break fun D σ H q => ?_
    obtain ⟨F0, B0, ρ0, F, ρ, env, μ, r, S, E0, he, q⟩ := q
    rw [ex] at he; cases he
    exact q _ F H ρ S E0 .refl
  | .cont, e, h => by
    obtain ⟨p, rfl⟩ := mS_cont h
    refine PS.imp ps_continue fun D σ H q => ?_
    obtain ⟨F0, B0, ρ0, F, ρ, env, μ, r, S, E0, he, q⟩ := q
    rw [ex] at he; cases he
    exact q _ F H ρ S E0 .refl
  | .pass, e, h => by
    obtain ⟨p, rfl⟩ := mS_pass h
    refine PS.imp ps_pass fun D σ H q => ?_
    obtain ⟨F0, B0, ρ0, F, ρ, env, μ, r, S, E0, he, q⟩ := q
    rw [ex] at he; cases he
    exact q _ F H ρ S E0 .refl
  | .frz i s, e, h => by
    refine PS.imp (psS G hp s e (mS_frz h)) fun D σ H q => ?_
    obtain ⟨F0, B0, ρ0, F, ρ, env, μ, r, S, E0, he, q⟩ := q
    rw [ex] at he
    obtain ⟨ds, h1, h2⟩ := Option.bind_eq_some_iff.mp he
    obtain ⟨F1, S1, E1, g1⟩ := S.freeze E0 h1
    exact ⟨F0, B0, ρ0, F1, ρ, _, μ, r, S1, E1, h2, q.grow g1⟩
theorem pssS (G : CG C Φ Γ k X sc) (hp : PassesOwn (model X.prog X.w) X.A X.env X.xe) : ∀ (s : List S) (e : List Stmt), mSs C sc s e = true → PSs X e (tSs X.K Φ Γ s)
  | [], [], _ => by
    refine PSs.imp pss_nil fun D σ H q => ?_
    obtain ⟨F0, B0, ρ0, F, ρ, env, μ, r, S, E0, he, q⟩ := q
    rw [exs] at he; cases he
    exact q _ F H ρ S E0 .refl
  | s :: ss, e :: es, h => by
    rw [mSs, Bool.and_eq_true] at h
    refine PSs.imp (pss_cons (psS G hp s e h.1) (pssS G hp ss es h.2)) fun D σ H q => ?_
    obtain ⟨F0, B0, ρ0, F, ρ, env, μ, r, S, E0, he, q⟩ := q
    rw [exs] at he
    obtain ⟨fl, g1, g2⟩ := Option.bind_eq_some_iff.mp he
    refine ⟨F0, B0, ρ0, F, ρ, env, μ, fl, S, E0, g1, ?_⟩
    cases fl with
    | nx e' m' => exact fun σ' F' H' ρ' S' E' G' => ⟨F0, B0, ρ0, F', ρ', _, _, r, S', E', g2, q.grow G'⟩
    | bk e' m' => cases g2; exact q
    | ct e' m' => cases g2; exact q
    | rt d m' => cases g2; exact q
  | [], _ :: _, h => by rw [mSs] at h <;> first | cases h | (intros; contradiction)
  | _ :: _, [], h => by rw [mSs] at h <;> first | cases h | (intros; contradiction)
end
end
end Py
end
section
set_option Elab.async false
set_option linter.all false
set_option maxRecDepth 100000
set_option maxHeartbeats 4000000
namespace Py
open PySem L2 RZ
/-- a def of the text: its name, its slots' names (the parameters first), its syntax, its statement -/
structure PF where
  name : Str
  N : List Str
  fn : Fn
  st : Stmt
def PF.ps (p : PF) : List Str := p.N.take p.fn.ar
/-- what is looked at by the kernel -/
def PF.ok (names gls : List Str) (p : PF) : Bool :=
  mSs ⟨p.N, names, gls⟩ (defScope p.st) p.fn.body (defBody p.st) && decide ((defScope p.st).kind = .function) && (defScope p.st).isCoroutine == false && (defScope p.st).isGenerator == false &&
    decide p.N.Nodup && (p.N.take p.fn.ar).all (fun x => locB (defScope p.st) x) && (defScope p.st).names.all (fun y => decide (y.2 ≠ .free)) && decide (p.fn.ar ≤ p.N.length) && decide (p.fn.sl = p.N.length)
theorem PF.scope {names gls : List Str} {p : PF} (h : p.ok names gls = true) : FnScope p.N p.ps (defScope p.st) ∧ mSs ⟨p.N, names, gls⟩ (defScope p.st) p.fn.body (defBody p.st) = true ∧ p.fn.ar ≤ p.N.length ∧ p.fn.sl = p.N.length := by
  unfold PF.ok at h
  simp only [Bool.and_eq_true, decide_eq_true_eq, beq_iff_eq] at h
  obtain ⟨⟨⟨⟨⟨⟨⟨⟨h1, h2⟩, h3⟩, h4⟩, h5⟩, h6⟩, h7⟩, h8⟩, h9⟩ := h
  refine ⟨⟨h2, h3, h4, h5, ?_, fun x hx => ?_, fun y hy => ?_⟩, h1, h8, h9⟩
  · unfold PF.ps
    rw [List.length_take, Nat.min_eq_left h8]
  · have := List.all_eq_true.mp h6 x hx
    unfold locB at this
    split at this
    · exact .inl ‹_›
    · exact .inr ‹_›
    · cases this
  · have := List.all_eq_true.mp h7 y hy
    simpa using this
theorem ps_len {names gls : List Str} {p : PF} (h : p.ok names gls = true) : p.ps.length = p.fn.ar := by
  have := (PF.scope h).2.2.1
  unfold PF.ps
  rw [List.length_take, Nat.min_eq_left this]
section
variable {P : Program} {w : World} {K : PySem.W.Frag} {mg : Str → Option Value} {base : Heap}
/-- where a def stands -/
structure PFact (K : PySem.W.Frag) (mg : Str → Option Value) (p : PF) (fa : Addr) (fd : FuncData) : Prop where
  mgf : mg p.name = some (.ref fa)
  fun_ : FunD K p.name p.name (defArgs p.st) (defBody p.st) (defScope p.st) [] [] fa fd
  bnd : Binds K fd p.ps []
theorem start_env {names gls : List Str} {p : PF} (h : p.ok names gls = true) {F H : Hp} {ρ : List Addr} {μ : Store} {vs : List V} {ds : List D} (fh : Same F H) (c : Cells K F H ρ μ) (r : DrL K F ρ vs ds) (hl : ds.length = p.fn.ar) :
    SR K H F H ρ (L2.start p.N vs) (ds.map (fun d => some (SV.val d)) ++ List.replicate (p.fn.sl - p.fn.ar) none) μ := by
  obtain ⟨_, _, h8, h9⟩ := PF.scope h
  have hv : vs.length = p.fn.ar := r.length.trans hl
  have get : ∀ (i : Nat) (sv : SV), (ds.map (fun d => some (SV.val d)) ++ List.replicate (p.fn.sl - p.fn.ar) none)[i]? = some (some sv) → ∃ d, ds[i]? = some d ∧ sv = .val d := fun i sv g => by
    by_cases hi : i < ds.length
    · rw [List.getElem?_append_left (by simpa using hi), List.getElem?_map, List.getElem?_eq_getElem hi] at g
      cases g
      exact ⟨_, List.getElem?_eq_getElem hi, rfl⟩
    · rw [List.getElem?_append_right (by simpa using hi), List.getElem?_replicate] at g
      split at g <;> cases g
  refine ⟨fh, c, ⟨?_, fun i sv g => ?_, fun i j es fs a g1 g2 _ _ => ?_⟩⟩
  · unfold L2.start
    rw [List.length_append, List.length_append, List.length_map, List.length_map, List.length_replicate, List.length_replicate, hv, hl]
    omega
  · obtain ⟨d, g1, rfl⟩ := get i sv g
    obtain ⟨v, g2, g3⟩ := r.get g1
    refine ⟨v, ?_, g3⟩
    unfold L2.start
    have hi : i < vs.length := (List.getElem?_eq_some_iff.mp g2).1
    rw [List.getElem?_append_left (by simpa using hi), List.getElem?_map, g2]
    rfl
  · obtain ⟨d, _, e⟩ := get i _ g1
    cases e
theorem prog_ok (pfs : List PF) (gls : List Str) (Γ : GlS) (hchk : pfs.all (fun p => p.ok (pfs.map (·.name)) gls) = true) (hf : ∀ p ∈ pfs, ∃ fa fd, PFact K mg p fa fd)
    (hg : ∀ g x d, gls[g]? = some x → Γ g = some d → ∃ v u, mg x = some u ∧ RelV v u ∧ ∀ F ρ, Dr K F ρ v d) (hb : ∀ x ∈ biAll, mg x = none) :
    ∀ (k i : Nat) (p : PF), pfs[i]? = some p → ∀ fa fd, PFact K mg p fa fd → FnOk P w K mg base CX0 k fa fd p.ps (spF K (run (pfs.map (·.fn)) Γ k i))
  | 0, i, p, hi, fa, fd, T => by
    have no : ∀ vs H Q E, ¬ spF K (run (pfs.map (·.fn)) Γ 0 i) vs H Q E := fun vs H Q E ⟨F, ρ, μ, ds, d, μ', _, _, _, h, _⟩ => by rw [run] at h; cases h
    exact ⟨fun vs H Q E h => (no vs H Q E h).elim, fun A outer s H args us vs Q E _ _ _ _ h => (no vs H Q E h).elim⟩
  | k + 1, i, p, hi, fa, fd, T => by
    have ih := prog_ok pfs gls Γ hchk hf hg hb k
    have hp := List.all_eq_true.mp hchk p (List.mem_of_getElem? hi)
    obtain ⟨hS, hm, h8, h9⟩ := PF.scope hp
    have hfn : (pfs.map (·.fn))[i]? = some p.fn := by rw [List.getElem?_map, hi]; rfl
    refine T.fun_.ok hS (fun vs H Q E h => ?_) fun cdv A outer s H vs Q E hr h => ?_
    · obtain ⟨F, ρ, μ, ds, d, μ', _, _, h3, h4, _⟩ := h
      rw [run, hfn] at h4
      dsimp only [Option.bind_some] at h4
      split at h4
      · rename_i hl
        rw [ps_len hp, h3.length, hl]
      · cases h4
    · obtain ⟨F, ρ, μ, ds, d, μ', fh, c, r, h4, q⟩ := h
      rw [run, hfn] at h4
      dsimp only [Option.bind_some] at h4
      split at h4
      case isFalse => cases h4
      rename_i hl
      obtain ⟨fl, h5, h6⟩ := Option.bind_eq_some_iff.mp h4
      have G : CG ⟨p.N, pfs.map (·.name), gls⟩ (run (pfs.map (·.fn)) Γ k) Γ k (cxOf CX0 P w K mg base p.N p.name (defScope p.st) fa cdv A outer s H E).nox (defScope p.st) :=
        { hN := rfl, nd := hS.nd, calm := rfl, room := hr, loc := fun _ h => h, cel := fun _ h => h, fre := fun _ h => .inr h, glo := fun _ h => h, kind := hS.kind, cfn := fun _ _ => rfl
          fns := fun f x hx => by
            rw [List.getElem?_map] at hx
            obtain ⟨pf, h1, h2⟩ := Option.map_eq_some_iff.mp hx
            obtain ⟨fa', fd', T'⟩ := hf pf (List.mem_of_getElem? h1)
            exact ⟨fa', fd', pf.ps, by rw [← h2]; exact T'.mgf, T'.fun_.kp, ih f pf h1 fa' fd' T', T'.bnd⟩
          gls := hg
          bis := hb }
      refine ⟨_, (pssS G PassesOwn.never p.fn.body _ hm).nox, F, H, ρ, F, ρ, _, μ, fl, start_env hp fh c r hl, .refl, h5, ?_⟩
      cases fl with
      | nx e m =>
        cases h6
        exact fun σ' F' H' ρ' S' E' _ => q _ F' H' ρ' E' S'.fh S'.cells .non
      | rt d' m =>
        cases h6
        exact fun v F' H' ρ' E' s' c' r' => q v F' H' ρ' E' s' c' r'
      | bk e m => cases h6
      | ct e m => cases h6
end
end Py
end
section
set_option Elab.async false
set_option linter.all false
set_option maxRecDepth 100000
set_option maxHeartbeats 4000000
namespace Py
open PySem L2 RZ
/-! ### from the head's facts -/
def dOf (p : PF) : He.DefD := ⟨(p.name, none), p.name, p.name, defArgs p.st, defBody p.st, defScope p.st, [], []⟩
def faOf (pfs : List PF) : List He.Fa := pfs.map (fun p => .glo p.name) ++ biAll.map .free
def BindOk (p : PF) : Prop := ∀ (kV doc pm : Value) (an : Option Addr) (cdv ct : Value) (us : List Value), us.length = p.ps.length →
  bindArgs (PySem.W.fnOf p.name p.name (defArgs p.st) (defBody p.st) (defScope p.st) .none kV doc pm an cdv ct) ⟨us, []⟩ = pure (p.ps.zip us)
section
variable {K : PySem.W.Frag} {h : Heap} {mg : Str → Option Value}
theorem facts_of {pfs : List PF} (c : He.SaysD (faOf pfs) (pfs.map dOf) K) (X : K.In h) (G : h.Ns mainGlobals mg) (hb : ∀ p ∈ pfs, BindOk p) :
    (∀ (i : Nat) (p : PF), pfs[i]? = some p → ∃ fd, PFact K mg p (He.ga K p.name) fd) ∧ ∀ x ∈ biAll, mg x = none := by
  constructor
  · intro i p hi
    have h1 : (pfs.map dOf)[i]? = some (dOf p) := by rw [List.getElem?_map, hi]; rfl
    obtain ⟨fd, F⟩ := c.def_ i h1
    have hlt : i < pfs.length := (List.getElem?_eq_some_iff.mp hi).1
    have h2 : (faOf pfs)[i]? = some (.glo p.name) := by
      unfold faOf
      rw [List.getElem?_append_left (by simpa using hlt), List.getElem?_map, hi]
      rfl
    exact ⟨fd, He.glo_ok X G (c.fact i h2), F, FunD.bindsN F (hb p (List.mem_of_getElem? hi))⟩
  · intro x hx
    obtain ⟨j, hj, e⟩ := List.getElem_of_mem hx
    have h2 : (faOf pfs)[pfs.length + j]? = some (.free x) := by
      unfold faOf
      rw [List.getElem?_append_right (by simp), List.length_map, Nat.add_sub_cancel_left, List.getElem?_map, List.getElem?_eq_getElem hj, e]
      rfl
    exact He.free_ok X G (c.fact _ h2)
end
/-- the law's own promise, from the run upon data -/
theorem law_sp {K : PySem.W.Frag} {φ : List D → Store → Option (D × Store)} (hφ : ∀ ns : List Int, ns.length ≤ 63 → ∃ μ', φ [.scr (ns.map D.int)] [] = some (.bl true, μ')) (H : Hp) (a : Addr) (ns : List Int) (hl : ns.length ≤ 63) (hS : SqL K H a (ns.map V.int)) :
    spF K φ [.ref a] H (fun v _ => v = .bl true) (fun _ _ _ => False) := by
  obtain ⟨μ', e⟩ := hφ ns hl
  refine ⟨H, [], [], [.scr (ns.map D.int)], .bl true, μ', Same.refl _, ⟨rfl, fun i j a h => by simp at h, fun i a ds h => by simp at h⟩, .cons (.scr hS (DrL.ints ns)) .nil, e, fun v F' H' ρ' _ _ _ r => ?_⟩
  cases r
  rfl
/-- all of the text, from the head's facts to the law's promise -/
theorem law_ok {P : Program} {w : World} {K : PySem.W.Frag} {h : Heap} {mg : Str → Option Value} {fa : Addr} (pfs : List PF) (gls : List Str) (Γ : GlS) (k i : Nat) (p : PF) (hi : pfs[i]? = some p) (hps : p.ps = [("script" : Str)])
    (hchk : pfs.all (fun p => p.ok (pfs.map (·.name)) gls) = true) (hb : ∀ p ∈ pfs, BindOk p) (hg : ∀ g x d, gls[g]? = some x → Γ g = some d → ∃ v u, mg x = some u ∧ RelV v u ∧ ∀ F ρ, Dr K F ρ v d)
    (X : K.In h) (G : h.Ns mainGlobals mg) (hfa : mg p.name = some (.ref fa)) (c : He.SaysD (faOf pfs) (pfs.map dOf) K) :
    ∃ fd : FuncData, (∀ (s : Shared) (v : Value), BindsTo s fd ⟨[v], []⟩ [("script", v)]) ∧ ∀ base : Heap, K.In base → base.Ns mainGlobals mg → FnOk P w K mg base CX0 k fa fd [("script" : Str)] (spF K (run (pfs.map (·.fn)) Γ k i)) := by
  obtain ⟨f1, f2⟩ := facts_of c X G hb
  obtain ⟨fd, T⟩ := f1 i p hi
  have e := hfa.symm.trans T.mgf
  cases e
  refine ⟨fd, fun s v => ?_, fun base _ _ => ?_⟩
  · have := FunD.bindsA T.fun_ (hb p (List.mem_of_getElem? hi)) s [v] (by rw [hps]; rfl)
    rw [hps] at this
    exact this
  · have := prog_ok (P := P) (w := w) (base := base) pfs gls Γ hchk (fun q hq => by
      obtain ⟨j, hj, e⟩ := List.getElem_of_mem hq
      obtain ⟨fd', T'⟩ := f1 j q (by rw [List.getElem?_eq_getElem hj, e])
      exact ⟨_, fd', T'⟩) hg f2 k i p hi _ fd T
    rw [hps] at this
    exact this
end Py
end
section
set_option Elab.async false
set_option linter.all false
namespace Py
open PySem L2
/-! ### reckoning upon data -/
def fin (r : Option Fl) : Option (D × Store) := r.bind fun
  | .rt d μ' => some (d, μ')
  | .nx _ μ' => some (.non, μ')
  | _ => none
@[simp] theorem fin_rt (d : D) (μ : Store) : fin (some (.rt d μ)) = some (d, μ) := rfl
@[simp] theorem fin_nx (e : Env) (μ : Store) : fin (some (.nx e μ)) = some (.non, μ) := rfl
theorem run_fin {fs : List Fn} {Γ : GlS} {k f : Nat} {fn : Fn} (h : fs[f]? = some fn) {ds : List D} {μ : Store} (hl : ds.length = fn.ar) :
    run fs Γ (k + 1) f ds μ = fin (exs (run fs Γ k) Γ fn.body (ds.map (fun d => some (.val d)) ++ List.replicate (fn.sl - fn.ar) none) μ) := by
  rw [run, h]
  dsimp only [Option.bind_some]
  rw [if_pos hl]
  rfl
section
variable {Φ : FnS} {Γ : GlS} {env : Env} {μ : Store}
/-- one statement, then the others -/
theorem exs_nx {s : S} {r : List S} {env' : Env} {μ' : Store} (h : ex Φ Γ s env μ = some (.nx env' μ')) : exs Φ Γ (s :: r) env μ = exs Φ Γ r env' μ' := by
  rw [exs, h]; rfl
theorem exs_rt {s : S} {r : List S} {d : D} {μ' : Store} (h : ex Φ Γ s env μ = some (.rt d μ')) : exs Φ Γ (s :: r) env μ = some (.rt d μ') := by
  rw [exs, h]; rfl
theorem exs_one {s : S} : exs Φ Γ [s] env μ = ex Φ Γ s env μ := by
  rw [exs]
  cases ex Φ Γ s env μ with
  | none => rfl
  | some f => cases f <;> simp [exs]
/-- a while, one turn -/
theorem whS_eq {c : Env → Store → Option (Bool × Store)} {b : Env → Store → Option Fl} : whS c b env μ = (c env μ).bind fun p => if p.1 then (b env p.2).bind fun
    | .nx env' μ' => whS c b env' μ'
    | .ct env' μ' => whS c b env' μ'
    | .bk env' μ' => some (.nx env' μ')
    | .rt d μ' => some (.rt d μ')
  else some (.nx env p.2) := by
  apply Option.ext
  intro r
  rw [whS_some]
  constructor
  · rintro ⟨n, h⟩
    cases n with
    | zero => rw [whN] at h; cases h
    | succ n =>
      rw [whN] at h
      obtain ⟨⟨k, μ1⟩, h1, h2⟩ := Option.bind_eq_some_iff.mp h
      rw [h1]
      dsimp only [Option.bind_some] at h2 ⊢
      cases k with
      | false => exact h2
      | true =>
        rw [if_pos rfl] at h2 ⊢
        obtain ⟨fl, h3, h4⟩ := Option.bind_eq_some_iff.mp h2
        rw [h3]
        cases fl with
        | nx e m => exact whS_some.mpr ⟨n, h4⟩
        | ct e m => exact whS_some.mpr ⟨n, h4⟩
        | bk e m => exact h4
        | rt d m => exact h4
  · intro h
    obtain ⟨⟨k, μ1⟩, h1, h2⟩ := Option.bind_eq_some_iff.mp h
    dsimp only at h2
    cases k with
    | false =>
      rw [if_neg Bool.false_ne_true] at h2
      exact ⟨1, by rw [whN, h1]; exact h2⟩
    | true =>
      rw [if_pos rfl] at h2
      obtain ⟨fl, h3, h4⟩ := Option.bind_eq_some_iff.mp h2
      cases fl with
      | nx e m =>
        obtain ⟨n, hn⟩ := whS_some.mp h4
        refine ⟨n + 1, ?_⟩
        rw [whN, h1]
        dsimp only [Option.bind_some]
        rw [if_pos rfl, h3]
        exact hn
      | ct e m =>
        obtain ⟨n, hn⟩ := whS_some.mp h4
        refine ⟨n + 1, ?_⟩
        rw [whN, h1]
        dsimp only [Option.bind_some]
        rw [if_pos rfl, h3]
        exact hn
      | bk e m =>
        refine ⟨1, ?_⟩
        rw [whN, h1]
        dsimp only [Option.bind_some]
        rw [if_pos rfl, h3]
        exact h4
      | rt d m =>
        refine ⟨1, ?_⟩
        rw [whN, h1]
        dsimp only [Option.bind_some]
        rw [if_pos rfl, h3]
        exact h4
end
section
variable {c : Env → Store → Option (Bool × Store)} {b : Env → Store → Option Fl} {env env' : Env} {μ μ' μ1 : Store} {t : T} {d : D} {ds : List D}
theorem whS_go (hc : c env μ = some (true, μ1)) (hb : b env μ1 = some (.nx env' μ')) : whS c b env μ = whS c b env' μ' := by
  rw [whS_eq, hc]
  simp only [Option.bind_some, if_true, hb]
theorem whS_end (hc : c env μ = some (false, μ1)) : whS c b env μ = some (.nx env μ1) := by
  rw [whS_eq, hc]
  simp
theorem whS_rt (hc : c env μ = some (true, μ1)) (hb : b env μ1 = some (.rt d μ')) : whS c b env μ = some (.rt d μ') := by
  rw [whS_eq, hc]
  simp only [Option.bind_some, if_true, hb]
theorem whS_bk (hc : c env μ = some (true, μ1)) (hb : b env μ1 = some (.bk env' μ')) : whS c b env μ = some (.nx env' μ') := by
  rw [whS_eq, hc]
  simp only [Option.bind_some, if_true, hb]
theorem forS_nil : forS t b [] env μ = some (.nx env μ) := rfl
theorem forS_go {env1 : Env} (ha : asgT t d env = some env1) (hb : b env1 μ = some (.nx env' μ')) : forS t b (d :: ds) env μ = forS t b ds env' μ' := by
  rw [forS, ha]; simp only [Option.bind_some, hb]
theorem forS_rt {env1 : Env} {d' : D} (ha : asgT t d env = some env1) (hb : b env1 μ = some (.rt d' μ')) : forS t b (d :: ds) env μ = some (.rt d' μ') := by
  rw [forS, ha]; simp only [Option.bind_some, hb]
theorem forS_bk {env1 : Env} (ha : asgT t d env = some env1) (hb : b env1 μ = some (.bk env' μ')) : forS t b (d :: ds) env μ = some (.nx env' μ') := by
  rw [forS, ha]; simp only [Option.bind_some, hb]
/-- a for by what holds between two turns -/
theorem forS_inv (P : Nat → Env → Store → Prop) (h0 : P 0 env μ) (hs : ∀ i env μ d, ds[i]? = some d → P i env μ → ∃ env1 env' μ', asgT t d env = some env1 ∧ (b env1 μ = some (.nx env' μ') ∨ b env1 μ = some (.ct env' μ')) ∧ P (i + 1) env' μ') :
    ∃ env' μ', forS t b ds env μ = some (.nx env' μ') ∧ P ds.length env' μ' := by
  induction ds generalizing P env μ with
  | nil => exact ⟨env, μ, rfl, h0⟩
  | cons x xs ih =>
    obtain ⟨env1, env', μ', ha, hb, hp⟩ := hs 0 env μ x rfl h0
    obtain ⟨env2, μ2, h1, h2⟩ := ih (fun i => P (i + 1)) hp fun i e m d hd hp => hs (i + 1) e m d (by simpa using hd) hp
    refine ⟨env2, μ2, ?_, by simpa using h2⟩
    rw [forS, ha]
    rcases hb with hb | hb
    · simp only [Option.bind_some, hb]; exact h1
    · simp only [Option.bind_some, hb]; exact h1
end
/-! equality of data -/
theorem eqS_int (a b : Int) : eqS (.int a) (.int b) = some (a == b) := by
  simp [eqS, toPy, SeqAt.shaped, PyData.canLay0, PyData.depth, PyData.eqv]
theorem eqS_bl (a b : Bool) : eqS (.bl a) (.bl b) = some (a == b) := by
  simp [eqS, toPy, SeqAt.shaped, PyData.canLay0, PyData.depth, PyData.eqv]
theorem eqS_str (a b : Str) (ha : PyData.strOk a = true) (hb : PyData.strOk b = true) : eqS (.str a) (.str b) = some (a == b) := by
  simp [eqS, toPy, SeqAt.shaped, PyData.canLay0, PyData.depth, PyData.eqv, ha, hb]
theorem atI_nil {i : Int} : atI ([] : List D) i = none := by
  unfold atI
  cases ixN ([] : List D).length i <;> rfl
theorem atI_of {ds : List D} {j : Nat} (h : j < ds.length) : atI ds (j : Int) = some ds[j] := atI_nat (List.getElem?_eq_getElem h)
/-! ratios -/
def rD (r : Rat) : D := .tup [.int r.num, .int r.den]
/-- a size -/
def Sz (n : Nat) (r : Rat) : Prop := r.num.natAbs < 2 ^ n ∧ r.den < 2 ^ n
theorem log2_lt {n m : Nat} (h : n < 2 ^ m) (hm : 0 < m) : n.log2 < m := by
  by_cases q : n = 0
  · subst q; simpa using hm
  · exact (Nat.log2_lt q).mpr h
theorem mulOk_of {i j : Int} {a b : Nat} (hi : i.natAbs < 2 ^ a) (hj : j.natAbs < 2 ^ b) (h : a + b ≤ 900000 := by decide) : mulOk i j = true := by
  unfold mulOk
  have h1 : i.natAbs.log2 ≤ a := by
    by_cases q : i.natAbs = 0
    · rw [q]; simp
    · exact Nat.le_of_lt ((Nat.log2_lt q).mpr hi)
  have h2 : j.natAbs.log2 ≤ b := by
    by_cases q : j.natAbs = 0
    · rw [q]; simp
    · exact Nat.le_of_lt ((Nat.log2_lt q).mpr hj)
  exact decide_eq_true (by omega)
theorem divOk_of {j : Int} {b : Nat} (h0 : 0 < j) (hj : j.natAbs < 2 ^ b) (h : b ≤ 8999 := by decide) : divOk j = true := by
  unfold divOk
  rw [Bool.and_eq_true]
  refine ⟨decide_eq_true h0, decide_eq_true ?_⟩
  have q : j.natAbs ≠ 0 := by omega
  exact Nat.lt_of_lt_of_le ((Nat.log2_lt q).mpr hj) (by omega)
end Py
end
section
set_option Elab.async false
set_option linter.all false
namespace Py
open PySem L2
/-! ### ratios as data -/
theorem Sz.mono {n m : Nat} {r : Rat} (h : Sz n r) (hm : n ≤ m := by decide) : Sz m r :=
  ⟨Nat.lt_of_lt_of_le h.1 (Nat.pow_le_pow_right (by decide) hm), Nat.lt_of_lt_of_le h.2 (Nat.pow_le_pow_right (by decide) hm)⟩
theorem Sz.neg {n : Nat} {r : Rat} (h : Sz n r) : Sz n (-r) := ⟨by rw [Rat.neg_num, Int.natAbs_neg]; exact h.1, h.2⟩
theorem Sz.int {n : Nat} {i : Int} (h : i.natAbs < 2 ^ n) (hn : 0 < n := by decide) : Sz n (i : Rat) := ⟨h, Nat.one_lt_two_pow (by omega)⟩
theorem rD_divInt {p q : Int} (hq : 0 < q) : rD (Rat.divInt p q) = .tup [.int (p / (Int.gcd p q : Int)), .int (q / (Int.gcd p q : Int))] := by
  unfold rD
  rw [Rat.num_divInt, Rat.den_divInt, Int.sign_eq_one_of_pos hq, Int.one_mul, if_neg (by omega), Int.gcd_comm q p]
  congr 3
  rw [Int.natCast_ediv, Int.natAbs_of_nonneg (Int.le_of_lt hq)]
theorem Sz.divInt {p q : Int} {n : Nat} (hp : p.natAbs < 2 ^ n) (hq : q.natAbs < 2 ^ n) (h0 : q ≠ 0) : Sz n (Rat.divInt p q) := by
  constructor
  · rw [Rat.num_divInt]
    refine Nat.lt_of_le_of_lt (Int.natAbs_ediv_le_natAbs _ _) ?_
    rw [Int.natAbs_mul]
    have : q.sign.natAbs = 1 := Int.natAbs_sign_of_ne_zero h0
    rw [this, Nat.one_mul]
    exact hp
  · rw [Rat.den_divInt, if_neg h0]
    exact Nat.lt_of_le_of_lt (Nat.div_le_self _ _) hq
theorem abs_mul_lt {a b : Int} {n m : Nat} (ha : a.natAbs < 2 ^ n) (hb : b.natAbs < 2 ^ m) : (a * b).natAbs < 2 ^ (n + m) := by
  rw [Int.natAbs_mul, Nat.pow_add]
  exact Nat.mul_lt_mul'' ha hb
theorem abs_add_lt {a b : Int} {n : Nat} (ha : a.natAbs < 2 ^ n) (hb : b.natAbs < 2 ^ n) : (a + b).natAbs < 2 ^ (n + 1) := by
  rw [Nat.pow_succ]
  have := Int.natAbs_add_le a b
  omega
theorem Sz.den {n : Nat} {r : Rat} (h : Sz n r) : (r.den : Int).natAbs < 2 ^ n := h.2
theorem den_ne (r : Rat) : (r.den : Int) ≠ 0 := by have := r.den_nz; omega
theorem den_mul_ne (r s : Rat) : (r.den : Int) * s.den ≠ 0 := Int.mul_ne_zero (den_ne r) (den_ne s)
theorem mul_divInt (s t : Rat) : Rat.divInt (s.num * t.num) (s.den * t.den) = s * t := by
  rw [Rat.mul_def', ← Int.natCast_mul, Rat.divInt_ofNat]
theorem add_divInt (s t : Rat) : Rat.divInt (s.num * t.den + t.num * s.den) (s.den * t.den) = s + t := by
  rw [Rat.add_def', ← Int.natCast_mul, Rat.divInt_ofNat]
theorem div_divInt (s t : Rat) : Rat.divInt (s.num * t.den) (s.den * t.num) = s / t := by
  rw [Rat.div_def, Rat.inv_def, ← Rat.divInt_mul_divInt, Rat.num_divInt_den]
theorem Sz.mul {n m : Nat} {r s : Rat} (h : Sz n r) (h' : Sz m s) : Sz (n + m) (r * s) := by
  rw [← mul_divInt]
  exact Sz.divInt (abs_mul_lt h.1 h'.1) (abs_mul_lt h.den h'.den) (den_mul_ne r s)
theorem Sz.add {n m : Nat} {r s : Rat} (h : Sz n r) (h' : Sz m s) : Sz (n + m + 1) (r + s) := by
  rw [← add_divInt]
  refine Sz.divInt (abs_add_lt (abs_mul_lt h.1 h'.den) ?_) ?_ (den_mul_ne r s)
  · rw [Nat.add_comm n m]; exact abs_mul_lt h'.1 h.den
  · exact Nat.lt_of_lt_of_le (abs_mul_lt h.den h'.den) (Nat.pow_le_pow_right (by decide) (by omega))
theorem num_ne {t : Rat} (h : t ≠ 0) : t.num ≠ 0 := fun z => h (Rat.num_eq_zero.mp z)
theorem Sz.div {n m : Nat} {r s : Rat} (h : Sz n r) (h' : Sz m s) (h0 : s ≠ 0) : Sz (n + m) (r / s) := by
  rw [← div_divInt]
  exact Sz.divInt (abs_mul_lt h.1 h'.den) (abs_mul_lt h.den h'.1) (Int.mul_ne_zero (den_ne r) (num_ne h0))
theorem Sz.sub {n m : Nat} {r s : Rat} (h : Sz n r) (h' : Sz m s) : Sz (n + m + 1) (r - s) := by
  rw [Rat.sub_eq_add_neg]; exact h.add h'.neg
theorem rD_inj {r s : Rat} (h : rD r = rD s) : r = s := by
  unfold rD at h
  injection h with h
  injection h with h1 h2
  injection h1 with h1
  injection h2 with h2 _
  injection h2 with h2
  exact Rat.ext h1 (by exact_mod_cast h2)
theorem gcd_fmod (p q : Int) (h : 0 < q) : Int.gcd q (p.fmod q) = Int.gcd p q := by
  rw [Int.fmod_eq_emod_of_nonneg p (Int.le_of_lt h), Int.gcd_comm]
  have := Int.gcd_add_mul_right_left q (p % q) (p / q)
  rw [Int.emod_add_ediv_mul] at this
  exact this.symm
theorem gcd_lt {p q : Int} {n : Nat} (h0 : q ≠ 0) (hq : q.natAbs < 2 ^ n) : ((Int.gcd p q : Nat) : Int).natAbs < 2 ^ n := by
  rw [Int.natAbs_natCast]
  refine Nat.lt_of_le_of_lt (Nat.le_of_dvd (by omega) ?_) hq
  exact Nat.gcd_dvd_right _ _
theorem gcd_pos' {p q : Int} (h0 : q ≠ 0) : 0 < ((Int.gcd p q : Nat) : Int) := by
  have : 0 < Int.gcd p q := Int.gcd_pos_of_ne_zero_right _ h0
  omega
/-- the test and the body of a while that reckons the greatest common divisor -/
theorem gcd_loop {c : Env → Store → Option (Bool × Store)} {b : Env → Store → Option Fl} {μ : Store} (hc : ∀ p q : Int, c [some (.val (.int p)), some (.val (.int q))] μ = some (decide (q ≠ 0), μ))
    (hb : ∀ p q : Int, q ≠ 0 → b [some (.val (.int p)), some (.val (.int q))] μ = some (.nx [some (.val (.int q)), some (.val (.int (p.fmod q)))] μ)) :
    ∀ (n : Nat) (p q : Int), 0 ≤ q → q.toNat ≤ n → ∃ r, whS c b [some (.val (.int p)), some (.val (.int q))] μ = some (.nx [some (.val (.int r)), some (.val (.int 0))] μ) ∧ r.natAbs = Int.gcd p q
  | n, p, q, h0, hn => by
    by_cases hq : q = 0
    · subst hq
      exact ⟨p, whS_end (by simpa using hc p 0), by simp⟩
    · have hpos : 0 < q := by omega
      match n, hn with
      | 0, hn => omega
      | n + 1, hn =>
        have hlt := Int.emod_lt_of_pos p hpos
        have hge := Int.emod_nonneg p hq
        have e := Int.fmod_eq_emod_of_nonneg p h0
        obtain ⟨r, h1, h2⟩ := gcd_loop hc hb n q (p.fmod q) (by rw [e]; exact hge) (by rw [e]; omega)
        refine ⟨r, ?_, by rw [h2, gcd_fmod p q hpos]⟩
        rw [whS_go (by simpa [hq] using hc p q) (hb p q hq)]
        exact h1
end Py
end
section
set_option Elab.async false
set_option linter.all false
namespace Py
open PySem L2
/-! ### the semantics as rows for simp: each fires on constructors alone -/
section
variable {Φ : FnS} {Γ : GlS} {env : Env} {μ : Store}
@[simp] theorem ev_slot {i : Nat} : ev Φ Γ (.slot i) env μ = (getV env i).map fun d => (d, μ) := by rw [ev]
@[simp] theorem ev_glob {i : Nat} : ev Φ Γ (.glob i) env μ = (Γ i).map fun d => (d, μ) := by rw [ev]
@[simp] theorem ev_int {i : Int} : ev Φ Γ (.int i) env μ = some (.int i, μ) := by rw [ev]
@[simp] theorem ev_bl {i : Bool} : ev Φ Γ (.bl i) env μ = some (.bl i, μ) := by rw [ev]
@[simp] theorem ev_non : ev Φ Γ .non env μ = some (.non, μ) := by rw [ev]
@[simp] theorem ev_str {i : Str} : ev Φ Γ (.str i) env μ = some (.str i, μ) := by rw [ev]
@[simp] theorem ev_bin {op : Operator} {a b : E} : ev Φ Γ (.bin op a b) env μ = (ev Φ Γ a env μ).bind fun p => (ev Φ Γ b env p.2).bind fun q => (binS op p.1 q.1).map fun d => (d, q.2) := by rw [ev]
@[simp] theorem ev_neg {a : E} : ev Φ Γ (.neg a) env μ = (ev Φ Γ a env μ).bind fun p => (asInt p.1).map fun i => (.int (-i), p.2) := by rw [ev]
@[simp] theorem ev_not {a : E} : ev Φ Γ (.not a) env μ = (ev Φ Γ a env μ).bind fun p => (truS p.1).map fun b => (.bl (!b), p.2) := by rw [ev]
@[simp] theorem ev_cmp {op : CmpOp} {a b : E} : ev Φ Γ (.cmp op a b) env μ = (ev Φ Γ a env μ).bind fun p => (ev Φ Γ b env p.2).bind fun q => (cmpS op p.1 q.1).map fun d => (.bl d, q.2) := by rw [ev]
@[simp] theorem ev_isN {a : E} : ev Φ Γ (.isN a) env μ = (ev Φ Γ a env μ).map fun p => (.bl (isNon p.1), p.2) := by rw [ev]
@[simp] theorem ev_notN {a : E} : ev Φ Γ (.notN a) env μ = (ev Φ Γ a env μ).map fun p => (.bl (!isNon p.1), p.2) := by rw [ev]
@[simp] theorem ev_and {a : E} {r : Es} : ev Φ Γ (.and a r) env μ = (ev Φ Γ a env μ).bind fun p => evAnd Φ Γ p.1 r env p.2 := by rw [ev]
@[simp] theorem ev_or {a : E} {r : Es} : ev Φ Γ (.or a r) env μ = (ev Φ Γ a env μ).bind fun p => evOr Φ Γ p.1 r env p.2 := by rw [ev]
@[simp] theorem evAnd_nil {d : D} : evAnd Φ Γ d .nil env μ = some (d, μ) := by cases d <;> rw [evAnd]
@[simp] theorem evAnd_t {e : E} {r : Es} : evAnd Φ Γ (.bl true) (.cons e r) env μ = (ev Φ Γ e env μ).bind fun p => evAnd Φ Γ p.1 r env p.2 := by rw [evAnd]
@[simp] theorem evAnd_f {e : E} {r : Es} : evAnd Φ Γ (.bl false) (.cons e r) env μ = some (.bl false, μ) := by rw [evAnd]
@[simp] theorem evOr_nil {d : D} : evOr Φ Γ d .nil env μ = some (d, μ) := by cases d <;> rw [evOr]
@[simp] theorem evOr_f {e : E} {r : Es} : evOr Φ Γ (.bl false) (.cons e r) env μ = (ev Φ Γ e env μ).bind fun p => evOr Φ Γ p.1 r env p.2 := by rw [evOr]
@[simp] theorem evOr_t {e : E} {r : Es} : evOr Φ Γ (.bl true) (.cons e r) env μ = some (.bl true, μ) := by rw [evOr]
theorem evAnd_b {b : Bool} {e : E} {r : Es} : evAnd Φ Γ (.bl b) (.cons e r) env μ = if b then (ev Φ Γ e env μ).bind fun p => evAnd Φ Γ p.1 r env p.2 else some (.bl false, μ) := by cases b <;> simp
theorem evOr_b {b : Bool} {e : E} {r : Es} : evOr Φ Γ (.bl b) (.cons e r) env μ = if b then some (.bl true, μ) else (ev Φ Γ e env μ).bind fun p => evOr Φ Γ p.1 r env p.2 := by cases b <;> simp
@[simp] theorem ev_ite {a b c : E} : ev Φ Γ (.ite c a b) env μ = (evT Φ Γ c env μ).bind fun p => if p.1 then ev Φ Γ a env p.2 else ev Φ Γ b env p.2 := by rw [ev]
@[simp] theorem ev_tup {es : Es} : ev Φ Γ (.tup es) env μ = (evs Φ Γ es env μ).bind fun p => if p.1.length ≤ SZ then some (.tup p.1, p.2) else none := by rw [ev]
@[simp] theorem ev_lst {es : Es} : ev Φ Γ (.lst es) env μ = (evs Φ Γ es env μ).bind fun p => if p.1.length ≤ SZ then some (.lst p.1, p.2) else none := by rw [ev]
@[simp] theorem ev_mlst {es : Es} : ev Φ Γ (.mlst es) env μ = (evs Φ Γ es env μ).bind fun p => if p.1.length ≤ SZ then some (.mr p.2.length, p.2 ++ [p.1]) else none := by rw [ev]
@[simp] theorem ev_ix {a b : E} : ev Φ Γ (.ix a b) env μ = (ev Φ Γ a env μ).bind fun p => (ev Φ Γ b env p.2).bind fun q => (ixS q.2 p.1 q.1).map fun d => (d, q.2) := by rw [ev]
@[simp] theorem ev_slc {a : E} {lo hi : Eo} : ev Φ Γ (.slc a lo hi) env μ = (ev Φ Γ a env μ).bind fun p => (evo Φ Γ lo env p.2).bind fun q => (evo Φ Γ hi env q.2).bind fun r => (slcS p.1 q.1 r.1).map fun d => (d, r.2) := by rw [ev]
@[simp] theorem ev_call {f : Nat} {e : E} {es : Es} : ev Φ Γ (.call f e es) env μ = (ev Φ Γ e env μ).bind fun p => (evs Φ Γ es env p.2).bind fun q => Φ f (p.1 :: q.1) q.2 := by rw [ev]
@[simp] theorem ev_bi {b : Bi} {e : E} {es : Es} : ev Φ Γ (.bi b e es) env μ = (ev Φ Γ e env μ).bind fun p => (evs Φ Γ es env p.2).bind fun q => (biS q.2 b (p.1 :: q.1)).map fun d => (d, q.2) := by rw [ev]
@[simp] theorem ev_isi {e : E} {t : Ty} : ev Φ Γ (.isi e t) env μ = (ev Φ Γ e env μ).bind fun p => (isiS p.1 t).map fun b => (.bl b, p.2) := by rw [ev]
theorem ev_lc {e : E} {t : T} {it : I} {c : Eo} {vs : List Nat} : ev Φ Γ (.lc e t it c vs) env μ = (evI Φ Γ it env μ).bind fun p => if p.1.length ≤ SZ then (lcS t (fun env' μ' => evc Φ Γ c env' μ') (fun env' μ' => ev Φ Γ e env' μ') (wipeE env vs) p.1 p.2).map fun q => (.lst q.1, q.2) else none := by rw [ev]
theorem ev_bor {i : Nat} {e : E} : ev Φ Γ (.bor i e) env μ = (getO env i).bind fun ds => (ev Φ Γ e (env.set i (some (.val (.lst ds)))) μ).bind fun p => if flat p.1 && scalS p.2 then some p else none := by rw [ev]
@[simp] theorem evs_nil : evs Φ Γ .nil env μ = some ([], μ) := by rw [evs]
@[simp] theorem evs_cons {e : E} {r : Es} : evs Φ Γ (.cons e r) env μ = (ev Φ Γ e env μ).bind fun p => (evs Φ Γ r env p.2).map fun q => (p.1 :: q.1, q.2) := by rw [evs]
@[simp] theorem evo_none : evo Φ Γ .none env μ = some (none, μ) := by rw [evo]
@[simp] theorem evo_some {e : E} : evo Φ Γ (.some e) env μ = (ev Φ Γ e env μ).bind fun p => (asInt p.1).map fun i => (some i, p.2) := by rw [evo]
@[simp] theorem evc_none : evc Φ Γ .none env μ = some (true, μ) := by rw [evc]
@[simp] theorem evc_some {e : E} : evc Φ Γ (.some e) env μ = evT Φ Γ e env μ := by rw [evc]
@[simp] theorem evT_not {a : E} : evT Φ Γ (.not a) env μ = (evT Φ Γ a env μ).map fun p => (!p.1, p.2) := by rw [evT]
@[simp] theorem evT_and {a : E} {r : Es} : evT Φ Γ (.and a r) env μ = (evT Φ Γ a env μ).bind fun p => if p.1 then evTAnd Φ Γ r env p.2 else some (false, p.2) := by rw [evT]
@[simp] theorem evT_or {a : E} {r : Es} : evT Φ Γ (.or a r) env μ = (evT Φ Γ a env μ).bind fun p => if p.1 then some (true, p.2) else evTOr Φ Γ r env p.2 := by rw [evT]
@[simp] theorem evTAnd_nil : evTAnd Φ Γ .nil env μ = some (true, μ) := by rw [evTAnd]
@[simp] theorem evTAnd_cons {e : E} {r : Es} : evTAnd Φ Γ (.cons e r) env μ = (evT Φ Γ e env μ).bind fun p => if p.1 then evTAnd Φ Γ r env p.2 else some (false, p.2) := by rw [evTAnd]
@[simp] theorem evTOr_nil : evTOr Φ Γ .nil env μ = some (false, μ) := by rw [evTOr]
@[simp] theorem evTOr_cons {e : E} {r : Es} : evTOr Φ Γ (.cons e r) env μ = (evT Φ Γ e env μ).bind fun p => if p.1 then some (true, p.2) else evTOr Φ Γ r env p.2 := by rw [evTOr]
@[simp] theorem evT_cmp {op : CmpOp} {a b : E} : evT Φ Γ (.cmp op a b) env μ = (ev Φ Γ a env μ).bind fun p => (ev Φ Γ b env p.2).bind fun q => (cmpS op p.1 q.1).map fun d => (d, q.2) := by rw [evT]
@[simp] theorem evT_isN {a : E} : evT Φ Γ (.isN a) env μ = (ev Φ Γ a env μ).map fun p => (isNon p.1, p.2) := by rw [evT]
@[simp] theorem evT_notN {a : E} : evT Φ Γ (.notN a) env μ = (ev Φ Γ a env μ).map fun p => (!isNon p.1, p.2) := by rw [evT]
@[simp] theorem evT_slot {i : Nat} : evT Φ Γ (.slot i) env μ = (getV env i).bind fun d => (truS d).map fun k => (k, μ) := by rw [evT]
@[simp] theorem evT_call {f : Nat} {e : E} {es : Es} : evT Φ Γ (.call f e es) env μ = (ev Φ Γ e env μ).bind fun p => (evs Φ Γ es env p.2).bind fun q => (Φ f (p.1 :: q.1) q.2).bind fun r => (truS r.1).map fun k => (k, r.2) := by rw [evT]
@[simp] theorem evT_ix {a b : E} : evT Φ Γ (.ix a b) env μ = (ev Φ Γ a env μ).bind fun p => (ev Φ Γ b env p.2).bind fun q => (ixS q.2 p.1 q.1).bind fun d => (truS d).map fun k => (k, q.2) := by rw [evT]
@[simp] theorem evT_isi {e : E} {t : Ty} : evT Φ Γ (.isi e t) env μ = (ev Φ Γ e env μ).bind fun p => (isiS p.1 t).map fun b => (b, p.2) := by rw [evT]
@[simp] theorem evT_bi {b : Bi} {e : E} {es : Es} : evT Φ Γ (.bi b e es) env μ = (ev Φ Γ e env μ).bind fun p => (evs Φ Γ es env p.2).bind fun q => (biS q.2 b (p.1 :: q.1)).bind fun d => (truS d).map fun k => (k, q.2) := by rw [evT]
theorem evT_bor {i : Nat} {e : E} : evT Φ Γ (.bor i e) env μ = (getO env i).bind fun ds => (evT Φ Γ e (env.set i (some (.val (.lst ds)))) μ).bind fun p => if scalS p.2 then some p else none := by rw [evT]
@[simp] theorem evI_rng1 {e : E} : evI Φ Γ (.rng1 e) env μ = (ev Φ Γ e env μ).bind fun p => (asInt p.1).bind fun j => (rngS 0 j).map fun ds => (ds, p.2) := by rw [evI]
@[simp] theorem evI_rng2 {a b : E} : evI Φ Γ (.rng2 a b) env μ = (ev Φ Γ a env μ).bind fun p => (ev Φ Γ b env p.2).bind fun q => (asInt p.1).bind fun i => (asInt q.1).bind fun j => (rngS i j).map fun ds => (ds, q.2) := by rw [evI]
def seqOf : D → Option (List D)
  | .tup ds => some ds | .lst ds => some ds | .scr ds => some ds
  | _ => none
@[simp] theorem seqOf_tup {ds : List D} : seqOf (.tup ds) = some ds := rfl
@[simp] theorem seqOf_lst {ds : List D} : seqOf (.lst ds) = some ds := rfl
@[simp] theorem seqOf_scr {ds : List D} : seqOf (.scr ds) = some ds := rfl
@[simp] theorem evI_seq {e : E} : evI Φ Γ (.seq e) env μ = (ev Φ Γ e env μ).bind fun p => (seqOf p.1).map fun ds => (ds, p.2) := by
  rw [evI]
  congr 1
  funext ⟨x, m⟩
  cases x <;> rfl
def zipOf : D → D → Option (List D)
  | .tup a, .tup b => some (zipD a b) | .lst a, .lst b => some (zipD a b)
  | _, _ => none
@[simp] theorem zipOf_tup {a b : List D} : zipOf (.tup a) (.tup b) = some (zipD a b) := rfl
@[simp] theorem zipOf_lst {a b : List D} : zipOf (.lst a) (.lst b) = some (zipD a b) := rfl
@[simp] theorem zipD_nil {b : List D} : zipD [] b = [] := rfl
@[simp] theorem zipD_nil' {a : List D} : zipD a [] = [] := by unfold zipD; simp
@[simp] theorem zipD_cons {x y : D} {a b : List D} : zipD (x :: a) (y :: b) = .tup [x, y] :: zipD a b := rfl
@[simp] theorem evI_zip {a b : E} : evI Φ Γ (.zip a b) env μ = (ev Φ Γ a env μ).bind fun p => (ev Φ Γ b env p.2).bind fun q => (zipOf p.1 q.1).map fun ds => (ds, q.2) := by
  rw [evI]
  congr 1
  funext ⟨x, m⟩
  dsimp only
  congr 1
  funext ⟨y, m'⟩
  cases x <;> cases y <;> rfl
def enumOf : D → Option (List D)
  | .lst ds => some (enumD 0 ds)
  | _ => none
@[simp] theorem enumOf_lst {ds : List D} : enumOf (.lst ds) = some (enumD 0 ds) := rfl
@[simp] theorem evI_enum {a : E} : evI Φ Γ (.enum a) env μ = (ev Φ Γ a env μ).bind fun p => (enumOf p.1).map fun ds => (ds, p.2) := by
  rw [evI]
  congr 1
  funext ⟨x, m⟩
  cases x <;> rfl
/-! statements -/
@[simp] theorem exs_nil : exs Φ Γ [] env μ = some (.nx env μ) := by rw [exs]
def thenS (r : Env → Store → Option Fl) : Fl → Option Fl
  | .nx e m => r e m
  | f => some f
@[simp] theorem thenS_nx {r : Env → Store → Option Fl} : thenS r (.nx env μ) = r env μ := rfl
@[simp] theorem thenS_rt {r : Env → Store → Option Fl} {d : D} : thenS r (.rt d μ) = some (.rt d μ) := rfl
@[simp] theorem thenS_bk {r : Env → Store → Option Fl} : thenS r (.bk env μ) = some (.bk env μ) := rfl
@[simp] theorem thenS_ct {r : Env → Store → Option Fl} : thenS r (.ct env μ) = some (.ct env μ) := rfl
@[simp] theorem exs_cons {s : S} {r : List S} : exs Φ Γ (s :: r) env μ = (ex Φ Γ s env μ).bind (thenS (exs Φ Γ r)) := by
  rw [exs]
  rfl
@[simp] theorem ex_app {i : Nat} {e : E} : ex Φ Γ (.app i e) env μ = (ev Φ Γ e env μ).bind fun p => (getO env i).bind fun ds => if ds.length < SZ then some (.nx (env.set i (some (.own (ds ++ [p.1])))) p.2) else none := by rw [ex]
@[simp] theorem ex_expr {e : E} : ex Φ Γ (.expr e) env μ = (ev Φ Γ e env μ).map fun p => .nx env p.2 := by rw [ex]
@[simp] theorem ex_asg {t : T} {e : E} : ex Φ Γ (.asg t e) env μ = (ev Φ Γ e env μ).bind fun p => (asgT t p.1 env).map fun env' => .nx env' p.2 := by rw [ex]
def asLst : D → Option (List D)
  | .lst ds => some ds
  | _ => none
@[simp] theorem asLst_lst {ds : List D} : asLst (.lst ds) = some ds := rfl
@[simp] theorem ex_asgN {i : Nat} {e : E} : ex Φ Γ (.asgN i e) env μ = (ev Φ Γ e env μ).bind fun p => (asLst p.1).bind fun ds => if i < env.length then some (.nx (env.set i (some (.own ds))) p.2) else none := by
  rw [ex]
  congr 1
  funext ⟨x, m⟩
  cases x <;> rfl
@[simp] theorem ex_par {i j : Nat} {a b : E} : ex Φ Γ (.par i j a b) env μ = (ev Φ Γ a env μ).bind fun p => (ev Φ Γ b env p.2).bind fun q => (setV env i p.1).bind fun env1 => (setV env1 j q.1).map fun env2 => .nx env2 q.2 := by rw [ex]
def augS : Operator → D → D → Option D
  | .Add, .int a, .int b => some (.int (a + b)) | .Sub, .int a, .int b => some (.int (a - b))
  | _, _, _ => none
@[simp] theorem augS_add {a b : Int} : augS .Add (.int a) (.int b) = some (.int (a + b)) := rfl
@[simp] theorem augS_sub {a b : Int} : augS .Sub (.int a) (.int b) = some (.int (a - b)) := rfl
@[simp] theorem ex_aug {i : Nat} {op : Operator} {e : E} : ex Φ Γ (.aug i op e) env μ = (getV env i).bind fun x => (ev Φ Γ e env μ).bind fun p => (augS op x p.1).bind fun z => (setV env i z).map fun env' => .nx env' p.2 := by
  rw [ex]
  congr 1
  funext x
  congr 1
  funext ⟨y, m⟩
  cases op <;> cases x <;> cases y <;> rfl
def setmS (env : Env) (μ : Store) (d : D) : D → D → Option Fl
  | .mr c, .int k => (μ[c]?).bind fun ds => (ixN ds.length k).map fun j => .nx env (μ.set c (ds.set j d))
  | _, _ => none
@[simp] theorem setmS_mr {d : D} {c : Nat} {k : Int} : setmS env μ d (.mr c) (.int k) = (μ[c]?).bind fun ds => (ixN ds.length k).map fun j => .nx env (μ.set c (ds.set j d)) := rfl
@[simp] theorem ex_setm {o i e : E} : ex Φ Γ (.setm o i e) env μ = (ev Φ Γ e env μ).bind fun p => (ev Φ Γ o env p.2).bind fun q => (ev Φ Γ i env q.2).bind fun r => setmS env r.2 p.1 q.1 r.1 := by
  rw [ex]
  rfl
@[simp] theorem ex_ret {e : E} : ex Φ Γ (.ret e) env μ = (ev Φ Γ e env μ).map fun p => .rt p.1 p.2 := by rw [ex]
@[simp] theorem ex_retN : ex Φ Γ .retN env μ = some (.rt .non μ) := by rw [ex]
@[simp] theorem ex_iff {c : E} {a b : List S} : ex Φ Γ (.iff c a b) env μ = (evT Φ Γ c env μ).bind fun p => if p.1 then exs Φ Γ a env p.2 else exs Φ Γ b env p.2 := by rw [ex]
theorem ex_wh {c : E} {b : List S} : ex Φ Γ (.wh c b) env μ = whS (fun env' μ' => evT Φ Γ c env' μ') (fun env' μ' => exs Φ Γ b env' μ') env μ := by rw [ex]
theorem ex_for {t : T} {it : I} {b : List S} : ex Φ Γ (.for t it b) env μ = (evI Φ Γ it env μ).bind fun p => forS t (fun env' μ' => exs Φ Γ b env' μ') p.1 env p.2 := by rw [ex]
@[simp] theorem ex_brk : ex Φ Γ .brk env μ = some (.bk env μ) := by rw [ex]
@[simp] theorem ex_cont : ex Φ Γ .cont env μ = some (.ct env μ) := by rw [ex]
@[simp] theorem ex_pass : ex Φ Γ .pass env μ = some (.nx env μ) := by rw [ex]
@[simp] theorem ex_frz {i : Nat} {s : S} : ex Φ Γ (.frz i s) env μ = (getO env i).bind fun ds => ex Φ Γ s (env.set i (some (.val (.lst ds)))) μ := by rw [ex]
end
/-! slots -/
section
variable {d : D} {x : Option SV} {env : Env} {i : Nat} {ds : List D}
@[simp] theorem getV_0 : getV (some (.val d) :: env) 0 = some d := rfl
@[simp] theorem getV_s : getV (x :: env) (i + 1) = getV env i := by simp [getV]
@[simp] theorem getO_0 : getO (some (.own ds) :: env) 0 = some ds := rfl
@[simp] theorem getO_s : getO (x :: env) (i + 1) = getO env i := by simp [getO]
@[simp] theorem setV_0 : setV (x :: env) 0 d = some (some (.val d) :: env) := by simp [setV]
@[simp] theorem setV_s : setV (x :: env) (i + 1) d = (setV env i d).map fun e => x :: e := by
  unfold setV
  by_cases h : i < env.length
  · rw [if_pos h, if_pos (by simpa using h)]; rfl
  · rw [if_neg h, if_neg (by simpa using h)]; rfl
@[simp] theorem asgT_nm : asgT (.nm i) d env = setV env i d := by rw [asgT]
@[simp] theorem asgT_tp {ts : List T} : asgT (.tp ts) (.tup ds) env = asgTs ts ds env := by rw [asgT]
@[simp] theorem asgTs_nil : asgTs [] [] env = some env := by rw [asgTs]
@[simp] theorem asgTs_cons {t : T} {ts : List T} : asgTs (t :: ts) (d :: ds) env = (asgT t d env).bind fun e => asgTs ts ds e := by rw [asgTs]
@[simp] theorem wipeE_nil : wipeE env [] = env := rfl
@[simp] theorem wipeE_cons {vs : List Nat} : wipeE env (i :: vs) = (wipeE env vs).set i none := rfl
end
/-! operations -/
section
variable {i j : Int} {a b : List D} {d e : D} {μ : Store}
@[simp] theorem binS_add : binS .Add (.int i) (.int j) = some (.int (i + j)) := rfl
@[simp] theorem binS_sub : binS .Sub (.int i) (.int j) = some (.int (i - j)) := rfl
@[simp] theorem binS_mul : binS .Mult (.int i) (.int j) = if mulOk i j then some (.int (i * j)) else none := rfl
@[simp] theorem binS_fdiv : binS .FloorDiv (.int i) (.int j) = if divOk j then some (.int (i / j)) else none := rfl
@[simp] theorem binS_mod : binS .Mod (.int i) (.int j) = if j != 0 then some (.int (i.fmod j)) else none := rfl
@[simp] theorem binS_tup : binS .Add (.tup a) (.tup b) = if a.length + b.length ≤ SZ then some (.tup (a ++ b)) else none := rfl
@[simp] theorem binS_lst : binS .Add (.lst a) (.lst b) = if a.length + b.length ≤ SZ then some (.lst (a ++ b)) else none := rfl
@[simp] theorem asInt_int : asInt (.int i) = some i := rfl
@[simp] theorem cmpS_lt : cmpS .Lt (.int i) (.int j) = some (decide (i < j)) := rfl
@[simp] theorem cmpS_le : cmpS .LtE (.int i) (.int j) = some (decide (i ≤ j)) := rfl
@[simp] theorem cmpS_gt : cmpS .Gt (.int i) (.int j) = some (decide (j < i)) := rfl
@[simp] theorem cmpS_ge : cmpS .GtE (.int i) (.int j) = some (decide (j ≤ i)) := rfl
@[simp] theorem cmpS_eq : cmpS .Eq d e = eqS d e := by cases d <;> cases e <;> rfl
@[simp] theorem cmpS_ne : cmpS .NotEq d e = (eqS d e).map not := by cases d <;> cases e <;> rfl
@[simp] theorem eqS_int' : eqS (.int i) (.int j) = some (decide (i = j)) := by rw [eqS_int]; congr 1
@[simp] theorem eqS_bl' {x y : Bool} : eqS (.bl x) (.bl y) = some (x == y) := eqS_bl x y
@[simp] theorem isNon_non : isNon .non = true := rfl
@[simp] theorem isNon_tup : isNon (.tup a) = false := rfl
@[simp] theorem isNon_lst : isNon (.lst a) = false := rfl
@[simp] theorem isNon_int : isNon (.int i) = false := rfl
@[simp] theorem isNon_bl {x : Bool} : isNon (.bl x) = false := rfl
@[simp] theorem isNon_str {x : Str} : isNon (.str x) = false := rfl
@[simp] theorem truS_bl {x : Bool} : truS (.bl x) = some x := rfl
@[simp] theorem truS_non : truS .non = some false := rfl
@[simp] theorem truS_int : truS (.int i) = some (i != 0) := rfl
@[simp] theorem truS_tup : truS (.tup a) = some (!a.isEmpty) := rfl
@[simp] theorem truS_lst : truS (.lst a) = some (!a.isEmpty) := rfl
@[simp] theorem itsS_tup : itsS μ (.tup a) = some a := rfl
@[simp] theorem itsS_lst : itsS μ (.lst a) = some a := rfl
@[simp] theorem itsS_scr : itsS μ (.scr a) = some a := rfl
@[simp] theorem itsS_mr {n : Nat} : itsS μ (.mr n) = μ[n]? := rfl
@[simp] theorem lstS_lst : lstS μ (.lst a) = some a := rfl
@[simp] theorem lstS_scr : lstS μ (.scr a) = some a := rfl
@[simp] theorem ixS_int : ixS μ d (.int i) = (itsS μ d).bind fun ds => atI ds i := rfl
theorem atI_0 : atI (d :: a) 0 = some d := by simp [atI, ixN]
theorem atI_neg1 {d : D} : atI [d] (-1) = some d := by simp [atI, ixN]
theorem atI_s {n : Nat} : atI (d :: a) ((n + 1 : Nat) : Int) = atI a (n : Int) := by
  unfold atI ixN
  by_cases h : (n : Int) < a.length
  · rw [if_pos (by omega), if_pos (by simp; omega), if_pos (by omega), if_pos h]
    simp
  · rw [if_pos (by omega), if_neg (by simp; omega), if_pos (by omega), if_neg h]
    rfl
@[simp] theorem slcS_tup {lo hi : Option Int} : slcS (.tup a) lo hi = some (.tup (cutS a lo hi)) := rfl
@[simp] theorem slcS_lst {lo hi : Option Int} : slcS (.lst a) lo hi = some (.lst (cutS a lo hi)) := rfl
@[simp] theorem biS_len : biS μ .len [d] = (itsS μ d).map fun ds => .int ds.length := rfl
@[simp] theorem biS_abs : biS μ .abs [.int i] = some (.int (if i < 0 then -i else i)) := rfl
@[simp] theorem biS_max2 : biS μ .max [.int i, .int j] = some (.int (if j > i then j else i)) := rfl
@[simp] theorem biS_min2 : biS μ .min [.int i, .int j] = some (.int (if j < i then j else i)) := rfl
@[simp] theorem biS_sum : biS μ .sum [d] = (lstS μ d).bind fun ds => (asInts ds).map fun is => .int is.sum := rfl
@[simp] theorem biS_tuple : biS μ .tuple [d] = (itsS μ d).map .tup := rfl
@[simp] theorem biS_list : biS μ .list [d] = (itsS μ d).map .lst := rfl
@[simp] theorem biS_int : biS μ .int [.int i] = some (.int i) := rfl
@[simp] theorem biS_intb {x : Bool} : biS μ .int [.bl x] = some (.int (if x then 1 else 0)) := rfl
@[simp] theorem isiS_non {t : Ty} : isiS .non t = some false := by cases t <;> rfl
@[simp] theorem isiS_bl {x : Bool} {t : Ty} : isiS (.bl x) t = some (t == .bool || t == .int) := by cases t <;> rfl
@[simp] theorem isiS_int {t : Ty} : isiS (.int i) t = some (t == .int) := by cases t <;> rfl
@[simp] theorem isiS_str {x : Str} {t : Ty} : isiS (.str x) t = some (t == .str) := by cases t <;> rfl
@[simp] theorem isiS_tup {t : Ty} : isiS (.tup a) t = some (t == .tup) := by cases t <;> rfl
@[simp] theorem isiS_lst {t : Ty} : isiS (.lst a) t = some (t == .lst) := by cases t <;> rfl
end
/-! comprehensions over written lists -/
section
variable {t : T} {c : Env → Store → Option (Bool × Store)} {f : Env → Store → Option (D × Store)} {env : Env} {μ : Store} {d : D} {ds : List D}
@[simp] theorem lcS_nil : lcS t c f env [] μ = some ([], μ) := rfl
theorem lcS_cons : lcS t c f env (d :: ds) μ = (asgT t d env).bind fun e => (c e μ).bind fun p =>
    if p.1 then (f e p.2).bind fun q => (lcS t c f env ds q.2).map fun r => (q.1 :: r.1, r.2) else lcS t c f env ds p.2 := rfl
/-- each item kept, its value a function of it -/
theorem lcS_map {α : Type} {g : α → D} {h : α → D} (hk : ∀ a, ∃ e, asgT t (g a) env = some e ∧ c e μ = some (true, μ) ∧ f e μ = some (h a, μ)) : ∀ l : List α, lcS t c f env (l.map g) μ = some (l.map h, μ)
  | [] => rfl
  | a :: l => by
    obtain ⟨e, h1, h2, h3⟩ := hk a
    rw [List.map_cons, lcS_cons, h1]
    simp only [Option.bind_some, h2, if_true, h3, lcS_map hk l, Option.map_some, List.map_cons]
end
end Py
end
section
set_option Elab.async false
set_option linter.all false
namespace Py
open PySem L2
theorem szle {n : Nat} (h : n ≤ 16777216) : (n ≤ SZ) = True := eq_true (by unfold SZ; exact h)
theorem szlt {n : Nat} (h : n < 16777216) : (n < SZ) = True := eq_true (by unfold SZ; exact h)
end Py
end
section
set_option Elab.async false
set_option linter.all false
set_option maxRecDepth 100000
set_option maxHeartbeats 0
namespace P47
open PySem L2 Py
def top (i : Nat) : Stmt := PySem.Challenge.pw_surepilot_k47_whole_readings_tell_the_qu.main.body.getD i (.Pass ⟨0, 0, 0, 0⟩)
/-- greatest_divisor(p, q) -/
def l1_greatest_divisor : List S := [(S.par 0 1 (E.slot 1) (E.bin .Mod (E.slot 0) (E.slot 1)))]
def b_greatest_divisor : List S := [
  (S.wh (E.cmp .NotEq (E.slot 1) (E.int 0)) l1_greatest_divisor),
  (S.ret (E.bi .abs (E.slot 0) Es.nil))]
def p_greatest_divisor : PF := ⟨"greatest_divisor", ["p", "q"], ⟨2, 2, b_greatest_divisor⟩, top 1⟩
/-- ratio(p, q) -/
def b_ratio : List S := [
  (S.iff (E.cmp .Lt (E.slot 1) (E.int 0)) [(S.asg (T.nm 0) (E.neg (E.slot 0))), (S.asg (T.nm 1) (E.neg (E.slot 1)))] []),
  (S.asg (T.nm 2) (E.call 0 (E.slot 0) (Es.cons (E.slot 1) Es.nil))),
  (S.ret (E.tup (Es.cons (E.bin .FloorDiv (E.slot 0) (E.slot 2)) (Es.cons (E.bin .FloorDiv (E.slot 1) (E.slot 2)) Es.nil))))]
def p_ratio : PF := ⟨"ratio", ["p", "q", "shared"], ⟨2, 3, b_ratio⟩, top 2⟩
/-- times(s, t) -/
def b_times : List S := [
  (S.ret (E.call 1 (E.bin .Mult (E.ix (E.slot 0) (E.int 0)) (E.ix (E.slot 1) (E.int 0))) (Es.cons (E.bin .Mult (E.ix (E.slot 0) (E.int 1)) (E.ix (E.slot 1) (E.int 1))) Es.nil)))]
def p_times : PF := ⟨"times", ["s", "t"], ⟨2, 2, b_times⟩, top 3⟩
/-- over(s, t) -/
def b_over : List S := [
  (S.ret (E.call 1 (E.bin .Mult (E.ix (E.slot 0) (E.int 0)) (E.ix (E.slot 1) (E.int 1))) (Es.cons (E.bin .Mult (E.ix (E.slot 0) (E.int 1)) (E.ix (E.slot 1) (E.int 0))) Es.nil)))]
def p_over : PF := ⟨"over", ["s", "t"], ⟨2, 2, b_over⟩, top 4⟩
/-- box_times(box, t) -/
def c1_box_times : E := E.lc (E.tup (Es.cons (E.call 2 (E.slot 2) (Es.cons (E.slot 1) Es.nil)) (Es.cons (E.call 2 (E.slot 3) (Es.cons (E.slot 1) Es.nil)) Es.nil))) (T.tp [(T.nm 2), (T.nm 3)]) (I.seq (E.slot 0)) Eo.none [2, 3]
def b_box_times : List S := [
  (S.ret (E.bi .tuple c1_box_times Es.nil))]
def p_box_times : PF := ⟨"box_times", ["box", "t", "low", "high"], ⟨2, 4, b_box_times⟩, top 6⟩
/-- rates_of(plant, mode, command) -/
def b_rates_of : List S := [
  (S.ret (E.ix (E.ix (E.ix (E.slot 0) (E.int 5)) (E.slot 1)) (E.slot 2)))]
def p_rates_of : PF := ⟨"rates_of", ["plant", "mode", "command"], ⟨3, 3, b_rates_of⟩, top 7⟩
/-- beat_box(plant, mode, command) -/
def b_beat_box : List S := [
  (S.ret (E.call 4 (E.call 5 (E.slot 0) (Es.cons (E.slot 1) (Es.cons (E.slot 2) Es.nil))) (Es.cons (E.ix (E.slot 0) (E.int 4)) Es.nil)))]
def p_beat_box : PF := ⟨"beat_box", ["plant", "mode", "command"], ⟨3, 3, b_beat_box⟩, top 8⟩
/-- down(t, d) -/
def b_down : List S := [
  (S.asg (T.tp [(T.nm 2), (T.nm 3)]) (E.call 3 (E.slot 0) (Es.cons (E.slot 1) Es.nil))),
  (S.ret (E.bin .FloorDiv (E.slot 2) (E.slot 3)))]
def p_down : PF := ⟨"down", ["t", "d", "p", "q"], ⟨2, 4, b_down⟩, top 10⟩
/-- up(t, d) -/
def b_up : List S := [
  (S.asg (T.tp [(T.nm 2), (T.nm 3)]) (E.call 3 (E.slot 0) (Es.cons (E.slot 1) Es.nil))),
  (S.ret (E.neg (E.bin .FloorDiv (E.neg (E.slot 2)) (E.slot 3))))]
def p_up : PF := ⟨"up", ["t", "d", "p", "q"], ⟨2, 4, b_up⟩, top 11⟩
/-- made_whole(units, box) -/
def c1_made_whole : E := E.lc (E.tup (Es.cons (E.call 7 (E.slot 3) (Es.cons (E.slot 2) Es.nil)) (Es.cons (E.call 8 (E.slot 4) (Es.cons (E.slot 2) Es.nil)) Es.nil))) (T.tp [(T.nm 2), (T.tp [(T.nm 3), (T.nm 4)])]) (I.zip (E.slot 0) (E.slot 1)) Eo.none [2, 3, 4]
def b_made_whole : List S := [
  (S.ret (E.bi .tuple c1_made_whole Es.nil))]
def p_made_whole : PF := ⟨"made_whole", ["units", "box", "d", "low", "high"], ⟨2, 5, b_made_whole⟩, top 12⟩
/-- is_whole_box(n, datum) -/
def c1_is_whole_box : E := E.lc (E.int 1) (T.tp [(T.nm 2), (T.nm 3)]) (I.seq (E.slot 1)) (Eo.some (E.cmp .Gt (E.slot 2) (E.slot 3))) [2, 3]
def b_is_whole_box : List S := [
  (S.ret (E.and (E.cmp .Eq (E.bi .len (E.slot 1) Es.nil) (E.slot 0)) (Es.cons (E.cmp .Eq (E.bi .len c1_is_whole_box Es.nil) (E.int 0)) Es.nil)))]
def p_is_whole_box : PF := ⟨"is_whole_box", ["n", "datum", "lo", "hi"], ⟨2, 4, b_is_whole_box⟩, top 13⟩
/-- read_pair(error, d) -/
def b_read_pair : List S := [
  (S.asg (T.nm 2) (E.call 8 (E.slot 0) (Es.cons (E.slot 1) Es.nil))),
  (S.ret (E.tup (Es.cons (E.slot 2) (Es.cons (E.bin .Add (E.slot 2) (E.int 1)) Es.nil))))]
def p_read_pair : PF := ⟨"read_pair", ["error", "d", "a"], ⟨2, 3, b_read_pair⟩, top 15⟩
/-- read_pairs(plant, units) -/
def c1_read_pairs : E := E.lc (E.call 11 (E.slot 2) (Es.cons (E.slot 3) Es.nil)) (T.tp [(T.nm 2), (T.nm 3)]) (I.zip (E.ix (E.ix (E.slot 0) (E.int 7)) (E.int 0)) (E.slot 1)) Eo.none [2, 3]
def b_read_pairs : List S := [
  (S.ret (E.bi .tuple c1_read_pairs Es.nil))]
def p_read_pairs : PF := ⟨"read_pairs", ["plant", "units", "error", "d"], ⟨2, 4, b_read_pairs⟩, top 16⟩
/-- reading_of(worth, d) -/
def b_reading_of : List S := [
  (S.ret (E.call 7 (E.slot 0) (Es.cons (E.slot 1) Es.nil)))]
def p_reading_of : PF := ⟨"reading_of", ["worth", "d"], ⟨2, 2, b_reading_of⟩, top 17⟩
/-- read_box(reads, readings) -/
def c1_read_box : E := E.lc (E.tup (Es.cons (E.bin .Sub (E.slot 4) (E.slot 2)) (Es.cons (E.bin .Add (E.slot 4) (E.slot 3)) Es.nil))) (T.tp [(T.tp [(T.nm 2), (T.nm 3)]), (T.nm 4)]) (I.zip (E.slot 0) (E.slot 1)) Eo.none [4, 2, 3]
def b_read_box : List S := [
  (S.ret (E.bi .tuple c1_read_box Es.nil))]
def p_read_box : PF := ⟨"read_box", ["reads", "readings", "a", "b", "r"], ⟨2, 5, b_read_box⟩, top 18⟩
/-- gone_on(estimate, offset) -/
def c1_gone_on : E := E.lc (E.tup (Es.cons (E.bin .Add (E.slot 2) (E.slot 4)) (Es.cons (E.bin .Add (E.slot 3) (E.slot 5)) Es.nil))) (T.tp [(T.tp [(T.nm 2), (T.nm 3)]), (T.tp [(T.nm 4), (T.nm 5)])]) (I.zip (E.slot 0) (E.slot 1)) Eo.none [2, 3, 4, 5]
def b_gone_on : List S := [
  (S.ret (E.bi .tuple c1_gone_on Es.nil))]
def p_gone_on : PF := ⟨"gone_on", ["estimate", "offset", "lo", "hi", "a", "b"], ⟨2, 6, b_gone_on⟩, top 19⟩
/-- met_boxes(one, other) -/
def c1_met_boxes : E := E.lc (E.tup (Es.cons (E.bi .max (E.slot 3) (Es.cons (E.slot 5) Es.nil)) (Es.cons (E.bi .min (E.slot 4) (Es.cons (E.slot 6) Es.nil)) Es.nil))) (T.tp [(T.tp [(T.nm 3), (T.nm 4)]), (T.tp [(T.nm 5), (T.nm 6)])]) (I.zip (E.slot 0) (E.slot 1)) Eo.none [3, 4, 5, 6]
def c2_met_boxes : E := E.lc (E.int 1) (T.tp [(T.nm 7), (T.nm 8)]) (I.seq (E.slot 2)) (Eo.some (E.cmp .Gt (E.slot 7) (E.slot 8))) [7, 8]
def b_met_boxes : List S := [
  (S.asg (T.nm 2) (E.bi .tuple c1_met_boxes Es.nil)),
  (S.ret (E.ite (E.cmp .Gt (E.bi .len c2_met_boxes Es.nil) (E.int 0)) E.non (E.slot 2)))]
def p_met_boxes : PF := ⟨"met_boxes", ["one", "other", "found", "a", "b", "c", "d", "lo", "hi"], ⟨2, 9, b_met_boxes⟩, top 20⟩
/-- _law_deal(script) -/
def l1__law_deal : List S := [(S.iff (E.cmp .Gt (E.slot 3) (E.int 0)) [(S.app 1 (E.bin .Mod (E.slot 3) (E.int 1009))), (S.asg (T.nm 3) (E.bin .FloorDiv (E.slot 3) (E.int 1009)))] [])]
def l2__law_deal : List S := [(S.asg (T.nm 3) (E.bin .Mod (E.bin .Add (E.bin .Add (E.bin .Mult (E.slot 3) (E.int 16807)) (E.int 12345)) (E.slot 4)) (E.int 2147483647))), (S.app 1 (E.bin .Mod (E.bin .FloorDiv (E.slot 3) (E.int 7)) (E.int 1009)))]
def l3__law_deal : List S := [(S.asg (T.nm 3) (E.bi .abs (E.bi .int (E.ix (E.slot 0) (E.slot 2)) Es.nil) Es.nil)), (S.iff (E.cmp .GtE (E.slot 3) (E.bin .Pow (E.int 10) (E.int 18))) [(S.for (T.nm 4) (I.rng1 (E.int 40)) l1__law_deal)] [(S.asg (T.nm 3) (E.bin .Add (E.bin .Add (E.bin .Mult (E.bin .Mod (E.slot 3) (E.int 2147483629)) (E.int 48271)) (E.bin .Mult (E.slot 2) (E.int 69621))) (E.int 11))), (S.for (T.nm 4) (I.rng1 (E.int 5)) l2__law_deal)])]
def b__law_deal : List S := [
  (S.asgN 1 (E.lst Es.nil)),
  (S.for (T.nm 2) (I.rng1 (E.bi .min (E.bi .len (E.slot 0) Es.nil) (Es.cons (E.int 63) Es.nil))) l3__law_deal),
  (S.frz 1 (S.asg (T.nm 5) (E.bin .Add (E.bi .sum (E.slot 1) Es.nil) (E.bi .len (E.slot 0) Es.nil)))),
  (S.ret (E.lst (Es.cons (E.slot 1) (Es.cons (E.mlst (Es.cons (E.int 0) Es.nil)) (Es.cons (E.slot 5) Es.nil)))))]
def p__law_deal : PF := ⟨"_law_deal", ["script", "row", "k", "cell", "turn", "total"], ⟨1, 6, b__law_deal⟩, top 22⟩
/-- _law_take(deal, many) -/
def b__law_take : List S := [
  (S.asg (T.nm 2) (E.ix (E.ix (E.slot 0) (E.int 1)) (E.int 0))),
  (S.setm (E.ix (E.slot 0) (E.int 1)) (E.int 0) (E.bin .Add (E.slot 2) (E.int 1))),
  (S.iff (E.cmp .Lt (E.slot 2) (E.bi .len (E.ix (E.slot 0) (E.int 0)) Es.nil)) [(S.ret (E.bin .Mod (E.ix (E.ix (E.slot 0) (E.int 0)) (E.slot 2)) (E.slot 1)))] []),
  (S.ret (E.bin .Mod (E.bin .FloorDiv (E.bin .Add (E.bin .Add (E.bin .Mult (E.slot 2) (E.int 7919)) (E.bin .Mult (E.ix (E.slot 0) (E.int 2)) (E.int 31))) (E.bin .Mult (E.bin .Mult (E.slot 2) (E.slot 2)) (E.int 17))) (E.int 3)) (E.slot 1)))]
def p__law_take : PF := ⟨"_law_take", ["deal", "many", "at"], ⟨2, 3, b__law_take⟩, top 23⟩
/-- _law_same(a, b) -/
def l1__law_same : List S := [(S.iff (E.not (E.call 19 (E.ix (E.slot 0) (E.slot 2)) (Es.cons (E.ix (E.slot 1) (E.slot 2)) Es.nil))) [(S.ret (E.bl false))] [])]
def b__law_same : List S := [
  (S.iff (E.or (E.isi (E.slot 1) .tup) (Es.cons (E.isi (E.slot 1) .lst) Es.nil)) [(S.iff (E.or (E.and (E.isi (E.slot 1) .tup) (Es.cons (E.not (E.isi (E.slot 0) .tup)) Es.nil)) (Es.cons (E.and (E.isi (E.slot 1) .lst) (Es.cons (E.not (E.isi (E.slot 0) .lst)) Es.nil)) Es.nil)) [(S.ret (E.bl false))] []), (S.iff (E.cmp .NotEq (E.bi .len (E.slot 0) Es.nil) (E.bi .len (E.slot 1) Es.nil)) [(S.ret (E.bl false))] []), (S.for (T.nm 2) (I.rng1 (E.bi .len (E.slot 1) Es.nil)) l1__law_same), (S.ret (E.bl true))] []),
  (S.iff (E.or (E.isi (E.slot 0) .bool) (Es.cons (E.isi (E.slot 1) .bool) Es.nil)) [(S.ret (E.and (E.isi (E.slot 0) .bool) (Es.cons (E.isi (E.slot 1) .bool) (Es.cons (E.cmp .Eq (E.slot 0) (E.slot 1)) Es.nil))))] []),
  (S.iff (E.isi (E.slot 1) .int) [(S.ret (E.and (E.isi (E.slot 0) .int) (Es.cons (E.cmp .Eq (E.slot 0) (E.slot 1)) Es.nil)))] []),
  (S.iff (E.isi (E.slot 1) .str) [(S.ret (E.and (E.isi (E.slot 0) .str) (Es.cons (E.cmp .Eq (E.slot 0) (E.slot 1)) Es.nil)))] []),
  (S.ret (E.and (E.isN (E.slot 0)) (Es.cons (E.isN (E.slot 1)) Es.nil)))]
def p__law_same : PF := ⟨"_law_same", ["a", "b", "k"], ⟨2, 3, b__law_same⟩, top 24⟩
/-- _law_ratio(p, q) -/
def l1__law_ratio : List S := [(S.iff (E.cmp .Eq (E.slot 2) (E.int 0)) [S.brk] []), (S.par 2 3 (E.bin .Mod (E.slot 3) (E.slot 2)) (E.slot 2))]
def b__law_ratio : List S := [
  (S.iff (E.cmp .Lt (E.slot 1) (E.int 0)) [(S.asg (T.nm 0) (E.neg (E.slot 0))), (S.asg (T.nm 1) (E.neg (E.slot 1)))] []),
  (S.asg (T.nm 2) (E.bi .abs (E.slot 0) Es.nil)),
  (S.asg (T.nm 3) (E.slot 1)),
  (S.for (T.nm 4) (I.rng1 (E.int 100000)) l1__law_ratio),
  (S.ret (E.tup (Es.cons (E.bin .FloorDiv (E.slot 0) (E.slot 3)) (Es.cons (E.bin .FloorDiv (E.slot 1) (E.slot 3)) Es.nil))))]
def p__law_ratio : PF := ⟨"_law_ratio", ["p", "q", "a", "b", "turn"], ⟨2, 5, b__law_ratio⟩, top 25⟩
/-- _law_plus(s, t) -/
def b__law_plus : List S := [
  (S.ret (E.call 20 (E.bin .Add (E.bin .Mult (E.ix (E.slot 0) (E.int 0)) (E.ix (E.slot 1) (E.int 1))) (E.bin .Mult (E.ix (E.slot 1) (E.int 0)) (E.ix (E.slot 0) (E.int 1)))) (Es.cons (E.bin .Mult (E.ix (E.slot 0) (E.int 1)) (E.ix (E.slot 1) (E.int 1))) Es.nil)))]
def p__law_plus : PF := ⟨"_law_plus", ["s", "t"], ⟨2, 2, b__law_plus⟩, top 26⟩
/-- _law_mult(s, t) -/
def b__law_mult : List S := [
  (S.ret (E.call 20 (E.bin .Mult (E.ix (E.slot 0) (E.int 0)) (E.ix (E.slot 1) (E.int 0))) (Es.cons (E.bin .Mult (E.ix (E.slot 0) (E.int 1)) (E.ix (E.slot 1) (E.int 1))) Es.nil)))]
def p__law_mult : PF := ⟨"_law_mult", ["s", "t"], ⟨2, 2, b__law_mult⟩, top 27⟩
/-- _law_minus(s, t) -/
def b__law_minus : List S := [
  (S.ret (E.call 21 (E.slot 0) (Es.cons (E.tup (Es.cons (E.neg (E.ix (E.slot 1) (E.int 0))) (Es.cons (E.ix (E.slot 1) (E.int 1)) Es.nil))) Es.nil)))]
def p__law_minus : PF := ⟨"_law_minus", ["s", "t"], ⟨2, 2, b__law_minus⟩, top 28⟩
/-- _law_pick(deal, things) -/
def b__law_pick : List S := [
  (S.ret (E.ix (E.slot 1) (E.call 18 (E.slot 0) (Es.cons (E.bi .len (E.slot 1) Es.nil) Es.nil))))]
def p__law_pick : PF := ⟨"_law_pick", ["deal", "things"], ⟨2, 2, b__law_pick⟩, top 29⟩
/-- _law_line(k, n, low, high) -/
def c1__law_line : E := E.lc (E.ite (E.cmp .Eq (E.slot 5) (E.slot 0)) (E.tup (Es.cons (E.int 1) (Es.cons (E.int 1) Es.nil))) (E.tup (Es.cons (E.int 0) (Es.cons (E.int 1) Es.nil)))) (T.nm 5) (I.rng1 (E.slot 1)) Eo.none [5]
def c2__law_line : E := E.lc (E.ite (E.cmp .Eq (E.slot 5) (E.slot 0)) (E.tup (Es.cons (E.neg (E.int 1)) (Es.cons (E.int 1) Es.nil))) (E.tup (Es.cons (E.int 0) (Es.cons (E.int 1) Es.nil)))) (T.nm 5) (I.rng1 (E.slot 1)) Eo.none [5]
def b__law_line : List S := [
  (S.asg (T.nm 4) (E.bi .tuple c1__law_line Es.nil)),
  (S.asg (T.nm 6) (E.bi .tuple c2__law_line Es.nil)),
  (S.ret (E.tup (Es.cons (E.tup (Es.cons (E.slot 4) (Es.cons (E.tup (Es.cons (E.neg (E.ix (E.slot 2) (E.int 0))) (Es.cons (E.ix (E.slot 2) (E.int 1)) Es.nil))) (Es.cons (E.bl false) Es.nil)))) (Es.cons (E.tup (Es.cons (E.slot 6) (Es.cons (E.slot 3) (Es.cons (E.bl false) Es.nil)))) Es.nil))))]
def p__law_line : PF := ⟨"_law_line", ["k", "n", "low", "high", "one", "m", "other"], ⟨4, 7, b__law_line⟩, top 30⟩
/-- _law_floor(t, d) -/
def b__law_floor : List S := [
  (S.asg (T.nm 2) (E.call 20 (E.bin .Mult (E.ix (E.slot 0) (E.int 0)) (E.ix (E.slot 1) (E.int 1))) (Es.cons (E.bin .Mult (E.ix (E.slot 0) (E.int 1)) (E.ix (E.slot 1) (E.int 0))) Es.nil))),
  (S.ret (E.bin .FloorDiv (E.ix (E.slot 2) (E.int 0)) (E.ix (E.slot 2) (E.int 1))))]
def p__law_floor : PF := ⟨"_law_floor", ["t", "d", "q"], ⟨2, 3, b__law_floor⟩, top 31⟩
/-- _law_ceil(t, d) -/
def b__law_ceil : List S := [
  (S.ret (E.neg (E.call 26 (E.tup (Es.cons (E.neg (E.ix (E.slot 0) (E.int 0))) (Es.cons (E.ix (E.slot 0) (E.int 1)) Es.nil))) (Es.cons (E.slot 1) Es.nil))))]
def p__law_ceil : PF := ⟨"_law_ceil", ["t", "d"], ⟨2, 2, b__law_ceil⟩, top 32⟩
/-- _law_not_above(s, t) -/
def b__law_not_above : List S := [
  (S.ret (E.cmp .LtE (E.bin .Mult (E.ix (E.slot 0) (E.int 0)) (E.ix (E.slot 1) (E.int 1))) (E.bin .Mult (E.ix (E.slot 1) (E.int 0)) (E.ix (E.slot 0) (E.int 1)))))]
def p__law_not_above : PF := ⟨"_law_not_above", ["s", "t"], ⟨2, 2, b__law_not_above⟩, top 33⟩
/-- _law_plant_of(deal) -/
def l1__law_plant_of : List S := [(S.asg (T.nm 5) (E.bin .Add (E.int 2) (E.call 18 (E.slot 0) (Es.cons (E.int 3) Es.nil)))), (S.asg (T.nm 6) (E.call 18 (E.slot 0) (Es.cons (E.int 2) Es.nil))), (S.asg (T.nm 7) (E.tup (Es.cons (E.tup (Es.cons (E.tup (Es.cons (E.slot 5) (Es.cons (E.int 1) Es.nil))) (Es.cons (E.tup (Es.cons (E.bin .Add (E.slot 5) (E.slot 6)) (Es.cons (E.int 1) Es.nil))) Es.nil))) Es.nil))), (S.asg (T.nm 8) (E.tup (Es.cons (E.tup (Es.cons (E.tup (Es.cons (E.bin .Sub (E.neg (E.slot 5)) (E.slot 6)) (Es.cons (E.int 1) Es.nil))) (Es.cons (E.tup (Es.cons (E.neg (E.slot 5)) (Es.cons (E.int 1) Es.nil))) Es.nil))) Es.nil))), (S.app 3 (E.slc (E.tup (Es.cons (E.slot 7) (Es.cons (E.slot 8) (Es.cons (E.tup (Es.cons (E.tup (Es.cons (E.tup (Es.cons (E.bin .Mult (E.neg (E.int 1)) (E.slot 6)) (Es.cons (E.int 2) Es.nil))) (Es.cons (E.tup (Es.cons (E.slot 6) (Es.cons (E.int 2) Es.nil))) Es.nil))) Es.nil)) Es.nil)))) Eo.none (Eo.some (E.bi .len (E.slot 2) Es.nil))))]
def c1__law_plant_of : E := E.lc (E.tup (Es.cons (E.call 20 (E.ix (E.slot 9) (E.int 0)) (Es.cons (E.ix (E.slot 9) (E.int 1)) Es.nil)) (Es.cons (E.call 20 (E.ix (E.slot 10) (E.int 0)) (Es.cons (E.ix (E.slot 10) (E.int 1)) Es.nil)) Es.nil))) (T.tp [(T.nm 9), (T.nm 10)]) (I.seq (E.slot 11)) Eo.none [9, 10]
def c2__law_plant_of : E := E.lc (E.bi .tuple c1__law_plant_of Es.nil) (T.nm 11) (I.seq (E.slot 12)) Eo.none [11]
def c3__law_plant_of : E := E.lc (E.bi .tuple c2__law_plant_of Es.nil) (T.nm 12) (I.seq (E.slot 3)) Eo.none [12]
def c4__law_plant_of : E := E.lc (E.tup (Es.cons (E.slot 9) (Es.cons (E.call 20 (E.ix (E.slot 10) (E.int 0)) (Es.cons (E.ix (E.slot 10) (E.int 1)) Es.nil)) Es.nil))) (T.tp [(T.nm 9), (T.nm 10)]) (I.seq (E.slot 16)) Eo.none [9, 10]
def l2__law_plant_of : List S := [(S.asg (T.nm 15) (E.call 20 (E.bin .Sub (E.call 18 (E.slot 0) (Es.cons (E.int 3) Es.nil)) (E.int 1)) (Es.cons (E.int 2) Es.nil))), (S.asg (T.nm 16) (E.tup (Es.cons (E.tup (Es.cons (E.slot 15) (Es.cons (E.call 21 (E.slot 15) (Es.cons (E.tup (Es.cons (E.call 18 (E.slot 0) (Es.cons (E.int 2) Es.nil)) (Es.cons (E.int 2) Es.nil))) Es.nil)) Es.nil))) Es.nil))), (S.app 13 (E.tup (Es.cons (E.slot 14) (Es.cons (E.str "go") (Es.cons (E.bin .Sub (E.int 1) (E.slot 14)) (Es.cons (E.call 30 (E.slot 0) Es.nil) (Es.cons (E.ix (E.lst (Es.cons (E.str "may") (Es.cons (E.str "must") Es.nil))) (E.bi .int (E.cmp .Eq (E.call 18 (E.slot 0) (Es.cons (E.int 4) Es.nil)) (E.int 0)) Es.nil)) (Es.cons (E.bi .tuple c4__law_plant_of Es.nil) Es.nil))))))))]
def b__law_plant_of : List S := [
  (S.asg (T.nm 1) (E.slc (E.tup (Es.cons (E.str "m0") (Es.cons (E.str "m1") Es.nil))) Eo.none (Eo.some (E.bin .Add (E.int 1) (E.bi .int (E.cmp .Eq (E.call 18 (E.slot 0) (Es.cons (E.int 4) Es.nil)) (E.int 1)) Es.nil))))),
  (S.asg (T.nm 2) (E.slc (E.tup (Es.cons (E.str "up") (Es.cons (E.str "down") (Es.cons (E.str "wait") Es.nil)))) Eo.none (Eo.some (E.bin .Add (E.int 2) (E.call 18 (E.slot 0) (Es.cons (E.int 2) Es.nil)))))),
  (S.asgN 3 (E.lst Es.nil)),
  (S.for (T.nm 4) (I.seq (E.slot 1)) l1__law_plant_of),
  (S.frz 3 (S.asg (T.nm 3) (E.bi .tuple c3__law_plant_of Es.nil))),
  (S.asgN 13 (E.lst Es.nil)),
  (S.for (T.nm 14) (I.rng1 (E.bin .Mult (E.call 18 (E.slot 0) (Es.cons (E.int 3) Es.nil)) (E.bi .int (E.cmp .Gt (E.bi .len (E.slot 1) Es.nil) (E.int 1)) Es.nil))) l2__law_plant_of),
  (S.asg (T.nm 17) (E.tup (Es.cons (E.tup (Es.cons (E.call 20 (E.call 18 (E.slot 0) (Es.cons (E.int 2) Es.nil)) (Es.cons (E.int 2) Es.nil)) Es.nil)) (Es.cons (E.call 18 (E.slot 0) (Es.cons (E.int 2) Es.nil)) Es.nil)))),
  (S.asg (T.nm 18) (E.call 25 (E.int 0) (Es.cons (E.int 1) (Es.cons (E.tup (Es.cons (E.neg (E.call 18 (E.slot 0) (Es.cons (E.int 2) Es.nil))) (Es.cons (E.int 1) Es.nil))) (Es.cons (E.tup (Es.cons (E.call 18 (E.slot 0) (Es.cons (E.int 2) Es.nil)) (Es.cons (E.int 1) Es.nil))) Es.nil))))),
  (S.asg (T.nm 19) (E.call 24 (E.slot 0) (Es.cons (E.lst (Es.cons (E.tup (Es.cons (E.int 1) (Es.cons (E.int 1) Es.nil))) (Es.cons (E.tup (Es.cons (E.int 1) (Es.cons (E.int 1) Es.nil))) (Es.cons (E.tup (Es.cons (E.int 1) (Es.cons (E.int 2) Es.nil))) (Es.cons (E.tup (Es.cons (E.int 2) (Es.cons (E.int 1) Es.nil))) Es.nil))))) Es.nil))),
  (S.frz 13 (S.ret (E.tup (Es.cons (E.str "p") (Es.cons (E.tup (Es.cons (E.str "x") Es.nil)) (Es.cons (E.slot 1) (Es.cons (E.slot 2) (Es.cons (E.slot 19) (Es.cons (E.slot 3) (Es.cons (E.bi .tuple (E.slot 13) Es.nil) (Es.cons (E.slot 17) (Es.cons (E.tup (Es.cons (E.int 0) (Es.cons (E.slot 18) Es.nil))) Es.nil))))))))))))]
def p__law_plant_of : PF := ⟨"_law_plant_of", ["deal", "modes", "commands", "rates", "mode", "strong", "loose", "up_v", "down_v", "low", "high", "box", "row", "switches", "turn", "kick", "kicks", "sensors", "start", "beat"], ⟨1, 20, b__law_plant_of⟩, top 34⟩
/-- _law_edge(deal) -/
def b__law_edge : List S := [
  (S.iff (E.cmp .Eq (E.call 18 (E.slot 0) (Es.cons (E.int 2) Es.nil)) (E.int 0)) [(S.ret (E.tup Es.nil))] []),
  (S.asg (T.nm 1) (E.ix (E.lst (Es.cons (E.int 1) (Es.cons (E.neg (E.int 1)) Es.nil))) (E.call 18 (E.slot 0) (Es.cons (E.int 2) Es.nil)))),
  (S.ret (E.tup (Es.cons (E.tup (Es.cons (E.tup (Es.cons (E.tup (Es.cons (E.slot 1) (Es.cons (E.int 1) Es.nil))) Es.nil)) (Es.cons (E.tup (Es.cons (E.neg (E.call 18 (E.slot 0) (Es.cons (E.int 3) Es.nil))) (Es.cons (E.int 1) Es.nil))) (Es.cons (E.bl false) Es.nil)))) Es.nil)))]
def p__law_edge : PF := ⟨"_law_edge", ["deal", "side"], ⟨1, 2, b__law_edge⟩, top 35⟩
/-- _law_reads(plant, d) -/
def b__law_reads : List S := [
  (S.asg (T.nm 2) (E.call 27 (E.ix (E.ix (E.ix (E.slot 0) (E.int 7)) (E.int 0)) (E.int 0)) (Es.cons (E.slot 1) Es.nil))),
  (S.ret (E.tup (Es.cons (E.tup (Es.cons (E.slot 2) (Es.cons (E.bin .Add (E.slot 2) (E.int 1)) Es.nil))) Es.nil)))]
def p__law_reads : PF := ⟨"_law_reads", ["plant", "d", "wide"], ⟨2, 3, b__law_reads⟩, top 36⟩
/-- _law_between(deal, low, high) -/
def b__law_between : List S := [
  (S.asg (T.nm 3) (E.call 18 (E.slot 0) (Es.cons (E.int 5) Es.nil))),
  (S.asg (T.nm 4) (E.call 23 (E.slot 2) (Es.cons (E.slot 1) Es.nil))),
  (S.ret (E.call 21 (E.slot 1) (Es.cons (E.call 20 (E.bin .Mult (E.ix (E.slot 4) (E.int 0)) (E.slot 3)) (Es.cons (E.bin .Mult (E.ix (E.slot 4) (E.int 1)) (E.int 4)) Es.nil)) Es.nil)))]
def p__law_between : PF := ⟨"_law_between", ["deal", "low", "high", "part", "wide"], ⟨3, 5, b__law_between⟩, top 37⟩
/-- _law_inside(point, d, pair) -/
def b__law_inside : List S := [
  (S.ret (E.and (E.call 28 (E.call 22 (E.slot 1) (Es.cons (E.tup (Es.cons (E.ix (E.slot 2) (E.int 0)) (Es.cons (E.int 1) Es.nil))) Es.nil)) (Es.cons (E.slot 0) Es.nil)) (Es.cons (E.call 28 (E.slot 0) (Es.cons (E.call 22 (E.slot 1) (Es.cons (E.tup (Es.cons (E.ix (E.slot 2) (E.int 1)) (Es.cons (E.int 1) Es.nil))) Es.nil)) Es.nil)) Es.nil)))]
def p__law_inside : PF := ⟨"_law_inside", ["point", "d", "pair"], ⟨3, 3, b__law_inside⟩, top 38⟩
/-- _law_unit(deal) -/
def b__law_unit : List S := [
  (S.ret (E.ix (E.lst (Es.cons (E.tup (Es.cons (E.int 1) (Es.cons (E.int 2) Es.nil))) (Es.cons (E.tup (Es.cons (E.int 1) (Es.cons (E.int 4) Es.nil))) (Es.cons (E.tup (Es.cons (E.int 1) (Es.cons (E.int 1) Es.nil))) (Es.cons (E.tup (Es.cons (E.int 1) (Es.cons (E.int 3) Es.nil))) Es.nil))))) (E.call 18 (E.slot 0) (Es.cons (E.int 4) Es.nil))))]
def p__law_unit : PF := ⟨"_law_unit", ["deal"], ⟨1, 1, b__law_unit⟩, top 39⟩
/-- _law_whole(deal, n) -/
def l1__law_whole : List S := [(S.asg (T.nm 4) (E.bin .Sub (E.call 18 (E.slot 0) (Es.cons (E.int 25) Es.nil)) (E.int 12))), (S.app 2 (E.tup (Es.cons (E.slot 4) (Es.cons (E.bin .Add (E.slot 4) (E.call 18 (E.slot 0) (Es.cons (E.int 7) Es.nil))) Es.nil))))]
def b__law_whole : List S := [
  (S.asgN 2 (E.lst Es.nil)),
  (S.for (T.nm 3) (I.rng1 (E.slot 1)) l1__law_whole),
  (S.frz 2 (S.ret (E.bi .tuple (E.slot 2) Es.nil)))]
def p__law_whole : PF := ⟨"_law_whole", ["deal", "n", "found", "k", "lo"], ⟨2, 5, b__law_whole⟩, top 40⟩
/-- _law_left(one, other) -/
def b__law_left : List S := [
  (S.par 2 3 (E.bi .max (E.ix (E.slot 0) (E.int 0)) (Es.cons (E.ix (E.slot 1) (E.int 0)) Es.nil)) (E.bi .min (E.ix (E.slot 0) (E.int 1)) (Es.cons (E.ix (E.slot 1) (E.int 1)) Es.nil))),
  (S.iff (E.cmp .Gt (E.slot 2) (E.slot 3)) [(S.ret E.non)] []),
  (S.ret (E.tup (Es.cons (E.tup (Es.cons (E.slot 2) (Es.cons (E.slot 3) Es.nil))) Es.nil)))]
def p__law_left : PF := ⟨"_law_left", ["one", "other", "lo", "hi"], ⟨2, 4, b__law_left⟩, top 41⟩
/-- law(script) -/
def b_law : List S := [
  (S.asg (T.nm 1) (E.call 17 (E.slot 0) Es.nil)),
  (S.asg (T.nm 2) (E.call 29 (E.slot 1) Es.nil)),
  (S.asg (T.nm 3) (E.call 34 (E.slot 1) Es.nil)),
  (S.asg (T.nm 4) (E.call 20 (E.bin .Sub (E.call 18 (E.slot 1) (Es.cons (E.int 201) Es.nil)) (E.int 100)) (Es.cons (E.bin .Add (E.int 1) (E.call 18 (E.slot 1) (Es.cons (E.int 12) Es.nil))) Es.nil))),
  (S.asg (T.nm 5) (E.call 12 (E.slot 2) (Es.cons (E.tup (Es.cons (E.slot 3) Es.nil)) Es.nil))),
  (S.iff (E.or (E.not (E.call 19 (E.slot 5) (Es.cons (E.call 31 (E.slot 2) (Es.cons (E.slot 3) Es.nil)) Es.nil))) (Es.cons (E.not (E.call 19 (E.call 11 (E.ix (E.ix (E.ix (E.slot 2) (E.int 7)) (E.int 0)) (E.int 0)) (Es.cons (E.slot 3) Es.nil)) (Es.cons (E.ix (E.slot 5) (E.int 0)) Es.nil))) Es.nil)) [(S.ret (E.bl false))] []),
  (S.asg (T.nm 6) (E.ix (E.ix (E.ix (E.slot 2) (E.int 7)) (E.int 0)) (E.int 0))),
  (S.asg (T.nm 7) (E.call 21 (E.slot 4) (Es.cons (E.call 32 (E.slot 1) (Es.cons (E.tup (Es.cons (E.neg (E.ix (E.slot 6) (E.int 0))) (Es.cons (E.ix (E.slot 6) (E.int 1)) Es.nil))) (Es.cons (E.slot 6) Es.nil))) Es.nil))),
  (S.asg (T.nm 8) (E.call 13 (E.slot 7) (Es.cons (E.slot 3) Es.nil))),
  (S.iff (E.cmp .NotEq (E.slot 8) (E.call 26 (E.slot 7) (Es.cons (E.slot 3) Es.nil))) [(S.ret (E.bl false))] []),
  (S.asg (T.nm 9) (E.call 14 (E.slot 5) (Es.cons (E.tup (Es.cons (E.slot 8) Es.nil)) Es.nil))),
  (S.iff (E.or (E.not (E.call 19 (E.slot 9) (Es.cons (E.tup (Es.cons (E.tup (Es.cons (E.bin .Sub (E.slot 8) (E.ix (E.ix (E.slot 5) (E.int 0)) (E.int 0))) (Es.cons (E.bin .Add (E.slot 8) (E.ix (E.ix (E.slot 5) (E.int 0)) (E.int 1))) Es.nil))) Es.nil)) Es.nil))) (Es.cons (E.not (E.call 33 (E.slot 4) (Es.cons (E.slot 3) (Es.cons (E.ix (E.slot 9) (E.int 0)) Es.nil)))) Es.nil)) [(S.ret (E.bl false))] []),
  (S.asg (T.nm 10) (E.call 18 (E.slot 1) (Es.cons (E.int 6) Es.nil))),
  (S.asg (T.nm 11) (E.tup (Es.cons (E.tup (Es.cons (E.bin .Sub (E.call 26 (E.slot 4) (Es.cons (E.slot 3) Es.nil)) (E.call 18 (E.slot 1) (Es.cons (E.int 6) Es.nil))) (Es.cons (E.bin .Add (E.call 27 (E.slot 4) (Es.cons (E.slot 3) Es.nil)) (E.slot 10)) Es.nil))) Es.nil))),
  (S.asg (T.nm 12) (E.call 16 (E.slot 11) (Es.cons (E.slot 9) Es.nil))),
  (S.iff (E.or (E.isN (E.slot 12)) (Es.cons (E.not (E.call 19 (E.slot 12) (Es.cons (E.call 36 (E.ix (E.slot 11) (E.int 0)) (Es.cons (E.ix (E.slot 9) (E.int 0)) Es.nil)) Es.nil))) (Es.cons (E.not (E.call 33 (E.slot 4) (Es.cons (E.slot 3) (Es.cons (E.ix (E.slot 12) (E.int 0)) Es.nil)))) (Es.cons (E.not (E.call 10 (E.int 1) (Es.cons (E.slot 12) Es.nil))) Es.nil)))) [(S.ret (E.bl false))] []),
  (S.asg (T.nm 13) (E.call 35 (E.slot 1) (Es.cons (E.int 1) Es.nil))),
  (S.iff (E.not (E.call 19 (E.call 16 (E.slot 11) (Es.cons (E.slot 13) Es.nil)) (Es.cons (E.call 36 (E.ix (E.slot 11) (E.int 0)) (Es.cons (E.ix (E.slot 13) (E.int 0)) Es.nil)) Es.nil))) [(S.ret (E.bl false))] []),
  (S.asg (T.nm 14) (E.call 22 (E.slot 3) (Es.cons (E.tup (Es.cons (E.call 18 (E.slot 1) (Es.cons (E.int 4) Es.nil)) (Es.cons (E.int 1) Es.nil))) Es.nil))),
  (S.asg (T.tp [(T.nm 15), (T.nm 16)]) (E.call 11 (E.slot 14) (Es.cons (E.slot 3) Es.nil))),
  (S.asg (T.nm 17) (E.call 22 (E.slot 3) (Es.cons (E.tup (Es.cons (E.int 1) (Es.cons (E.int 7) Es.nil))) Es.nil))),
  (S.asg (T.nm 18) (E.call 23 (E.call 22 (E.slot 3) (Es.cons (E.tup (Es.cons (E.bin .Add (E.slot 8) (E.int 1)) (Es.cons (E.int 1) Es.nil))) Es.nil)) (Es.cons (E.slot 17) Es.nil))),
  (S.iff (E.or (E.cmp .NotEq (E.call 26 (E.slot 18) (Es.cons (E.slot 3) Es.nil)) (E.slot 8)) (Es.cons (E.call 33 (E.call 21 (E.slot 18) (Es.cons (E.slot 14) Es.nil)) (Es.cons (E.slot 3) (Es.cons (E.tup (Es.cons (E.bin .Sub (E.slot 8) (E.slot 15)) (Es.cons (E.bin .Sub (E.bin .Add (E.slot 8) (E.slot 16)) (E.int 1)) Es.nil))) Es.nil))) (Es.cons (E.not (E.call 33 (E.call 21 (E.slot 18) (Es.cons (E.slot 14) Es.nil)) (Es.cons (E.slot 3) (Es.cons (E.tup (Es.cons (E.bin .Sub (E.slot 8) (E.slot 15)) (Es.cons (E.bin .Add (E.slot 8) (E.slot 16)) Es.nil))) Es.nil)))) Es.nil))) [(S.ret (E.bl false))] []),
  (S.asg (T.nm 19) (E.call 23 (E.call 22 (E.slot 3) (Es.cons (E.tup (Es.cons (E.slot 8) (Es.cons (E.int 1) Es.nil))) Es.nil)) (Es.cons (E.slot 14) Es.nil))),
  (S.iff (E.or (E.call 33 (E.slot 19) (Es.cons (E.slot 3) (Es.cons (E.tup (Es.cons (E.bin .Add (E.bin .Sub (E.slot 8) (E.slot 15)) (E.int 1)) (Es.cons (E.bin .Add (E.slot 8) (E.slot 16)) Es.nil))) Es.nil))) (Es.cons (E.not (E.call 33 (E.slot 19) (Es.cons (E.slot 3) (Es.cons (E.tup (Es.cons (E.bin .Sub (E.slot 8) (E.slot 15)) (Es.cons (E.bin .Add (E.slot 8) (E.slot 16)) Es.nil))) Es.nil)))) Es.nil)) [(S.ret (E.bl false))] []),
  (S.asg (T.nm 20) (E.call 18 (E.slot 1) (Es.cons (E.bi .len (E.ix (E.slot 2) (E.int 2)) Es.nil) Es.nil))),
  (S.asg (T.nm 21) (E.call 18 (E.slot 1) (Es.cons (E.bi .len (E.ix (E.slot 2) (E.int 3)) Es.nil) Es.nil))),
  (S.asg (T.nm 22) (E.ix (E.ix (E.ix (E.ix (E.slot 2) (E.int 5)) (E.slot 20)) (E.slot 21)) (E.int 0))),
  (S.asg (T.nm 23) (E.call 6 (E.slot 2) (Es.cons (E.slot 20) (Es.cons (E.slot 21) Es.nil)))),
  (S.iff (E.not (E.call 19 (E.slot 23) (Es.cons (E.tup (Es.cons (E.tup (Es.cons (E.call 22 (E.ix (E.slot 2) (E.int 4)) (Es.cons (E.ix (E.slot 22) (E.int 0)) Es.nil)) (Es.cons (E.call 22 (E.ix (E.slot 2) (E.int 4)) (Es.cons (E.ix (E.slot 22) (E.int 1)) Es.nil)) Es.nil))) Es.nil)) Es.nil))) [(S.ret (E.bl false))] []),
  (S.asg (T.nm 24) (E.call 21 (E.slot 4) (Es.cons (E.call 22 (E.ix (E.slot 2) (E.int 4)) (Es.cons (E.call 32 (E.slot 1) (Es.cons (E.ix (E.slot 22) (E.int 0)) (Es.cons (E.ix (E.slot 22) (E.int 1)) Es.nil))) Es.nil)) Es.nil))),
  (S.asg (T.nm 25) (E.call 9 (E.tup (Es.cons (E.slot 3) Es.nil)) (Es.cons (E.slot 23) Es.nil))),
  (S.asg (T.nm 26) (E.call 15 (E.slot 12) (Es.cons (E.slot 25) Es.nil))),
  (S.ret (E.and (E.call 19 (E.slot 26) (Es.cons (E.tup (Es.cons (E.tup (Es.cons (E.bin .Add (E.ix (E.ix (E.slot 12) (E.int 0)) (E.int 0)) (E.ix (E.ix (E.slot 25) (E.int 0)) (E.int 0))) (Es.cons (E.bin .Add (E.ix (E.ix (E.slot 12) (E.int 0)) (E.int 1)) (E.ix (E.ix (E.slot 25) (E.int 0)) (E.int 1))) Es.nil))) Es.nil)) Es.nil)) (Es.cons (E.call 33 (E.slot 24) (Es.cons (E.slot 3) (Es.cons (E.ix (E.slot 26) (E.int 0)) Es.nil))) Es.nil)))]
def p_law : PF := ⟨"law", ["script", "deal", "plant", "d", "x", "reads", "error", "worth", "r", "told", "wide", "estimate", "left", "far", "whole", "a", "b", "near", "high", "low", "mode", "command", "rates", "box", "later", "offset", "gone"], ⟨1, 27, b_law⟩, top 42⟩
def pfs : List PF := [p_greatest_divisor, p_ratio, p_times, p_over, p_box_times, p_rates_of, p_beat_box, p_down, p_up, p_made_whole, p_is_whole_box, p_read_pair, p_read_pairs, p_reading_of, p_read_box, p_gone_on, p_met_boxes, p__law_deal, p__law_take, p__law_same, p__law_ratio, p__law_plus, p__law_mult, p__law_minus, p__law_pick, p__law_line, p__law_floor, p__law_ceil, p__law_not_above, p__law_plant_of, p__law_edge, p__law_reads, p__law_between, p__law_inside, p__law_unit, p__law_whole, p__law_left, p_law]
def fs : List Fn := pfs.map (·.fn)
def gls : List Str := []
abbrev f_greatest_divisor : Nat := 0
abbrev f_ratio : Nat := 1
abbrev f_times : Nat := 2
abbrev f_over : Nat := 3
abbrev f_box_times : Nat := 4
abbrev f_rates_of : Nat := 5
abbrev f_beat_box : Nat := 6
abbrev f_down : Nat := 7
abbrev f_up : Nat := 8
abbrev f_made_whole : Nat := 9
abbrev f_is_whole_box : Nat := 10
abbrev f_read_pair : Nat := 11
abbrev f_read_pairs : Nat := 12
abbrev f_reading_of : Nat := 13
abbrev f_read_box : Nat := 14
abbrev f_gone_on : Nat := 15
abbrev f_met_boxes : Nat := 16
abbrev f__law_deal : Nat := 17
abbrev f__law_take : Nat := 18
abbrev f__law_same : Nat := 19
abbrev f__law_ratio : Nat := 20
abbrev f__law_plus : Nat := 21
abbrev f__law_mult : Nat := 22
abbrev f__law_minus : Nat := 23
abbrev f__law_pick : Nat := 24
abbrev f__law_line : Nat := 25
abbrev f__law_floor : Nat := 26
abbrev f__law_ceil : Nat := 27
abbrev f__law_not_above : Nat := 28
abbrev f__law_plant_of : Nat := 29
abbrev f__law_edge : Nat := 30
abbrev f__law_reads : Nat := 31
abbrev f__law_between : Nat := 32
abbrev f__law_inside : Nat := 33
abbrev f__law_unit : Nat := 34
abbrev f__law_whole : Nat := 35
abbrev f__law_left : Nat := 36
abbrev f_law : Nat := 37
def Γ : GlS := fun _ => none
theorem hg {mg : Str → Option Value} {K : PySem.W.Frag} : ∀ g x d, gls[g]? = some x → Γ g = some d → ∃ v u, mg x = some u ∧ RelV v u ∧ ∀ F ρ, Dr K F ρ v d := fun _ _ _ _ h => by cases h
theorem u_greatest_divisor (k : Nat) (d0 d1 : D) (μ : Store) : Py.run fs Γ (k + 1) f_greatest_divisor [d0, d1] μ = fin (exs (Py.run fs Γ k) Γ b_greatest_divisor [some (.val d0), some (.val d1)] μ) := run_fin (fs := fs) (fn := p_greatest_divisor.fn) rfl rfl
theorem u_ratio (k : Nat) (d0 d1 : D) (μ : Store) : Py.run fs Γ (k + 1) f_ratio [d0, d1] μ = fin (exs (Py.run fs Γ k) Γ b_ratio [some (.val d0), some (.val d1), none] μ) := run_fin (fs := fs) (fn := p_ratio.fn) rfl rfl
theorem u_times (k : Nat) (d0 d1 : D) (μ : Store) : Py.run fs Γ (k + 1) f_times [d0, d1] μ = fin (exs (Py.run fs Γ k) Γ b_times [some (.val d0), some (.val d1)] μ) := run_fin (fs := fs) (fn := p_times.fn) rfl rfl
theorem u_over (k : Nat) (d0 d1 : D) (μ : Store) : Py.run fs Γ (k + 1) f_over [d0, d1] μ = fin (exs (Py.run fs Γ k) Γ b_over [some (.val d0), some (.val d1)] μ) := run_fin (fs := fs) (fn := p_over.fn) rfl rfl
theorem u_box_times (k : Nat) (d0 d1 : D) (μ : Store) : Py.run fs Γ (k + 1) f_box_times [d0, d1] μ = fin (exs (Py.run fs Γ k) Γ b_box_times [some (.val d0), some (.val d1), none, none] μ) := run_fin (fs := fs) (fn := p_box_times.fn) rfl rfl
theorem u_rates_of (k : Nat) (d0 d1 d2 : D) (μ : Store) : Py.run fs Γ (k + 1) f_rates_of [d0, d1, d2] μ = fin (exs (Py.run fs Γ k) Γ b_rates_of [some (.val d0), some (.val d1), some (.val d2)] μ) := run_fin (fs := fs) (fn := p_rates_of.fn) rfl rfl
theorem u_beat_box (k : Nat) (d0 d1 d2 : D) (μ : Store) : Py.run fs Γ (k + 1) f_beat_box [d0, d1, d2] μ = fin (exs (Py.run fs Γ k) Γ b_beat_box [some (.val d0), some (.val d1), some (.val d2)] μ) := run_fin (fs := fs) (fn := p_beat_box.fn) rfl rfl
theorem u_down (k : Nat) (d0 d1 : D) (μ : Store) : Py.run fs Γ (k + 1) f_down [d0, d1] μ = fin (exs (Py.run fs Γ k) Γ b_down [some (.val d0), some (.val d1), none, none] μ) := run_fin (fs := fs) (fn := p_down.fn) rfl rfl
theorem u_up (k : Nat) (d0 d1 : D) (μ : Store) : Py.run fs Γ (k + 1) f_up [d0, d1] μ = fin (exs (Py.run fs Γ k) Γ b_up [some (.val d0), some (.val d1), none, none] μ) := run_fin (fs := fs) (fn := p_up.fn) rfl rfl
theorem u_made_whole (k : Nat) (d0 d1 : D) (μ : Store) : Py.run fs Γ (k + 1) f_made_whole [d0, d1] μ = fin (exs (Py.run fs Γ k) Γ b_made_whole [some (.val d0), some (.val d1), none, none, none] μ) := run_fin (fs := fs) (fn := p_made_whole.fn) rfl rfl
theorem u_is_whole_box (k : Nat) (d0 d1 : D) (μ : Store) : Py.run fs Γ (k + 1) f_is_whole_box [d0, d1] μ = fin (exs (Py.run fs Γ k) Γ b_is_whole_box [some (.val d0), some (.val d1), none, none] μ) := run_fin (fs := fs) (fn := p_is_whole_box.fn) rfl rfl
theorem u_read_pair (k : Nat) (d0 d1 : D) (μ : Store) : Py.run fs Γ (k + 1) f_read_pair [d0, d1] μ = fin (exs (Py.run fs Γ k) Γ b_read_pair [some (.val d0), some (.val d1), none] μ) := run_fin (fs := fs) (fn := p_read_pair.fn) rfl rfl
theorem u_read_pairs (k : Nat) (d0 d1 : D) (μ : Store) : Py.run fs Γ (k + 1) f_read_pairs [d0, d1] μ = fin (exs (Py.run fs Γ k) Γ b_read_pairs [some (.val d0), some (.val d1), none, none] μ) := run_fin (fs := fs) (fn := p_read_pairs.fn) rfl rfl
theorem u_reading_of (k : Nat) (d0 d1 : D) (μ : Store) : Py.run fs Γ (k + 1) f_reading_of [d0, d1] μ = fin (exs (Py.run fs Γ k) Γ b_reading_of [some (.val d0), some (.val d1)] μ) := run_fin (fs := fs) (fn := p_reading_of.fn) rfl rfl
theorem u_read_box (k : Nat) (d0 d1 : D) (μ : Store) : Py.run fs Γ (k + 1) f_read_box [d0, d1] μ = fin (exs (Py.run fs Γ k) Γ b_read_box [some (.val d0), some (.val d1), none, none, none] μ) := run_fin (fs := fs) (fn := p_read_box.fn) rfl rfl
theorem u_gone_on (k : Nat) (d0 d1 : D) (μ : Store) : Py.run fs Γ (k + 1) f_gone_on [d0, d1] μ = fin (exs (Py.run fs Γ k) Γ b_gone_on [some (.val d0), some (.val d1), none, none, none, none] μ) := run_fin (fs := fs) (fn := p_gone_on.fn) rfl rfl
theorem u_met_boxes (k : Nat) (d0 d1 : D) (μ : Store) : Py.run fs Γ (k + 1) f_met_boxes [d0, d1] μ = fin (exs (Py.run fs Γ k) Γ b_met_boxes [some (.val d0), some (.val d1), none, none, none, none, none, none, none] μ) := run_fin (fs := fs) (fn := p_met_boxes.fn) rfl rfl
theorem u__law_deal (k : Nat) (d0 : D) (μ : Store) : Py.run fs Γ (k + 1) f__law_deal [d0] μ = fin (exs (Py.run fs Γ k) Γ b__law_deal [some (.val d0), none, none, none, none, none] μ) := run_fin (fs := fs) (fn := p__law_deal.fn) rfl rfl
theorem u__law_take (k : Nat) (d0 d1 : D) (μ : Store) : Py.run fs Γ (k + 1) f__law_take [d0, d1] μ = fin (exs (Py.run fs Γ k) Γ b__law_take [some (.val d0), some (.val d1), none] μ) := run_fin (fs := fs) (fn := p__law_take.fn) rfl rfl
theorem u__law_same (k : Nat) (d0 d1 : D) (μ : Store) : Py.run fs Γ (k + 1) f__law_same [d0, d1] μ = fin (exs (Py.run fs Γ k) Γ b__law_same [some (.val d0), some (.val d1), none] μ) := run_fin (fs := fs) (fn := p__law_same.fn) rfl rfl
theorem u__law_ratio (k : Nat) (d0 d1 : D) (μ : Store) : Py.run fs Γ (k + 1) f__law_ratio [d0, d1] μ = fin (exs (Py.run fs Γ k) Γ b__law_ratio [some (.val d0), some (.val d1), none, none, none] μ) := run_fin (fs := fs) (fn := p__law_ratio.fn) rfl rfl
theorem u__law_plus (k : Nat) (d0 d1 : D) (μ : Store) : Py.run fs Γ (k + 1) f__law_plus [d0, d1] μ = fin (exs (Py.run fs Γ k) Γ b__law_plus [some (.val d0), some (.val d1)] μ) := run_fin (fs := fs) (fn := p__law_plus.fn) rfl rfl
theorem u__law_mult (k : Nat) (d0 d1 : D) (μ : Store) : Py.run fs Γ (k + 1) f__law_mult [d0, d1] μ = fin (exs (Py.run fs Γ k) Γ b__law_mult [some (.val d0), some (.val d1)] μ) := run_fin (fs := fs) (fn := p__law_mult.fn) rfl rfl
theorem u__law_minus (k : Nat) (d0 d1 : D) (μ : Store) : Py.run fs Γ (k + 1) f__law_minus [d0, d1] μ = fin (exs (Py.run fs Γ k) Γ b__law_minus [some (.val d0), some (.val d1)] μ) := run_fin (fs := fs) (fn := p__law_minus.fn) rfl rfl
theorem u__law_pick (k : Nat) (d0 d1 : D) (μ : Store) : Py.run fs Γ (k + 1) f__law_pick [d0, d1] μ = fin (exs (Py.run fs Γ k) Γ b__law_pick [some (.val d0), some (.val d1)] μ) := run_fin (fs := fs) (fn := p__law_pick.fn) rfl rfl
theorem u__law_line (k : Nat) (d0 d1 d2 d3 : D) (μ : Store) : Py.run fs Γ (k + 1) f__law_line [d0, d1, d2, d3] μ = fin (exs (Py.run fs Γ k) Γ b__law_line [some (.val d0), some (.val d1), some (.val d2), some (.val d3), none, none, none] μ) := run_fin (fs := fs) (fn := p__law_line.fn) rfl rfl
theorem u__law_floor (k : Nat) (d0 d1 : D) (μ : Store) : Py.run fs Γ (k + 1) f__law_floor [d0, d1] μ = fin (exs (Py.run fs Γ k) Γ b__law_floor [some (.val d0), some (.val d1), none] μ) := run_fin (fs := fs) (fn := p__law_floor.fn) rfl rfl
theorem u__law_ceil (k : Nat) (d0 d1 : D) (μ : Store) : Py.run fs Γ (k + 1) f__law_ceil [d0, d1] μ = fin (exs (Py.run fs Γ k) Γ b__law_ceil [some (.val d0), some (.val d1)] μ) := run_fin (fs := fs) (fn := p__law_ceil.fn) rfl rfl
theorem u__law_not_above (k : Nat) (d0 d1 : D) (μ : Store) : Py.run fs Γ (k + 1) f__law_not_above [d0, d1] μ = fin (exs (Py.run fs Γ k) Γ b__law_not_above [some (.val d0), some (.val d1)] μ) := run_fin (fs := fs) (fn := p__law_not_above.fn) rfl rfl
theorem u__law_plant_of (k : Nat) (d0 : D) (μ : Store) : Py.run fs Γ (k + 1) f__law_plant_of [d0] μ = fin (exs (Py.run fs Γ k) Γ b__law_plant_of [some (.val d0), none, none, none, none, none, none, none, none, none, none, none, none, none, none, none, none, none, none, none] μ) := run_fin (fs := fs) (fn := p__law_plant_of.fn) rfl rfl
theorem u__law_edge (k : Nat) (d0 : D) (μ : Store) : Py.run fs Γ (k + 1) f__law_edge [d0] μ = fin (exs (Py.run fs Γ k) Γ b__law_edge [some (.val d0), none] μ) := run_fin (fs := fs) (fn := p__law_edge.fn) rfl rfl
theorem u__law_reads (k : Nat) (d0 d1 : D) (μ : Store) : Py.run fs Γ (k + 1) f__law_reads [d0, d1] μ = fin (exs (Py.run fs Γ k) Γ b__law_reads [some (.val d0), some (.val d1), none] μ) := run_fin (fs := fs) (fn := p__law_reads.fn) rfl rfl
theorem u__law_between (k : Nat) (d0 d1 d2 : D) (μ : Store) : Py.run fs Γ (k + 1) f__law_between [d0, d1, d2] μ = fin (exs (Py.run fs Γ k) Γ b__law_between [some (.val d0), some (.val d1), some (.val d2), none, none] μ) := run_fin (fs := fs) (fn := p__law_between.fn) rfl rfl
theorem u__law_inside (k : Nat) (d0 d1 d2 : D) (μ : Store) : Py.run fs Γ (k + 1) f__law_inside [d0, d1, d2] μ = fin (exs (Py.run fs Γ k) Γ b__law_inside [some (.val d0), some (.val d1), some (.val d2)] μ) := run_fin (fs := fs) (fn := p__law_inside.fn) rfl rfl
theorem u__law_unit (k : Nat) (d0 : D) (μ : Store) : Py.run fs Γ (k + 1) f__law_unit [d0] μ = fin (exs (Py.run fs Γ k) Γ b__law_unit [some (.val d0)] μ) := run_fin (fs := fs) (fn := p__law_unit.fn) rfl rfl
theorem u__law_whole (k : Nat) (d0 d1 : D) (μ : Store) : Py.run fs Γ (k + 1) f__law_whole [d0, d1] μ = fin (exs (Py.run fs Γ k) Γ b__law_whole [some (.val d0), some (.val d1), none, none, none] μ) := run_fin (fs := fs) (fn := p__law_whole.fn) rfl rfl
theorem u__law_left (k : Nat) (d0 d1 : D) (μ : Store) : Py.run fs Γ (k + 1) f__law_left [d0, d1] μ = fin (exs (Py.run fs Γ k) Γ b__law_left [some (.val d0), some (.val d1), none, none] μ) := run_fin (fs := fs) (fn := p__law_left.fn) rfl rfl
theorem u_law (k : Nat) (d0 : D) (μ : Store) : Py.run fs Γ (k + 1) f_law [d0] μ = fin (exs (Py.run fs Γ k) Γ b_law [some (.val d0), none, none, none, none, none, none, none, none, none, none, none, none, none, none, none, none, none, none, none, none, none, none, none, none, none, none] μ) := run_fin (fs := fs) (fn := p_law.fn) rfl rfl
end P47
end
section
set_option Elab.async false
set_option linter.all false
set_option maxRecDepth 100000
namespace P47
open PySem L2 Py
theorem r_gcd {k : Nat} {μ : Store} (p q : Int) (h : 0 ≤ q) : Py.run fs Γ (k + 1) f_greatest_divisor [.int p, .int q] μ = some (.int (Int.gcd p q), μ) := by
  obtain ⟨r, h1, h2⟩ := gcd_loop (c := fun env' μ' => evT (Py.run fs Γ k) Γ (E.cmp .NotEq (E.slot 1) (E.int 0)) env' μ') (b := fun env' μ' => exs (Py.run fs Γ k) Γ l1_greatest_divisor env' μ') (μ := μ)
    (fun p q => by simp [getV]) (fun p q hq => by simp [l1_greatest_divisor, hq]) q.toNat p q h (Nat.le_refl _)
  rw [u_greatest_divisor, b_greatest_divisor]
  rw [exs_nx (by rw [ex]; exact h1)]
  simp [atI, ixN, SZ]
  omega
theorem r_ratio {k n : Nat} {μ : Store} (p q : Int) (h : q ≠ 0) (hq : q.natAbs < 2 ^ n) (hn : n ≤ 8999) : Py.run fs Γ (k + 2) f_ratio [.int p, .int q] μ = some (rD (Rat.divInt p q), μ) := by
  rw [u_ratio, b_ratio]
  by_cases h0 : q < 0
  · have hq' : (-q).natAbs < 2 ^ n := by omega
    have g := r_gcd (k := k) (μ := μ) (-p) (-q) (by omega)
    have hd := divOk_of (j := (Int.gcd (-p) (-q) : Int)) (b := n) (gcd_pos' (by omega)) (gcd_lt (by omega) hq') hn
    rw [← Rat.neg_divInt_neg, rD_divInt (by omega)]
    rw [Int.neg_gcd, Int.gcd_neg] at g hd ⊢
    simp [atI, ixN, SZ, h0, g, hd]
  · have g := r_gcd (k := k) (μ := μ) p q (by omega)
    have hd := divOk_of (j := (Int.gcd p q : Int)) (b := n) (gcd_pos' h) (gcd_lt h hq) hn
    rw [rD_divInt (by omega)]
    simp [atI, ixN, SZ, h0, g, hd]
theorem r_times {k a b : Nat} {μ : Store} (s t : Rat) (hs : Sz a s) (ht : Sz b t) (hn : a + b ≤ 8999) : Py.run fs Γ (k + 3) f_times [rD s, rD t] μ = some (rD (s * t), μ) := by
  have h1 := mulOk_of hs.1 ht.1 (by omega)
  have h2 := mulOk_of hs.den ht.den (by omega)
  have g := r_ratio (k := k) (μ := μ) (s.num * t.num) (s.den * t.den) (den_mul_ne s t) (abs_mul_lt hs.den ht.den) hn
  rw [mul_divInt] at g
  rw [u_times, b_times]
  unfold rD at g ⊢
  simp [atI, ixN, SZ, h1, h2, g]
theorem r_over {k a b : Nat} {μ : Store} (s t : Rat) (h0 : t ≠ 0) (hs : Sz a s) (ht : Sz b t) (hn : a + b ≤ 8999) : Py.run fs Γ (k + 3) f_over [rD s, rD t] μ = some (rD (s / t), μ) := by
  have h1 := mulOk_of hs.1 ht.den (by omega)
  have h2 := mulOk_of hs.den ht.1 (by omega)
  have g := r_ratio (k := k) (μ := μ) (s.num * t.den) (s.den * t.num) (Int.mul_ne_zero (den_ne s) (num_ne h0)) (abs_mul_lt hs.den ht.1) hn
  rw [div_divInt] at g
  rw [u_over, b_over]
  unfold rD at g ⊢
  simp [atI, ixN, SZ, h1, h2, g]
theorem r_down {k a b : Nat} {μ : Store} (s t : Rat) (h0 : t ≠ 0) (hs : Sz a s) (ht : Sz b t) (hn : a + b ≤ 8999) : Py.run fs Γ (k + 4) f_down [rD s, rD t] μ = some (.int (s / t).floor, μ) := by
  have g := r_over (k := k) (μ := μ) s t h0 hs ht hn
  have hd := divOk_of (j := ((s / t).den : Int)) (b := a + b) (by have := (s / t).den_pos; omega) (hs.div ht h0).den hn
  rw [u_down, b_down, Rat.floor_def]
  unfold rD at g ⊢
  simp [atI, ixN, SZ, hd, g]
theorem r_up {k a b : Nat} {μ : Store} (s t : Rat) (h0 : t ≠ 0) (hs : Sz a s) (ht : Sz b t) (hn : a + b ≤ 8999) : Py.run fs Γ (k + 4) f_up [rD s, rD t] μ = some (.int (s / t).ceil, μ) := by
  have g := r_over (k := k) (μ := μ) s t h0 hs ht hn
  have hd := divOk_of (j := ((s / t).den : Int)) (b := a + b) (by have := (s / t).den_pos; omega) (hs.div ht h0).den hn
  rw [u_up, b_up, Rat.ceil_eq_neg_floor_neg, Rat.floor_def, Rat.neg_num, Rat.neg_den]
  unfold rD at g ⊢
  simp [atI, ixN, SZ, hd, g]
end P47
end
section
set_option Elab.async false
set_option linter.all false
set_option maxRecDepth 100000
namespace P47
open PySem L2 Py
/-! ### the deal -/
def RowOk (ns : List Int) : Prop := ∀ x ∈ ns, 0 ≤ x ∧ x < 1009
theorem RowOk.nil : RowOk [] := fun _ h => by cases h
theorem RowOk.app {ns : List Int} {x : Int} (h : RowOk ns) (h0 : 0 ≤ x) (h1 : x < 1009) : RowOk (ns ++ [x]) := fun y hy => by
  rcases List.mem_append.mp hy with hy | hy
  · exact h y hy
  · have : y = x := by simpa using hy
    subst this; exact ⟨h0, h1⟩
theorem fmod_lt (a b : Int) (h : 0 < b) : 0 ≤ a.fmod b ∧ a.fmod b < b := by
  rw [Int.fmod_eq_emod_of_nonneg a (Int.le_of_lt h)]
  exact ⟨Int.emod_nonneg a (by omega), Int.emod_lt_of_pos a h⟩
theorem d1009 : divOk 1009 = true := by decide +kernel
theorem d7 : divOk 7 = true := by decide +kernel
theorem d3 : divOk 3 = true := by decide +kernel
theorem lt_pow64 {i : Int} (h : i < 18446744073709551616) (h0 : -18446744073709551616 < i) : i.natAbs < 2 ^ 64 := by
  have : (2 : Nat) ^ 64 = 18446744073709551616 := by decide
  omega
theorem mul64 {i j : Int} (h1 : i < 18446744073709551616 ∧ -18446744073709551616 < i) (h2 : j < 18446744073709551616 ∧ -18446744073709551616 < j) : mulOk i j = true := mulOk_of (lt_pow64 h1.1 h1.2) (lt_pow64 h2.1 h2.2)
theorem rangeD_get {lo : Int} {n i : Nat} {d : D} (h : (rangeD lo n)[i]? = some d) : d = .int (lo + i) ∧ i < n := by
  unfold rangeD at h
  rw [List.getElem?_map] at h
  obtain ⟨j, h1, h2⟩ := Option.map_eq_some_iff.mp h
  obtain ⟨h3, h4⟩ := List.getElem?_eq_some_iff.mp h1
  rw [List.getElem_range] at h4
  subst h4
  exact ⟨h2.symm, by simpa using h3⟩
theorem rangeD_len {lo : Int} {n : Nat} : (rangeD lo n).length = n := by unfold rangeD; simp
theorem rngS_0 {n : Nat} (h : n ≤ 16777216) : rngS 0 (n : Int) = some (rangeD 0 n) := by
  unfold rngS
  rw [if_pos]
  · simp
  · simp [SZ]; omega
section
variable {Φ : FnS} {μ : Store}
theorem deal_l1 (s kd : D) (ns : List Int) (cell : Int) (x y : Option SV) (h0 : 0 ≤ cell) (hr : RowOk ns) (hl : ns.length ≤ 4000) :
    ∃ ns' cell' x', forS (T.nm 4) (fun env' μ' => exs Φ Γ l1__law_deal env' μ') (rangeD 0 40) [some (.val s), some (.own (ns.map D.int)), some (.val kd), some (.val (.int cell)), x, y] μ =
      some (.nx [some (.val s), some (.own (ns'.map D.int)), some (.val kd), some (.val (.int cell')), x', y] μ) ∧ RowOk ns' ∧ ns'.length ≤ ns.length + 40 := by
  obtain ⟨env', μ', h1, ns', cell', x', rfl, rfl, h2, h3, h4⟩ := forS_inv (t := T.nm 4) (b := fun env' μ' => exs Φ Γ l1__law_deal env' μ') (ds := rangeD 0 40) (env := [some (.val s), some (.own (ns.map D.int)), some (.val kd), some (.val (.int cell)), x, y]) (μ := μ)
    (fun i env m => ∃ ns' cell' x', env = [some (.val s), some (.own (ns'.map D.int)), some (.val kd), some (.val (.int cell')), x', y] ∧ m = μ ∧ RowOk ns' ∧ 0 ≤ cell' ∧ ns'.length ≤ ns.length + i)
    ⟨ns, cell, x, rfl, rfl, hr, h0, Nat.le_refl _⟩ (by
      rintro i env m d hd ⟨ns', cell', x', rfl, rfl, h2, h3, h4⟩
      obtain ⟨rfl, hi⟩ := rangeD_get hd
      have hz : ns'.length < 16777216 := by omega
      refine ⟨[some (.val s), some (.own (ns'.map D.int)), some (.val kd), some (.val (.int cell')), some (.val (.int (0 + (i : Nat)))), y], ?_⟩
      by_cases hc : 0 < cell'
      · refine ⟨[some (.val s), some (.own ((ns' ++ [cell'.fmod 1009]).map D.int)), some (.val kd), some (.val (.int (cell' / 1009))), some (.val (.int (0 + (i : Nat)))), y], m, by simp, .inl ?_, ns' ++ [cell'.fmod 1009], cell' / 1009, _, rfl, rfl, ?_, ?_, ?_⟩
        · simp [l1__law_deal, hc, SZ, hz, d1009]
        · exact h2.app (fmod_lt _ _ (by decide)).1 (fmod_lt _ _ (by decide)).2
        · exact Int.ediv_nonneg h3 (by decide)
        · simp; omega
      · refine ⟨[some (.val s), some (.own (ns'.map D.int)), some (.val kd), some (.val (.int cell')), some (.val (.int (0 + (i : Nat)))), y], m, by simp, .inl ?_, ns', cell', _, rfl, rfl, h2, h3, by omega⟩
        simp [l1__law_deal, hc])
  rw [rangeD_len] at h4
  exact ⟨ns', cell', x', h1, h2, h4⟩
theorem deal_l2 (s kd : D) (ns : List Int) (cell : Int) (x y : Option SV) (h0 : 0 ≤ cell) (hc : cell < 2 ^ 50) (hr : RowOk ns) (hl : ns.length ≤ 4000) :
    ∃ ns' cell' x', forS (T.nm 4) (fun env' μ' => exs Φ Γ l2__law_deal env' μ') (rangeD 0 5) [some (.val s), some (.own (ns.map D.int)), some (.val kd), some (.val (.int cell)), x, y] μ =
      some (.nx [some (.val s), some (.own (ns'.map D.int)), some (.val kd), some (.val (.int cell')), x', y] μ) ∧ RowOk ns' ∧ ns'.length ≤ ns.length + 40 := by
  obtain ⟨env', μ', h1, ns', cell', x', rfl, rfl, h2, h3, h4⟩ := forS_inv (t := T.nm 4) (b := fun env' μ' => exs Φ Γ l2__law_deal env' μ') (ds := rangeD 0 5) (env := [some (.val s), some (.own (ns.map D.int)), some (.val kd), some (.val (.int cell)), x, y]) (μ := μ)
    (fun i env m => ∃ ns' cell' x', env = [some (.val s), some (.own (ns'.map D.int)), some (.val kd), some (.val (.int cell')), x', y] ∧ m = μ ∧ RowOk ns' ∧ (0 ≤ cell' ∧ cell' < 2 ^ 50) ∧ ns'.length ≤ ns.length + i)
    ⟨ns, cell, x, rfl, rfl, hr, ⟨h0, hc⟩, Nat.le_refl _⟩ (by
      rintro i env m d hd ⟨ns', cell', x', rfl, rfl, h2, h3, h4⟩
      obtain ⟨rfl, hi⟩ := rangeD_get hd
      have hz : ns'.length < 16777216 := by omega
      have hm : mulOk cell' 16807 = true := mul64 (by omega) (by omega)
      generalize hc' : (cell' * 16807 + 12345 + (0 + (i : Nat) : Int)).fmod 2147483647 = c
      have hcr := fmod_lt (cell' * 16807 + 12345 + (0 + (i : Nat) : Int)) 2147483647 (by decide)
      rw [hc'] at hcr
      refine ⟨[some (.val s), some (.own (ns'.map D.int)), some (.val kd), some (.val (.int cell')), some (.val (.int (0 + (i : Nat)))), y], ?_⟩
      refine ⟨[some (.val s), some (.own ((ns' ++ [(c / 7).fmod 1009]).map D.int)), some (.val kd), some (.val (.int c)), some (.val (.int (0 + (i : Nat)))), y], m, by simp, .inl ?_, ns' ++ [(c / 7).fmod 1009], c, _, rfl, rfl, ?_, ?_, ?_⟩
      · simp [l2__law_deal, hm, SZ, hz, d7, ← hc']
      · exact h2.app (fmod_lt _ _ (by decide)).1 (fmod_lt _ _ (by decide)).2
      · exact ⟨hcr.1, by omega⟩
      · simp; omega)
  rw [rangeD_len] at h4
  exact ⟨ns', cell', x', h1, h2, by omega⟩
theorem deal_l3 (ms : List Int) (n : Nat) (hn : n ≤ ms.length) (hm : n ≤ 63) (a b c e : Option SV) :
    ∃ ns a' b' c', forS (T.nm 2) (fun env' μ' => exs Φ Γ l3__law_deal env' μ') (rangeD 0 n) [some (.val (.scr (ms.map D.int))), some (.own []), a, b, c, e] μ =
      some (.nx [some (.val (.scr (ms.map D.int))), some (.own (ns.map D.int)), a', b', c', e] μ) ∧ RowOk ns ∧ ns.length ≤ 40 * n := by
  obtain ⟨env', μ', h1, ns', a', b', c', rfl, rfl, h2, h3⟩ := forS_inv (t := T.nm 2) (b := fun env' μ' => exs Φ Γ l3__law_deal env' μ') (ds := rangeD 0 n) (env := [some (.val (.scr (ms.map D.int))), some (.own []), a, b, c, e]) (μ := μ)
    (fun i env m => ∃ ns' a' b' c', env = [some (.val (.scr (ms.map D.int))), some (.own (ns'.map D.int)), a', b', c', e] ∧ m = μ ∧ RowOk ns' ∧ ns'.length ≤ 40 * i)
    ⟨[], a, b, c, rfl, rfl, RowOk.nil, Nat.le_refl _⟩ (by
      rintro i env m d hd ⟨ns', a', b', c', rfl, rfl, h2, h3⟩
      obtain ⟨rfl, hi⟩ := rangeD_get hd
      have hlt : i < ms.length := by omega
      have hat : atI (ms.map D.int) (i : Int) = some (.int ms[i]) := by
        rw [atI_of (by simpa using hlt)]
        simp
      generalize hcell : (if ms[i] < 0 then -ms[i] else ms[i]) = cell
      have hc0 : 0 ≤ cell := by subst hcell; split <;> omega
      have hpow : (10 : Int) ^ (18 : Int).toNat = 1000000000000000000 := by decide
      by_cases hbig : (1000000000000000000 : Int) ≤ cell
      · obtain ⟨ns2, cell2, x2, g1, g2, g3⟩ := deal_l1 (Φ := Φ) (μ := m) (.scr (ms.map D.int)) (.int (0 + (i : Nat))) ns' cell c' e hc0 h2 (by omega)
        refine ⟨[some (.val (.scr (ms.map D.int))), some (.own (ns'.map D.int)), some (.val (.int (0 + (i : Nat)))), b', c', e], [some (.val (.scr (ms.map D.int))), some (.own (ns2.map D.int)), some (.val (.int (0 + (i : Nat)))), some (.val (.int cell2)), x2, e], m, by simp, .inl ?_, ns2, _, _, x2, rfl, rfl, g2, by omega⟩
        · simp only [l3__law_deal]
          simp [hat, hcell, binS, hbig, ex_for]
          rw [show rngS 0 40 = some (rangeD 0 40) from rngS_0 (n := 40) (by decide)]
          simp only [Int.zero_add] at g1
          simp [g1]
      · generalize hc2 : cell.fmod 2147483629 * 48271 + (i : Int) * 69621 + 11 = c2
        have hr1 := fmod_lt cell 2147483629 (by decide)
        have hm1 : mulOk (cell.fmod 2147483629) 48271 = true := mul64 (by omega) (by omega)
        have hm2 : mulOk (i : Int) 69621 = true := mul64 (by omega) (by omega)
        obtain ⟨ns2, cell2, x2, g1, g2, g3⟩ := deal_l2 (Φ := Φ) (μ := m) (.scr (ms.map D.int)) (.int (0 + (i : Nat))) ns' c2 c' e (by omega) (by omega) h2 (by omega)
        refine ⟨[some (.val (.scr (ms.map D.int))), some (.own (ns'.map D.int)), some (.val (.int (0 + (i : Nat)))), b', c', e], [some (.val (.scr (ms.map D.int))), some (.own (ns2.map D.int)), some (.val (.int (0 + (i : Nat)))), some (.val (.int cell2)), x2, e], m, by simp, .inl ?_, ns2, _, _, x2, rfl, rfl, g2, by omega⟩
        · simp only [l3__law_deal]
          simp [hat, hcell, binS, hbig, ex_for, hm1, hm2, hc2]
          rw [show rngS 0 5 = some (rangeD 0 5) from rngS_0 (n := 5) (by decide)]
          simp only [Int.zero_add] at g1
          simp [g1])
  rw [rangeD_len] at h3
  exact ⟨ns', a', b', c', h1, h2, h3⟩
end
end P47
end
section
set_option Elab.async false
set_option linter.all false
set_option maxRecDepth 100000
namespace P47
open PySem L2 Py
theorem asInts_map (ns : List Int) : asInts (ns.map D.int) = some ns := by
  induction ns with
  | nil => rfl
  | cons x xs ih => simp [asInts, ih]
theorem RowOk.sum {ns : List Int} (h : RowOk ns) : 0 ≤ ns.sum ∧ ns.sum ≤ 1009 * ns.length := by
  induction ns with
  | nil => simp
  | cons x xs ih =>
    have h1 := h x (by simp)
    have h2 := ih (fun y hy => h y (by simp [hy]))
    simp only [List.sum_cons, List.length_cons]
    omega
/-- a deal -/
def dealD (ns : List Int) (t : Int) : D := .lst [.lst (ns.map D.int), .mr 0, .int t]
def DealOk (ns : List Int) (t : Int) : Prop := RowOk ns ∧ ns.length ≤ 4000 ∧ 0 ≤ t ∧ t ≤ 10000000
theorem r_deal {k : Nat} (ms : List Int) (hm : ms.length ≤ 63) : ∃ ns t, DealOk ns t ∧ Py.run fs Γ (k + 1) f__law_deal [.scr (ms.map D.int)] [] = some (dealD ns t, [[.int 0]]) := by
  obtain ⟨ns, a', b', c', h1, h2, h3⟩ := deal_l3 (Φ := Py.run fs Γ k) (μ := []) ms ms.length (Nat.le_refl _) hm none none none none
  have hs := h2.sum
  refine ⟨ns, ns.sum + ms.length, ⟨h2, by omega, by omega, by omega⟩, ?_⟩
  rw [u__law_deal, b__law_deal]
  have hr := rngS_0 (n := ms.length) (by omega)
  have hmin : ¬ (63 : Int) < ms.length := by omega
  simp -implicitDefEqProofs [ex_for, szle, hmin, hr, h1, asInts_map, dealD]
def St (a : Nat) : Store := [[.int (a : Int)]]
theorem r_take {k a : Nat} (ns : List Int) (t m : Int) (h : DealOk ns t) (hm : 0 < m) (ha : a < 100000) : ∃ r : Int, 0 ≤ r ∧ r < m ∧ Py.run fs Γ (k + 1) f__law_take [dealD ns t, .int m] (St a) = some (.int r, St (a + 1)) := by
  rw [u__law_take, b__law_take]
  obtain ⟨h1, h2, h3, h4⟩ := h
  unfold dealD St
  have hm' : m ≠ 0 := by omega
  by_cases hlt : a < ns.length
  · refine ⟨ns[a].fmod m, (fmod_lt _ _ hm).1, (fmod_lt _ _ hm).2, ?_⟩
    simp -implicitDefEqProofs [atI, ixN, hlt, hm']
  · have m1 : mulOk (a : Int) 7919 = true := mul64 (by omega) (by omega)
    have m2 : mulOk t 31 = true := mul64 (by omega) (by omega)
    have m3 : mulOk (a : Int) a = true := mul64 (by omega) (by omega)
    have hsq : ((a : Int) * a) ≤ 100000 * 100000 := Int.mul_le_mul (by omega) (by omega) (by omega) (by omega)
    have hsq0 : 0 ≤ ((a : Int) * a) := Int.mul_nonneg (by omega) (by omega)
    have m4 : mulOk ((a : Int) * a) 17 = true := mul64 (by omega) (by omega)
    refine ⟨((((a : Int) * 7919 + t * 31 + (a : Int) * a * 17) / 3)).fmod m, (fmod_lt _ _ hm).1, (fmod_lt _ _ hm).2, ?_⟩
    simp -implicitDefEqProofs [atI, ixN, hlt, hm', m1, m2, m3, m4, d3]
/-! ratios reckoned by Euclid in so many turns -/
theorem half {a b : Int} (ha : 0 < a) (hab : a ≤ b) : b % a * 2 < b := by
  have h1 := Int.emod_lt_of_pos b ha
  have h2 := Int.emod_add_mul_ediv b a
  have h3 : 1 ≤ b / a := by
    have := Int.ediv_le_ediv ha hab
    rwa [Int.ediv_self (by omega)] at this
  have h4 : a * 1 ≤ a * (b / a) := Int.mul_le_mul_of_nonneg_left h3 (by omega)
  omega
theorem ratio_loop {Φ : FnS} {μ : Store} (p q : D) : ∀ (n : Nat) (ds : List D) (a b : Int) (x : Option SV), 0 ≤ a → a ≤ b → 0 < b → a * b < 2 ^ n → n < ds.length →
    ∃ x', forS (T.nm 4) (fun env' μ' => exs Φ Γ l1__law_ratio env' μ') ds [some (.val p), some (.val q), some (.val (.int a)), some (.val (.int b)), x] μ =
      some (.nx [some (.val p), some (.val q), some (.val (.int 0)), some (.val (.int (Int.gcd a b))), x'] μ)
  | n, [], _, _, _, _, _, _, _, h => by simp at h
  | n, d :: ds, a, b, x, h0, hab, hb, hp, hl => by
    by_cases ha : a = 0
    · subst ha
      refine ⟨some (.val d), ?_⟩
      rw [forS_bk (env1 := [some (.val p), some (.val q), some (.val (.int 0)), some (.val (.int b)), some (.val d)]) (env' := [some (.val p), some (.val q), some (.val (.int 0)), some (.val (.int b)), some (.val d)]) (μ' := μ) (by simp) (by simp -implicitDefEqProofs [l1__law_ratio])]
      simp; omega
    · have hpos : 0 < a := by omega
      match n, hp, hl with
      | 0, hp, hl =>
        have : 1 * 1 ≤ a * b := Int.mul_le_mul (by omega) (by omega) (by omega) (by omega)
        simp at hp; omega
      | n + 1, hp, hl =>
        have e : b.fmod a = b % a := Int.fmod_eq_emod_of_nonneg b h0
        have h1 := half hpos hab
        have h2 := Int.emod_lt_of_pos b hpos
        have h3 := Int.emod_nonneg b ha
        have h4 : (b % a * 2) * a < b * a := Int.mul_lt_mul_of_pos_right h1 hpos
        have h5 : b % a * a < 2 ^ n := by
          rw [Int.pow_succ] at hp
          have : a * b = b * a := Int.mul_comm a b
          have : b % a * 2 * a = b % a * a * 2 := by rw [Int.mul_assoc, Int.mul_comm 2 a, Int.mul_assoc]
          omega
        obtain ⟨x', hx⟩ := ratio_loop (Φ := Φ) (μ := μ) p q n ds (b % a) a (some (.val d)) h3 (by omega) hpos h5 (by simpa using hl)
        refine ⟨x', ?_⟩
        rw [forS_go (env1 := [some (.val p), some (.val q), some (.val (.int a)), some (.val (.int b)), some (.val d)]) (env' := [some (.val p), some (.val q), some (.val (.int (b % a))), some (.val (.int a)), some (.val d)]) (μ' := μ) (by simp) (by simp -implicitDefEqProofs [l1__law_ratio, ha, e]), hx]
        have := gcd_fmod b a hpos
        rw [e] at this
        rw [Int.gcd_comm (b % a) a, this, Int.gcd_comm b a]
theorem ratio_loop' {Φ : FnS} {μ : Store} (p q : D) (n : Nat) (ds : List D) (a b : Int) (x : Option SV) (h0 : 0 ≤ a) (hb : 0 < b) (hp : a * b < 2 ^ n) (hl : n + 1 < ds.length) :
    ∃ x', forS (T.nm 4) (fun env' μ' => exs Φ Γ l1__law_ratio env' μ') ds [some (.val p), some (.val q), some (.val (.int a)), some (.val (.int b)), x] μ =
      some (.nx [some (.val p), some (.val q), some (.val (.int 0)), some (.val (.int (Int.gcd a b))), x'] μ) := by
  by_cases h : a ≤ b
  · exact ratio_loop p q n ds a b x h0 h hb hp (by omega)
  · match ds, hl with
    | d :: ds, hl =>
      have hpos : 0 < a := by omega
      have ha : a ≠ 0 := by omega
      have e : b.fmod a = b := by rw [Int.fmod_eq_emod_of_nonneg b h0]; exact Int.emod_eq_of_lt (by omega) (by omega)
      obtain ⟨x', hx⟩ := ratio_loop (Φ := Φ) (μ := μ) p q n ds b a (some (.val d)) (by omega) (by omega) hpos (by rw [Int.mul_comm]; exact hp) (by simpa using hl)
      refine ⟨x', ?_⟩
      rw [forS_go (env1 := [some (.val p), some (.val q), some (.val (.int a)), some (.val (.int b)), some (.val d)]) (env' := [some (.val p), some (.val q), some (.val (.int b)), some (.val (.int a)), some (.val d)]) (μ' := μ) (by simp) (by simp -implicitDefEqProofs [l1__law_ratio, ha, e]), hx]
      rw [Int.gcd_comm b a]
theorem prod_lt {a b : Int} {n : Nat} (ha : a.natAbs < 2 ^ n) (hb : b.natAbs < 2 ^ n) (h0 : 0 ≤ a) (h1 : 0 ≤ b) : a * b < 2 ^ (n + n) := by
  have h := abs_mul_lt ha hb
  have h2 : 0 ≤ a * b := Int.mul_nonneg h0 h1
  have h3 : ((2 ^ (n + n) : Nat) : Int) = 2 ^ (n + n) := by simp
  omega
theorem r_lratio {k n : Nat} {μ : Store} (p q : Int) (h : q ≠ 0) (hp : p.natAbs < 2 ^ n) (hq : q.natAbs < 2 ^ n) (hn : n ≤ 8999) : Py.run fs Γ (k + 1) f__law_ratio [.int p, .int q] μ = some (rD (Rat.divInt p q), μ) := by
  rw [u__law_ratio, b__law_ratio]
  have hr : rngS 0 (100000 : Int) = some (rangeD 0 100000) := rngS_0 (n := 100000) (by decide)
  have hrl : (rangeD 0 100000).length = 100000 := rangeD_len
  generalize rangeD 0 100000 = ds at hr hrl
  have hab : ∀ p : Int, (if p < 0 then -p else p).natAbs = p.natAbs := fun p => by split <;> omega
  have hge : ∀ p : Int, 0 ≤ (if p < 0 then -p else p) := fun p => by split <;> omega
  have hgc : ∀ p q : Int, Int.gcd (if p < 0 then -p else p) q = Int.gcd p q := fun p q => by split <;> simp
  by_cases h0 : q < 0
  · have hq' : (-q).natAbs < 2 ^ n := by omega
    have hp' : (-p).natAbs < 2 ^ n := by omega
    have hd := divOk_of (j := (Int.gcd (-p) (-q) : Int)) (b := n) (gcd_pos' (by omega)) (gcd_lt (by omega) hq') hn
    obtain ⟨x', hx⟩ := ratio_loop' (Φ := Py.run fs Γ k) (μ := μ) (.int (-p)) (.int (-q)) (n + n) ds (if -p < 0 then - -p else -p) (-q) none (hge _) (by omega) (prod_lt (by rw [hab]; exact hp') hq' (hge _) (by omega)) (by omega)
    rw [hgc] at hx
    have e : (if -p < 0 then - -p else -p) = if 0 < p then p else -p := by split <;> split <;> omega
    rw [e] at hx
    rw [← Rat.neg_divInt_neg, rD_divInt (by omega)]
    generalize (Int.gcd (-p) (-q) : Int) = g at *
    simp -implicitDefEqProofs [ex_for, h0, hr, hx, hd, szle]
  · have hd := divOk_of (j := (Int.gcd p q : Int)) (b := n) (gcd_pos' h) (gcd_lt h hq) hn
    obtain ⟨x', hx⟩ := ratio_loop' (Φ := Py.run fs Γ k) (μ := μ) (.int p) (.int q) (n + n) ds (if p < 0 then -p else p) q none (hge _) (by omega) (prod_lt (by rw [hab]; exact hp) hq (hge _) (by omega)) (by omega)
    rw [hgc] at hx
    rw [rD_divInt (by omega)]
    generalize (Int.gcd p q : Int) = g at *
    simp -implicitDefEqProofs [ex_for, h0, hr, hx, hd, szle]
theorem r_lplus {k a b n : Nat} {μ : Store} (s t : Rat) (hs : Sz a s) (ht : Sz b t) (hab : a + b + 1 ≤ n) (hn : n ≤ 8999) : Py.run fs Γ (k + 2) f__law_plus [rD s, rD t] μ = some (rD (s + t), μ) := by
  have h1 := mulOk_of hs.1 ht.den (by omega)
  have h2 := mulOk_of ht.1 hs.den (by omega)
  have h3 := mulOk_of hs.den ht.den (by omega)
  have g := r_lratio (k := k) (n := a + b + 1) (μ := μ) (s.num * t.den + t.num * s.den) (s.den * t.den) (den_mul_ne s t) (abs_add_lt (abs_mul_lt hs.1 ht.den) (by rw [Nat.add_comm]; exact abs_mul_lt ht.1 hs.den)) (Nat.lt_of_lt_of_le (abs_mul_lt hs.den ht.den) (Nat.pow_le_pow_right (by decide) (by omega))) (by omega)
  rw [add_divInt] at g
  rw [u__law_plus, b__law_plus]
  unfold rD at g ⊢
  simp -implicitDefEqProofs [atI, ixN, szle, h1, h2, h3, g]
theorem r_lmult {k a b n : Nat} {μ : Store} (s t : Rat) (hs : Sz a s) (ht : Sz b t) (hab : a + b ≤ n) (hn : n ≤ 8999) : Py.run fs Γ (k + 2) f__law_mult [rD s, rD t] μ = some (rD (s * t), μ) := by
  have h1 := mulOk_of hs.1 ht.1 (by omega)
  have h2 := mulOk_of hs.den ht.den (by omega)
  have g := r_lratio (k := k) (n := a + b) (μ := μ) (s.num * t.num) (s.den * t.den) (den_mul_ne s t) (abs_mul_lt hs.1 ht.1) (abs_mul_lt hs.den ht.den) (by omega)
  rw [mul_divInt] at g
  rw [u__law_mult, b__law_mult]
  unfold rD at g ⊢
  simp -implicitDefEqProofs [atI, ixN, szle, h1, h2, g]
theorem rD_neg (t : Rat) : rD (-t) = .tup [.int (-t.num), .int t.den] := by
  unfold rD; rw [Rat.neg_num, Rat.neg_den]
theorem r_lminus {k a b n : Nat} {μ : Store} (s t : Rat) (hs : Sz a s) (ht : Sz b t) (hab : a + b + 1 ≤ n) (hn : n ≤ 8999) : Py.run fs Γ (k + 3) f__law_minus [rD s, rD t] μ = some (rD (s - t), μ) := by
  have g := r_lplus (k := k) (n := n) (μ := μ) s (-t) hs ht.neg hab hn
  rw [← Rat.sub_eq_add_neg, rD_neg] at g
  rw [u__law_minus, b__law_minus]
  have e : rD t = .tup [.int t.num, .int t.den] := rfl
  rw [e]
  simp -implicitDefEqProofs [atI, ixN, szle, g]
theorem r_lfloor {k a b n : Nat} {μ : Store} (s t : Rat) (h0 : t ≠ 0) (hs : Sz a s) (ht : Sz b t) (hab : a + b ≤ n) (hn : n ≤ 8999) : Py.run fs Γ (k + 2) f__law_floor [rD s, rD t] μ = some (.int (s / t).floor, μ) := by
  have h1 := mulOk_of hs.1 ht.den (by omega)
  have h2 := mulOk_of hs.den ht.1 (by omega)
  have g := r_lratio (k := k) (n := a + b) (μ := μ) (s.num * t.den) (s.den * t.num) (Int.mul_ne_zero (den_ne s) (num_ne h0)) (abs_mul_lt hs.1 ht.den) (abs_mul_lt hs.den ht.1) (by omega)
  have hd := divOk_of (j := ((s / t).den : Int)) (b := a + b) (by have := (s / t).den_pos; omega) (hs.div ht h0).den (by omega)
  rw [div_divInt] at g
  rw [u__law_floor, b__law_floor, Rat.floor_def]
  unfold rD at g ⊢
  simp -implicitDefEqProofs [atI, ixN, szle, h1, h2, g, hd]
theorem r_lceil {k a b n : Nat} {μ : Store} (s t : Rat) (h0 : t ≠ 0) (hs : Sz a s) (ht : Sz b t) (hab : a + b ≤ n) (hn : n ≤ 8999) : Py.run fs Γ (k + 3) f__law_ceil [rD s, rD t] μ = some (.int (s / t).ceil, μ) := by
  have g := r_lfloor (k := k) (n := n) (μ := μ) (-s) t h0 hs.neg ht hab hn
  rw [rD_neg] at g
  rw [u__law_ceil, b__law_ceil, Rat.ceil_eq_neg_floor_neg]
  have e : rD s = .tup [.int s.num, .int s.den] := rfl
  have e2 : -(s / t) = -s / t := by rw [Rat.div_def, Rat.div_def, Rat.neg_mul]
  rw [e, e2]
  simp -implicitDefEqProofs [atI, ixN, szle, g]
theorem r_lle {k a b n : Nat} {μ : Store} (s t : Rat) (hs : Sz a s) (ht : Sz b t) (hab : a + b ≤ n) (hn : n ≤ 8999) : Py.run fs Γ (k + 1) f__law_not_above [rD s, rD t] μ = some (.bl (decide (s ≤ t)), μ) := by
  have h1 := mulOk_of hs.1 ht.den (by omega)
  have h2 := mulOk_of ht.1 hs.den (by omega)
  rw [u__law_not_above, b__law_not_above]
  unfold rD
  simp -implicitDefEqProofs [atI, ixN, szle, h1, h2]
  rw [Rat.le_iff]
theorem r_linside {k a b n : Nat} {μ : Store} (x d : Rat) (lo hi : Int) (hx : Sz a x) (hd : Sz b d) (hlo : Sz b (lo : Rat)) (hhi : Sz b (hi : Rat)) (hab : a + (b + b) ≤ n) (hn : n ≤ 8999) :
    Py.run fs Γ (k + 3) f__law_inside [rD x, rD d, .tup [.int lo, .int hi]] μ = some (.bl (decide (d * lo ≤ x) && decide (x ≤ d * hi)), μ) := by
  have g1 := r_lmult (k := k) (n := n) (μ := μ) d (lo : Rat) hd hlo (by omega) hn
  have g2 := r_lmult (k := k) (n := n) (μ := μ) d (hi : Rat) hd hhi (by omega) hn
  have g3 := r_lle (k := k + 1) (n := n) (μ := μ) (d * lo) x (hd.mul hlo) hx (by omega) hn
  have g4 := r_lle (k := k + 1) (n := n) (μ := μ) x (d * hi) hx (hd.mul hhi) (by omega) hn
  rw [u__law_inside, b__law_inside]
  have e1 : rD (lo : Rat) = .tup [.int lo, .int 1] := rfl
  have e2 : rD (hi : Rat) = .tup [.int hi, .int 1] := rfl
  rw [e1] at g1
  rw [e2] at g2
  by_cases c : d * lo ≤ x
  · simp -implicitDefEqProofs [atI, ixN, szle, g1, g2, g3, g4, c]
  · simp -implicitDefEqProofs [atI, ixN, szle, g1, g2, g3, g4, c]
end P47
end
section
set_option Elab.async false
set_option linter.all false
set_option maxRecDepth 100000
namespace P47
open PySem L2 Py
/-! ### the same -/
def plain : Nat → D → Bool
  | _, .int _ => true | _, .bl _ => true | _, .non => true
  | n + 1, .tup ds => decide (ds.length ≤ 10000) && ds.all (plain n)
  | n + 1, .lst ds => decide (ds.length ≤ 10000) && ds.all (plain n)
  | _, _ => false
theorem same_l1 {Φ : FnS} {μ : Store} (D1 : D) (ds : List D) (hD : itsS μ D1 = some ds) (x : Option SV) (h : ∀ d ∈ ds, Φ 19 [d, d] μ = some (.bl true, μ)) :
    ∃ x', forS (T.nm 2) (fun env' μ' => exs Φ Γ l1__law_same env' μ') (rangeD 0 ds.length) [some (.val D1), some (.val D1), x] μ = some (.nx [some (.val D1), some (.val D1), x'] μ) := by
  obtain ⟨env', μ', h1, x', rfl, rfl⟩ := forS_inv (t := T.nm 2) (b := fun env' μ' => exs Φ Γ l1__law_same env' μ') (ds := rangeD 0 ds.length) (env := [some (.val D1), some (.val D1), x]) (μ := μ)
    (fun i env m => ∃ x', env = [some (.val D1), some (.val D1), x'] ∧ m = μ) ⟨x, rfl, rfl⟩ (by
      rintro i env m d hd ⟨x', rfl, rfl⟩
      obtain ⟨rfl, hi⟩ := rangeD_get hd
      have hat : atI ds (i : Int) = some ds[i] := atI_of hi
      have hs := h ds[i] (List.getElem_mem hi)
      refine ⟨[some (.val D1), some (.val D1), some (.val (.int (0 + (i : Nat))))], [some (.val D1), some (.val D1), some (.val (.int (0 + (i : Nat))))], m, by simp, .inl ?_, _, rfl, rfl⟩
      simp -implicitDefEqProofs [l1__law_same, hat, hs, hD])
  exact ⟨x', h1⟩
theorem r_same {μ : Store} : ∀ (n k : Nat) (d : D), plain n d = true → Py.run fs Γ (k + n + 1) f__law_same [d, d] μ = some (.bl true, μ)
  | n, k, .int i, _ => by
    rw [u__law_same, b__law_same]
    simp -implicitDefEqProofs
  | n, k, .bl i, _ => by
    rw [u__law_same, b__law_same]
    simp -implicitDefEqProofs
  | n, k, .non, _ => by
    rw [u__law_same, b__law_same]
    simp -implicitDefEqProofs
  | 0, _, .tup _, h => by simp [plain] at h
  | 0, _, .lst _, h => by simp [plain] at h
  | 0, _, .str _, h => by simp [plain] at h
  | _ + 1, _, .str _, h => by simp [plain] at h
  | 0, _, .mr _, h => by simp [plain] at h
  | _ + 1, _, .mr _, h => by simp [plain] at h
  | 0, _, .scr _, h => by simp [plain] at h
  | _ + 1, _, .scr _, h => by simp [plain] at h
  | n + 1, k, .tup ds, h => by
    rw [plain, Bool.and_eq_true, decide_eq_true_iff, List.all_eq_true] at h
    obtain ⟨x', hx⟩ := same_l1 (Φ := Py.run fs Γ (k + n + 1)) (μ := μ) (.tup ds) ds rfl none (fun d hd => r_same n k d (h.2 d hd))
    have hr := rngS_0 (n := ds.length) (by omega)
    rw [u__law_same, b__law_same]
    simp -implicitDefEqProofs [ex_for, hr, hx, ← Nat.add_assoc]
  | n + 1, k, .lst ds, h => by
    rw [plain, Bool.and_eq_true, decide_eq_true_iff, List.all_eq_true] at h
    obtain ⟨x', hx⟩ := same_l1 (Φ := Py.run fs Γ (k + n + 1)) (μ := μ) (.lst ds) ds rfl none (fun d hd => r_same n k d (h.2 d hd))
    have hr := rngS_0 (n := ds.length) (by omega)
    rw [u__law_same, b__law_same]
    simp -implicitDefEqProofs [ex_for, hr, hx, ← Nat.add_assoc]
theorem plain_rD {n : Nat} {r : Rat} : plain (n + 1) (rD r) = true := by simp [plain, rD]
end P47
end
section
set_option Elab.async false
set_option linter.all false
set_option maxRecDepth 100000
namespace P47
open PySem L2 Py
/-! ### the plant -/
theorem lcS_all {t : T} {c : Py.Env → Store → Option (Bool × Store)} {f : Py.Env → Store → Option (D × Store)} {env : Py.Env} {μ : Store} (Q : D → Prop) : ∀ (ds : List D), (∀ d ∈ ds, ∃ e d', asgT t d env = some e ∧ c e μ = some (true, μ) ∧ f e μ = some (d', μ) ∧ Q d') →
    ∃ ds', lcS t c f env ds μ = some (ds', μ) ∧ ds'.length = ds.length ∧ ∀ d ∈ ds', Q d
  | [], _ => ⟨[], rfl, rfl, fun _ h => by cases h⟩
  | d :: ds, h => by
    obtain ⟨e, d', h1, h2, h3, h4⟩ := h d (by simp)
    obtain ⟨ds', g1, g2, g3⟩ := lcS_all Q ds (fun x hx => h x (by simp [hx]))
    refine ⟨d' :: ds', ?_, by simp [g2], ?_⟩
    · rw [lcS_cons, h1]
      simp -implicitDefEqProofs only [Option.bind_some, h2, if_true, h3, g1, Option.map_some]
    · intro x hx
      rcases List.mem_cons.mp hx with rfl | hx
      · exact h4
      · exact g3 x hx
def boxRaw (p q p' q' : Int) : D := .tup [.tup [.tup [.int p, .int q], .tup [.int p', .int q']]]
def rowL (s l : Int) : List D := [boxRaw s 1 (s + l) 1, boxRaw (-s - l) 1 (-s) 1, boxRaw (-1 * l) 2 l 2]
def RowRaw (n : Nat) (d : D) : Prop := ∃ s l : Int, 2 ≤ s ∧ s ≤ 4 ∧ 0 ≤ l ∧ l ≤ 1 ∧ d = .tup (cutS (rowL s l) none (some (n : Int)))
section
variable {Φ : FnS} {k : Nat}
theorem rates_l1 (ns : List Int) (t : Int) (h : DealOk ns t) (x1 : Option SV) (cs ms : List D) (hm : ms.length ≤ 2) (y1 y2 y3 y4 y5 : Option SV) (rest : Py.Env) (a : Nat) (ha : a < 90000) :
    ∃ rs z1 z2 z3 z4 z5, forS (T.nm 4) (fun env' μ' => exs (Py.run fs Γ (k + 1)) Γ l1__law_plant_of env' μ') ms (some (.val (dealD ns t)) :: x1 :: some (.val (.tup cs)) :: some (.own []) :: y1 :: y2 :: y3 :: y4 :: y5 :: rest) (St a) =
      some (.nx (some (.val (dealD ns t)) :: x1 :: some (.val (.tup cs)) :: some (.own rs) :: z1 :: z2 :: z3 :: z4 :: z5 :: rest) (St (a + 2 * ms.length))) ∧ rs.length = ms.length ∧ ∀ r ∈ rs, RowRaw cs.length r := by
  obtain ⟨env', μ', h1, rs, z1, z2, z3, z4, z5, rfl, rfl, h2, h3⟩ := forS_inv (t := T.nm 4) (b := fun env' μ' => exs (Py.run fs Γ (k + 1)) Γ l1__law_plant_of env' μ') (ds := ms) (env := some (.val (dealD ns t)) :: x1 :: some (.val (.tup cs)) :: some (.own []) :: y1 :: y2 :: y3 :: y4 :: y5 :: rest) (μ := St a)
    (fun i env m => ∃ rs z1 z2 z3 z4 z5, env = some (.val (dealD ns t)) :: x1 :: some (.val (.tup cs)) :: some (.own rs) :: z1 :: z2 :: z3 :: z4 :: z5 :: rest ∧ m = St (a + 2 * i) ∧ rs.length = i ∧ ∀ r ∈ rs, RowRaw cs.length r)
    ⟨[], y1, y2, y3, y4, y5, rfl, rfl, rfl, fun _ h => by cases h⟩ (by
      rintro i env m d hd ⟨rs, z1, z2, z3, z4, z5, rfl, rfl, h2, h3⟩
      have hi : i < ms.length := (List.getElem?_eq_some_iff.mp hd).1
      obtain ⟨r1, b1, b2, e1⟩ := r_take (k := k) (a := a + 2 * i) ns t 3 h (by decide) (by omega)
      obtain ⟨r2, b3, b4, e2⟩ := r_take (k := k) (a := a + 2 * i + 1) ns t 2 h (by decide) (by omega)
      have m1 : mulOk (-1) r2 = true := mul64 (by omega) (by omega)
      refine ⟨_, some (.val (dealD ns t)) :: x1 :: some (.val (.tup cs)) :: some (.own (rs ++ [.tup (cutS (rowL (2 + r1) r2) none (some (cs.length : Int)))])) :: some (.val d) :: some (.val (.int (2 + r1))) :: some (.val (.int r2)) :: some (.val (boxRaw (2 + r1) 1 (2 + r1 + r2) 1)) :: some (.val (boxRaw (-(2 + r1) - r2) 1 (-(2 + r1)) 1)) :: rest, _, by simp; rfl, .inl ?_, _, _, _, _, _, _, rfl, rfl, ?_, ?_⟩
      · simp -implicitDefEqProofs [l1__law_plant_of, e1, e2, m1, szle, szlt, boxRaw, rowL, (show rs.length < 16777216 by omega)]
        rfl
      · simp [h2]
      · intro r hr
        rcases List.mem_append.mp hr with hr | hr
        · exact h3 r hr
        · rw [List.mem_singleton] at hr
          exact ⟨_, _, by omega, by omega, b3, by omega, hr⟩)
  exact ⟨rs, z1, z2, z3, z4, z5, h1, h2, h3⟩
theorem dle {p q p' q' : Int} (h0 : 0 < q) (h0' : 0 < q') (hle : p * q' ≤ p' * q) : Rat.divInt p q ≤ Rat.divInt p' q' := by
  rw [Rat.divInt_eq_div, Rat.divInt_eq_div]
  have h1 : (0 : Rat) < q := by exact_mod_cast h0
  have h2 : (0 : Rat) < q' := by exact_mod_cast h0'
  have h3 : (p : Rat) * q' ≤ p' * q := by exact_mod_cast hle
  have e1 : (p : Rat) / q * q = p := Rat.div_mul_cancel (by grind)
  have e2 : (p' : Rat) / q' * q' = p' := Rat.div_mul_cancel (by grind)
  generalize (p : Rat) / q = u at *
  generalize (p' : Rat) / q' = v at *
  rw [← e1, ← e2] at h3
  have h4 : (0 : Rat) < q * q' := Rat.mul_pos h1 h2
  refine Rat.not_lt.mp fun h => ?_
  have h5 := Rat.mul_lt_mul_of_pos_right h h4
  grind
def BoxOk (d : D) : Prop := ∃ lo hi : Rat, d = .tup [.tup [rD lo, rD hi]] ∧ lo ≤ hi ∧ Sz 4 lo ∧ Sz 4 hi
def RowGood (n : Nat) (d : D) : Prop := ∃ bs, d = .tup bs ∧ bs.length = n ∧ ∀ b ∈ bs, BoxOk b
theorem boxOk_divInt {p q p' q' : Int} (hp : p.natAbs < 16) (hq : q.natAbs < 16) (hp' : p'.natAbs < 16) (hq' : q'.natAbs < 16) (h0 : 0 < q) (h0' : 0 < q') (hle : p * q' ≤ p' * q) : BoxOk (.tup [.tup [rD (Rat.divInt p q), rD (Rat.divInt p' q')]]) :=
  ⟨_, _, rfl, dle h0 h0' hle, Sz.divInt hp hq (by omega), Sz.divInt hp' hq' (by omega)⟩
theorem rates_c3 (rs : List D) (n : Nat) (hn : n = 2 ∨ n = 3) (h : ∀ r ∈ rs, RowRaw n r) (hl : rs.length ≤ 2) (x0 x1 x2 : Option SV) (rest : Py.Env) (hr : 13 ≤ rest.length) (μ : Store) :
    ∃ rs', ev (Py.run fs Γ (k + 1)) Γ c3__law_plant_of (x0 :: x1 :: x2 :: some (.val (.lst rs)) :: rest) μ = some (.lst rs', μ) ∧ rs'.length = rs.length ∧ ∀ r ∈ rs', RowGood n r := by
  match rest, hr with
  | y4 :: y5 :: y6 :: y7 :: y8 :: y9 :: y10 :: y11 :: y12 :: rest, _ =>
  have lr : ∀ p q : Int, ∀ μ, q ≠ 0 → p.natAbs < 16 → q.natAbs < 16 → Py.run fs Γ (k + 1) 20 [.int p, .int q] μ = some (rD (Rat.divInt p q), μ) := fun p q μ h1 h2 h3 => r_lratio (n := 4) p q h1 h2 h3 (by decide)
  have key := lcS_all (t := T.nm 12) (c := fun env' μ' => evc (Py.run fs Γ (k + 1)) Γ Eo.none env' μ') (f := fun env' μ' => ev (Py.run fs Γ (k + 1)) Γ (E.bi .tuple c2__law_plant_of Es.nil) env' μ') (env := wipeE (x0 :: x1 :: x2 :: some (.val (.lst rs)) :: y4 :: y5 :: y6 :: y7 :: y8 :: y9 :: y10 :: y11 :: y12 :: rest) [12]) (μ := μ) (RowGood n) rs (fun d hd => by
    obtain ⟨s, l, s1, s2, l1, l2, rfl⟩ := h d hd
    have f1 := lr s 1 μ (by decide) (by omega) (by decide)
    have f2 := lr (s + l) 1 μ (by decide) (by omega) (by decide)
    have f3 := lr (-s - l) 1 μ (by decide) (by omega) (by decide)
    have f4 := lr (-s) 1 μ (by decide) (by omega) (by decide)
    have f5 := lr (-1 * l) 2 μ (by decide) (by omega) (by decide)
    have f6 := lr l 2 μ (by decide) (by omega) (by decide)
    have g1 : BoxOk (.tup [.tup [rD (Rat.divInt s 1), rD (Rat.divInt (s + l) 1)]]) := boxOk_divInt (by omega) (by decide) (by omega) (by decide) (by decide) (by decide) (by omega)
    have g2 : BoxOk (.tup [.tup [rD (Rat.divInt (-s - l) 1), rD (Rat.divInt (-s) 1)]]) := boxOk_divInt (by omega) (by decide) (by omega) (by decide) (by decide) (by decide) (by omega)
    have g3 : BoxOk (.tup [.tup [rD (Rat.divInt (-1 * l) 2), rD (Rat.divInt l 2)]]) := boxOk_divInt (by omega) (by decide) (by omega) (by decide) (by decide) (by decide) (by omega)
    have hc3 : cutS (rowL s l) none (some ((3 : Nat) : Int)) = [boxRaw s 1 (s + l) 1, boxRaw (-s - l) 1 (-s) 1, boxRaw (-1 * l) 2 l 2] := rfl
    have hc2 : cutS (rowL s l) none (some ((2 : Nat) : Int)) = [boxRaw s 1 (s + l) 1, boxRaw (-s - l) 1 (-s) 1] := rfl
    unfold boxRaw at hc3 hc2
    generalize -s - l = u1 at *
    generalize s + l = u2 at *
    generalize -s = u3 at *
    generalize -1 * l = u4 at *
    rcases hn with rfl | rfl
    · rw [hc2]
      refine ⟨_, .tup [.tup [.tup [rD (Rat.divInt s 1), rD (Rat.divInt u2 1)]], .tup [.tup [rD (Rat.divInt u1 1), rD (Rat.divInt u3 1)]]], by simp; rfl, by simp, ?_, _, rfl, rfl, ?_⟩
      · simp -implicitDefEqProofs [c2__law_plant_of, c1__law_plant_of, ev_lc, lcS_cons, atI, ixN, szle, f1, f2, f3, f4]
      · intro b hb
        simp only [List.mem_cons, List.not_mem_nil, or_false] at hb
        rcases hb with rfl | rfl
        · exact g1
        · exact g2
    · rw [hc3]
      refine ⟨_, .tup [.tup [.tup [rD (Rat.divInt s 1), rD (Rat.divInt u2 1)]], .tup [.tup [rD (Rat.divInt u1 1), rD (Rat.divInt u3 1)]], .tup [.tup [rD (Rat.divInt u4 2), rD (Rat.divInt l 2)]]], by simp; rfl, by simp, ?_, _, rfl, rfl, ?_⟩
      · simp -implicitDefEqProofs [c2__law_plant_of, c1__law_plant_of, ev_lc, lcS_cons, atI, ixN, szle, f1, f2, f3, f4, f5, f6]
      · intro b hb
        simp only [List.mem_cons, List.not_mem_nil, or_false] at hb
        rcases hb with rfl | rfl | rfl
        · exact g1
        · exact g2
        · exact g3)
  obtain ⟨rs', h1, h2, h3⟩ := key
  refine ⟨rs', ?_, h2, h3⟩
  have e : evI (Py.run fs Γ (k + 1)) Γ (I.seq (E.slot 3)) (x0 :: x1 :: x2 :: some (.val (.lst rs)) :: y4 :: y5 :: y6 :: y7 :: y8 :: y9 :: y10 :: y11 :: y12 :: rest) μ = some (rs, μ) := by simp -implicitDefEqProofs
  rw [c3__law_plant_of, ev_lc, e]
  simp -implicitDefEqProofs only [Option.bind_some, h1, Option.map_some]
  rw [if_pos (by unfold SZ; omega)]
theorem r_edge (ns : List Int) (t : Int) (h : DealOk ns t) (a : Nat) (ha : a < 90000) : ∃ d a', Py.run fs Γ (k + 2) f__law_edge [dealD ns t] (St a) = some (d, St a') ∧ a' ≤ a + 3 := by
  obtain ⟨r1, b1, b2, e1⟩ := r_take (k := k) (a := a) ns t 2 h (by decide) (by omega)
  obtain ⟨r2, b3, b4, e2⟩ := r_take (k := k) (a := a + 1) ns t 2 h (by decide) (by omega)
  obtain ⟨r3, b5, b6, e3⟩ := r_take (k := k) (a := a + 2) ns t 3 h (by decide) (by omega)
  rw [u__law_edge, b__law_edge]
  by_cases c : r1 = 0
  · refine ⟨.tup [], a + 1, ?_, by omega⟩
    simp -implicitDefEqProofs [e1, c, szle]
  · obtain rfl | rfl : r2 = 0 ∨ r2 = 1 := by omega
    · refine ⟨.tup [.tup [.tup [.tup [.int 1, .int 1]], .tup [.int (-r3), .int 1], .bl false]], a + 3, ?_, by omega⟩
      simp -implicitDefEqProofs [e1, c, szle, e2, e3, atI, ixN]
    · refine ⟨.tup [.tup [.tup [.tup [.int (-1), .int 1]], .tup [.int (-r3), .int 1], .bl false]], a + 3, ?_, by omega⟩
      simp -implicitDefEqProofs [e1, c, szle, e2, e3, atI, ixN]
theorem lplus_raw (n : Nat) (p q p' q' : Int) (h : q ≠ 0) (h' : q' ≠ 0) (b1 : p.natAbs < 2 ^ n) (b2 : q.natAbs < 2 ^ n) (b3 : p'.natAbs < 2 ^ n) (b4 : q'.natAbs < 2 ^ n) (hn : n ≤ 1000) (μ : Store) : ∃ r, Sz (n + n + 1) r ∧ Py.run fs Γ (k + 2) f__law_plus [.tup [.int p, .int q], .tup [.int p', .int q']] μ = some (rD r, μ) := by
  have h1 := mulOk_of b1 b4 (by omega)
  have h2 := mulOk_of b3 b2 (by omega)
  have h3 := mulOk_of b2 b4 (by omega)
  have c1 : (p * q' + p' * q).natAbs < 2 ^ (n + n + 1) := abs_add_lt (abs_mul_lt b1 b4) (abs_mul_lt b3 b2)
  have c2 : (q * q').natAbs < 2 ^ (n + n + 1) := Nat.lt_of_lt_of_le (abs_mul_lt b2 b4) (Nat.pow_le_pow_right (by decide) (by omega))
  have g := r_lratio (k := k) (n := n + n + 1) (μ := μ) (p * q' + p' * q) (q * q') (Int.mul_ne_zero h h') c1 c2 (by omega)
  refine ⟨Rat.divInt (p * q' + p' * q) (q * q'), Sz.divInt c1 c2 (Int.mul_ne_zero h h'), ?_⟩
  rw [u__law_plus, b__law_plus]
  simp -implicitDefEqProofs [atI, ixN, szle, h1, h2, h3, g]
theorem switch_l2 (ns : List Int) (t : Int) (h : DealOk ns t) (x1 x2 x3 x4 x5 x6 x7 x8 x9 x10 x11 x12 y14 y15 y16 x17 x18 x19 : Option SV) (m : Nat) (hm : m ≤ 2) (a : Nat) (ha : a < 80000) :
    ∃ sw y14' y15' y16' a', forS (T.nm 14) (fun env' μ' => exs (Py.run fs Γ (k + 3)) Γ l2__law_plant_of env' μ') (rangeD 0 m) [some (.val (dealD ns t)), x1, x2, x3, x4, x5, x6, x7, x8, x9, x10, x11, x12, some (.own []), y14, y15, y16, x17, x18, x19] (St a) =
      some (.nx [some (.val (dealD ns t)), x1, x2, x3, x4, x5, x6, x7, x8, x9, x10, x11, x12, some (.own sw), y14', y15', y16', x17, x18, x19] (St a')) ∧ a' ≤ a + 20 := by
  obtain ⟨env', μ', h1, sw, z14, z15, z16, a', rfl, rfl, h2, h3⟩ := forS_inv (t := T.nm 14) (b := fun env' μ' => exs (Py.run fs Γ (k + 3)) Γ l2__law_plant_of env' μ') (ds := rangeD 0 m) (env := [some (.val (dealD ns t)), x1, x2, x3, x4, x5, x6, x7, x8, x9, x10, x11, x12, some (.own []), y14, y15, y16, x17, x18, x19]) (μ := St a)
    (fun i env μ => ∃ sw z14 z15 z16 a', env = [some (.val (dealD ns t)), x1, x2, x3, x4, x5, x6, x7, x8, x9, x10, x11, x12, some (.own sw), z14, z15, z16, x17, x18, x19] ∧ μ = St a' ∧ sw.length = i ∧ a' ≤ a + 6 * i)
    ⟨[], y14, y15, y16, a, rfl, rfl, rfl, by omega⟩ (by
      rintro i env μ d hd ⟨sw, z14, z15, z16, a', rfl, rfl, h2, h3⟩
      obtain ⟨rfl, hi⟩ := rangeD_get hd
      obtain ⟨r1, b1, b2, e1⟩ := r_take (k := k + 2) (a := a') ns t 3 h (by decide) (by omega)
      obtain ⟨r2, b3, b4, e2⟩ := r_take (k := k + 2) (a := a' + 1) ns t 2 h (by decide) (by omega)
      obtain ⟨dE, aE, e3, b5⟩ := r_edge (k := k + 1) ns t h (a' + 2) (by omega)
      obtain ⟨r4, b6, b7, e4⟩ := r_take (k := k + 2) (a := aE) ns t 4 h (by decide) (by omega)
      have f1 := r_lratio (k := k + 2) (n := 4) (μ := St (a' + 1)) (r1 - 1) 2 (by decide) (by omega) (by decide) (by decide)
      have hz : Sz 4 (Rat.divInt (r1 - 1) 2) := Sz.divInt (by omega) (by decide) (by decide)
      generalize Rat.divInt (r1 - 1) 2 = kick at *
      obtain ⟨rp, hp1, hp2⟩ := lplus_raw (k := k + 1) 4 kick.num kick.den r2 2 (den_ne _) (by decide) hz.1 hz.den (by omega) (by decide) (by decide) (St (a' + 2))
      have f2 := r_lratio (k := k + 2) (n := 9) (μ := St (aE + 1)) rp.num rp.den (den_ne _) hp1.1 hp1.den (by decide)
      by_cases c : r4 = 0
      · refine ⟨[some (.val (dealD ns t)), x1, x2, x3, x4, x5, x6, x7, x8, x9, x10, x11, x12, some (.own sw), some (.val (.int (0 + (i : Nat)))), z15, z16, x17, x18, x19], [some (.val (dealD ns t)), x1, x2, x3, x4, x5, x6, x7, x8, x9, x10, x11, x12, some (.own (sw ++ [.tup [.int (0 + (i : Nat)), .str "go", .int (1 - (0 + (i : Nat))), dE, .str "must", .tup [.tup [rD kick, rD (Rat.divInt rp.num rp.den)]]]])), some (.val (.int (0 + (i : Nat)))), some (.val (rD kick)), some (.val (.tup [.tup [rD kick, rD rp]])), x17, x18, x19], St (aE + 1), by simp, .inl ?_, _, _, _, _, _, rfl, rfl, by simp [h2], by omega⟩
        unfold rD at *
        simp -implicitDefEqProofs [l2__law_plant_of, c4__law_plant_of, ev_lc, lcS_cons, szle, szlt, e1, e2, e3, e4, f1, f2, hp2, atI, ixN, c, (show sw.length < 16777216 by omega)]
      · refine ⟨[some (.val (dealD ns t)), x1, x2, x3, x4, x5, x6, x7, x8, x9, x10, x11, x12, some (.own sw), some (.val (.int (0 + (i : Nat)))), z15, z16, x17, x18, x19], [some (.val (dealD ns t)), x1, x2, x3, x4, x5, x6, x7, x8, x9, x10, x11, x12, some (.own (sw ++ [.tup [.int (0 + (i : Nat)), .str "go", .int (1 - (0 + (i : Nat))), dE, .str "may", .tup [.tup [rD kick, rD (Rat.divInt rp.num rp.den)]]]])), some (.val (.int (0 + (i : Nat)))), some (.val (rD kick)), some (.val (.tup [.tup [rD kick, rD rp]])), x17, x18, x19], St (aE + 1), by simp, .inl ?_, _, _, _, _, _, rfl, rfl, by simp [h2], by omega⟩
        unfold rD at *
        simp -implicitDefEqProofs [l2__law_plant_of, c4__law_plant_of, ev_lc, lcS_cons, szle, szlt, e1, e2, e3, e4, f1, f2, hp2, atI, ixN, c, (show sw.length < 16777216 by omega)])
  rw [rangeD_len] at h3
  exact ⟨sw, z14, z15, z16, a', h1, by omega⟩
end
end P47
end
section
set_option Elab.async false
set_option linter.all false
set_option maxRecDepth 100000
set_option maxHeartbeats 0
namespace P47
open PySem L2 Py
section
variable {k : Nat}
theorem r_line {μ : Store} (l h : Int) : ∃ d, Py.run fs Γ (k + 1) f__law_line [.int 0, .int 1, .tup [.int l, .int 1], .tup [.int h, .int 1]] μ = some (d, μ) := by
  have hr : rngS 0 (1 : Int) = some [.int 0] := rfl
  refine ⟨.tup [.tup [.tup [.tup [.int 1, .int 1]], .tup [.int (-l), .int 1], .bl false], .tup [.tup [.tup [.int (-1), .int 1]], .tup [.int h, .int 1], .bl false]], ?_⟩
  rw [u__law_line, b__law_line]
  simp -implicitDefEqProofs [c1__law_line, c2__law_line, ev_lc, lcS_cons, szle, hr, atI, ixN]
theorem rD1 : rD (Rat.divInt 1 1) = .tup [.int 1, .int 1] := by rw [rD_divInt (by decide)]; rfl
theorem rD12 : rD (Rat.divInt 1 2) = .tup [.int 1, .int 2] := by rw [rD_divInt (by decide)]; rfl
theorem rD21 : rD (Rat.divInt 2 1) = .tup [.int 2, .int 1] := by rw [rD_divInt (by decide)]; rfl
theorem rD14 : rD (Rat.divInt 1 4) = .tup [.int 1, .int 4] := by rw [rD_divInt (by decide)]; rfl
theorem rD13 : rD (Rat.divInt 1 3) = .tup [.int 1, .int 3] := by rw [rD_divInt (by decide)]; rfl
theorem rD17 : rD (Rat.divInt 1 7) = .tup [.int 1, .int 7] := by rw [rD_divInt (by decide)]; rfl
theorem divInt_pos {p q : Int} (h : 0 < p) (h' : 0 < q) : 0 < Rat.divInt p q := by
  rw [Rat.divInt_eq_div, Rat.div_def]
  exact Rat.mul_pos (by exact_mod_cast h) (Rat.inv_pos.mpr (by exact_mod_cast h'))
theorem r_beat (ns : List Int) (t : Int) (h : DealOk ns t) (a : Nat) (ha : a < 90000) : ∃ b, Py.run fs Γ (k + 2) f__law_pick [dealD ns t, .lst [.tup [.int 1, .int 1], .tup [.int 1, .int 1], .tup [.int 1, .int 2], .tup [.int 2, .int 1]]] (St a) = some (rD b, St (a + 1)) ∧ 0 < b ∧ Sz 3 b := by
  obtain ⟨r1, b1, b2, e1⟩ := r_take (k := k) (a := a) ns t 4 h (by decide) (by omega)
  rw [u__law_pick, b__law_pick]
  obtain rfl | rfl | rfl | rfl : r1 = 0 ∨ r1 = 1 ∨ r1 = 2 ∨ r1 = 3 := by omega
  · refine ⟨Rat.divInt 1 1, ?_, divInt_pos (by decide) (by decide), Sz.divInt (by decide) (by decide) (by decide)⟩
    simp -implicitDefEqProofs [e1, atI, ixN, rD1]
  · refine ⟨Rat.divInt 1 1, ?_, divInt_pos (by decide) (by decide), Sz.divInt (by decide) (by decide) (by decide)⟩
    simp -implicitDefEqProofs [e1, atI, ixN, rD1]
  · refine ⟨Rat.divInt 1 2, ?_, divInt_pos (by decide) (by decide), Sz.divInt (by decide) (by decide) (by decide)⟩
    simp -implicitDefEqProofs [e1, atI, ixN, rD12]
  · refine ⟨Rat.divInt 2 1, ?_, divInt_pos (by decide) (by decide), Sz.divInt (by decide) (by decide) (by decide)⟩
    simp -implicitDefEqProofs [e1, atI, ixN, rD21]
theorem r_unit (ns : List Int) (t : Int) (h : DealOk ns t) (a : Nat) (ha : a < 90000) : ∃ b, Py.run fs Γ (k + 2) f__law_unit [dealD ns t] (St a) = some (rD b, St (a + 1)) ∧ 0 < b ∧ Sz 3 b := by
  obtain ⟨r1, b1, b2, e1⟩ := r_take (k := k) (a := a) ns t 4 h (by decide) (by omega)
  rw [u__law_unit, b__law_unit]
  obtain rfl | rfl | rfl | rfl : r1 = 0 ∨ r1 = 1 ∨ r1 = 2 ∨ r1 = 3 := by omega
  · refine ⟨Rat.divInt 1 2, ?_, divInt_pos (by decide) (by decide), Sz.divInt (by decide) (by decide) (by decide)⟩
    simp -implicitDefEqProofs [e1, atI, ixN, rD12, szle]
  · refine ⟨Rat.divInt 1 4, ?_, divInt_pos (by decide) (by decide), Sz.divInt (by decide) (by decide) (by decide)⟩
    simp -implicitDefEqProofs [e1, atI, ixN, rD14, szle]
  · refine ⟨Rat.divInt 1 1, ?_, divInt_pos (by decide) (by decide), Sz.divInt (by decide) (by decide) (by decide)⟩
    simp -implicitDefEqProofs [e1, atI, ixN, rD1, szle]
  · refine ⟨Rat.divInt 1 3, ?_, divInt_pos (by decide) (by decide), Sz.divInt (by decide) (by decide) (by decide)⟩
    simp -implicitDefEqProofs [e1, atI, ixN, rD13, szle]
def tl : List S := b__law_plant_of.drop 2
theorem plant_tail (ns : List Int) (t : Int) (h : DealOk ns t) (a : Nat) (ha : a < 70000) (ms cs : List D) (hm1 : 1 ≤ ms.length) (hm2 : ms.length ≤ 2) (hc : cs.length = 2 ∨ cs.length = 3) :
    ∃ x0 x1 beat rows sw err x7 x8 a', exs (Py.run fs Γ (k + 4)) Γ tl [some (.val (dealD ns t)), some (.val (.tup ms)), some (.val (.tup cs)), none, none, none, none, none, none, none, none, none, none, none, none, none, none, none, none, none] (St a) =
      some (.rt (.tup [x0, x1, .tup ms, .tup cs, rD beat, .tup rows, sw, .tup [.tup [rD err], x7], x8]) (St a')) ∧ a' ≤ a + 40 ∧ rows.length = ms.length ∧ (∀ r ∈ rows, RowGood cs.length r) ∧ 0 < beat ∧ Sz 3 beat ∧ 0 ≤ err ∧ Sz 3 err := by
  obtain ⟨rs, z1, z2, z3, z4, z5, g1, g2, g3⟩ := rates_l1 (k := k + 3) ns t h (some (.val (.tup ms))) cs ms hm2 none none none none none [none, none, none, none, none, none, none, none, none, none, none] a (by omega)
  obtain ⟨rows, g4, g5, g6⟩ := rates_c3 (k := k + 3) rs cs.length hc g3 (by omega) (some (.val (dealD ns t))) (some (.val (.tup ms))) (some (.val (.tup cs))) [z1, z2, z3, z4, z5, none, none, none, none, none, none, none, none, none, none, none] (by simp) (St (a + 2 * ms.length))
  generalize ha1 : a + 2 * ms.length = a1 at *
  obtain ⟨r1, b1, b2, e1⟩ := r_take (k := k + 3) (a := a1) ns t 3 h (by decide) (by omega)
  obtain ⟨m, hm, hm'⟩ : ∃ m : Nat, m ≤ 2 ∧ r1 * (if 1 < (ms.length : Int) then 1 else 0) = (m : Int) := ⟨(r1 * (if 1 < (ms.length : Int) then 1 else 0)).toNat, by split <;> omega, by split <;> omega⟩
  have mm : mulOk r1 (if 1 < (ms.length : Int) then 1 else 0) = true := mul64 (by omega) (by split <;> omega)
  have hr := rngS_0 (n := m) (by omega)
  obtain ⟨sw, w1, w2, w3, a2, g7, g8⟩ := switch_l2 (k := k + 1) ns t h (some (.val (.tup ms))) (some (.val (.tup cs))) (some (.val (.tup rows))) z1 z2 z3 z4 z5 none none none none none none none none none none m hm (a1 + 1) (by omega)
  obtain ⟨r2, b3, b4, e2⟩ := r_take (k := k + 3) (a := a2) ns t 2 h (by decide) (by omega)
  have f1 := r_lratio (k := k + 3) (n := 3) (μ := St (a2 + 1)) r2 2 (by decide) (by omega) (by decide) (by decide)
  have hz : Sz 3 (Rat.divInt r2 2) := Sz.divInt (by omega) (by decide) (by decide)
  have hz0 : 0 ≤ Rat.divInt r2 2 := Rat.divInt_nonneg b3 (by decide)
  generalize Rat.divInt r2 2 = err at *
  obtain ⟨r3, b5, b6, e3⟩ := r_take (k := k + 3) (a := a2 + 1) ns t 2 h (by decide) (by omega)
  obtain ⟨r4, b7, b8, e4⟩ := r_take (k := k + 3) (a := a2 + 2) ns t 2 h (by decide) (by omega)
  obtain ⟨r5, b9, b10, e5⟩ := r_take (k := k + 3) (a := a2 + 3) ns t 2 h (by decide) (by omega)
  obtain ⟨ln, e6⟩ := r_line (k := k + 3) (μ := St (a2 + 4)) (-r4) r5
  obtain ⟨beat, e7, hb1, hb2⟩ := r_beat (k := k + 2) ns t h (a2 + 4) (by omega)
  refine ⟨.str "p", .tup [.str "x"], beat, rows, .tup sw, err, .int r3, .tup [.int 0, ln], a2 + 5, ?_, by omega, by omega, g6, hb1, hb2, hz0, hz⟩
  rw [tl, b__law_plant_of]
  simp -implicitDefEqProofs [ex_for, szle, g1, g4, e1, mm, hm', hr, g7, e2, f1, e3, e4, e5, e6, e7]
theorem plant_split : b__law_plant_of = (S.asg (T.nm 1) (E.slc (E.tup (Es.cons (E.str "m0") (Es.cons (E.str "m1") Es.nil))) Eo.none (Eo.some (E.bin .Add (E.int 1) (E.bi .int (E.cmp .Eq (E.call 18 (E.slot 0) (Es.cons (E.int 4) Es.nil)) (E.int 1)) Es.nil))))) :: (S.asg (T.nm 2) (E.slc (E.tup (Es.cons (E.str "up") (Es.cons (E.str "down") (Es.cons (E.str "wait") Es.nil)))) Eo.none (Eo.some (E.bin .Add (E.int 2) (E.call 18 (E.slot 0) (Es.cons (E.int 2) Es.nil)))))) :: tl := rfl
theorem r_plant (ns : List Int) (t : Int) (h : DealOk ns t) (a : Nat) (ha : a < 60000) :
    ∃ x0 x1 ms cs beat rows sw err x7 x8 a', Py.run fs Γ (k + 5) f__law_plant_of [dealD ns t] (St a) = some (.tup [x0, x1, .tup ms, .tup cs, rD beat, .tup rows, sw, .tup [.tup [rD err], x7], x8], St a') ∧ a' ≤ a + 50 ∧ 1 ≤ ms.length ∧ ms.length ≤ 2 ∧ (cs.length = 2 ∨ cs.length = 3) ∧ rows.length = ms.length ∧ (∀ r ∈ rows, RowGood cs.length r) ∧ 0 < beat ∧ Sz 3 beat ∧ 0 ≤ err ∧ Sz 3 err := by
  obtain ⟨r1, b1, b2, e1⟩ := r_take (k := k + 3) (a := a) ns t 4 h (by decide) (by omega)
  obtain ⟨r2, b3, b4, e2⟩ := r_take (k := k + 3) (a := a + 1) ns t 2 h (by decide) (by omega)
  rw [u__law_plant_of]
  have key : ∀ ms cs : List D, 1 ≤ ms.length → ms.length ≤ 2 → (cs.length = 2 ∨ cs.length = 3) → exs (Py.run fs Γ (k + 4)) Γ b__law_plant_of [some (.val (dealD ns t)), none, none, none, none, none, none, none, none, none, none, none, none, none, none, none, none, none, none, none] (St a) = exs (Py.run fs Γ (k + 4)) Γ tl [some (.val (dealD ns t)), some (.val (.tup ms)), some (.val (.tup cs)), none, none, none, none, none, none, none, none, none, none, none, none, none, none, none, none, none] (St (a + 2)) →
      ∃ x0 x1 ms cs beat rows sw err x7 x8 a', fin (exs (Py.run fs Γ (k + 4)) Γ b__law_plant_of [some (.val (dealD ns t)), none, none, none, none, none, none, none, none, none, none, none, none, none, none, none, none, none, none, none] (St a)) = some (.tup [x0, x1, .tup ms, .tup cs, rD beat, .tup rows, sw, .tup [.tup [rD err], x7], x8], St a') ∧ a' ≤ a + 50 ∧ 1 ≤ ms.length ∧ ms.length ≤ 2 ∧ (cs.length = 2 ∨ cs.length = 3) ∧ rows.length = ms.length ∧ (∀ r ∈ rows, RowGood cs.length r) ∧ 0 < beat ∧ Sz 3 beat ∧ 0 ≤ err ∧ Sz 3 err := by
    intro ms cs h1 h2 h3 he
    obtain ⟨x0, x1, beat, rows, sw, err, x7, x8, a', g1, g2, g3, g4, g5⟩ := plant_tail (k := k) ns t h (a + 2) (by omega) ms cs h1 h2 h3
    refine ⟨x0, x1, ms, cs, beat, rows, sw, err, x7, x8, a', ?_, by omega, h1, h2, h3, g3, g4, g5⟩
    rw [he, g1]; rfl
  by_cases c : r1 = 1
  · obtain rfl | rfl : r2 = 0 ∨ r2 = 1 := by omega
    · refine key [.str "m0", .str "m1"] [.str "up", .str "down"] (by decide) (by decide) (.inl rfl) ?_
      rw [plant_split]
      generalize tl = q
      simp -implicitDefEqProofs [szle, e1, e2, c, Py.cutS, HT.sIx]
    · refine key [.str "m0", .str "m1"] [.str "up", .str "down", .str "wait"] (by decide) (by decide) (.inr rfl) ?_
      rw [plant_split]
      generalize tl = q
      simp -implicitDefEqProofs [szle, e1, e2, c, Py.cutS, HT.sIx]
  · obtain rfl | rfl : r2 = 0 ∨ r2 = 1 := by omega
    · refine key [.str "m0"] [.str "up", .str "down"] (by decide) (by decide) (.inl rfl) ?_
      rw [plant_split]
      generalize tl = q
      simp -implicitDefEqProofs [szle, e1, e2, c, Py.cutS, HT.sIx]
    · refine key [.str "m0"] [.str "up", .str "down", .str "wait"] (by decide) (by decide) (.inr rfl) ?_
      rw [plant_split]
      generalize tl = q
      simp -implicitDefEqProofs [szle, e1, e2, c, Py.cutS, HT.sIx]
end
end P47
end
section
set_option Elab.async false
set_option linter.all false
set_option maxRecDepth 100000
set_option maxHeartbeats 0
namespace P47
open PySem L2 Py
section
variable {k : Nat} {μ : Store}
theorem sz_floor {n : Nat} {q : Rat} (h : Sz n q) (hn : 0 < n) : Sz n (q.floor : Rat) := by
  refine Sz.int ?_ hn
  rw [Rat.floor_def]
  exact Nat.lt_of_le_of_lt (Int.natAbs_ediv_le_natAbs _ _) h.1
theorem sz_ceil {n : Nat} {q : Rat} (h : Sz n q) (hn : 0 < n) : Sz n (q.ceil : Rat) := by
  refine Sz.int ?_ hn
  rw [Rat.ceil_eq_neg_floor_neg, Int.natAbs_neg, Rat.floor_def]
  exact Nat.lt_of_le_of_lt (Int.natAbs_ediv_le_natAbs _ _) h.neg.1
theorem sz_abs {n : Nat} {i : Int} (h : Sz n (i : Rat)) : i.natAbs < 2 ^ n := h.1
theorem r_between (ns : List Int) (t : Int) (h : DealOk ns t) (a : Nat) (ha : a < 90000) (lo hi : Rat) (hle : lo ≤ hi) (h1 : Sz 4 lo) (h2 : Sz 4 hi) :
    ∃ z, Py.run fs Γ (k + 4) f__law_between [dealD ns t, rD lo, rD hi] (St a) = some (rD z, St (a + 1)) ∧ lo ≤ z ∧ z ≤ hi ∧ Sz 17 z := by
  obtain ⟨r, b1, b2, e1⟩ := r_take (k := k + 2) (a := a) ns t 5 h (by decide) (by omega)
  have hw := Sz.sub h2 h1
  have e2 := r_lminus (k := k) (n := 100) (μ := St (a + 1)) hi lo h2 h1 (by decide) (by decide)
  have c1 : r.natAbs < 2 ^ 3 := by omega
  have c2 : (4 : Int).natAbs < 2 ^ 3 := by decide
  have m1 := mulOk_of hw.1 c1 (by decide)
  have m2 := mulOk_of hw.den c2 (by decide)
  have e3 := r_lratio (k := k + 2) (n := 4 + 4 + 1 + 3) (μ := St (a + 1)) ((hi - lo).num * r) ((hi - lo).den * 4) (Int.mul_ne_zero (den_ne _) (by decide)) (abs_mul_lt hw.1 c1) (abs_mul_lt hw.den c2) (by decide)
  have hz := Sz.divInt (abs_mul_lt hw.1 c1) (abs_mul_lt hw.den c2) (Int.mul_ne_zero (den_ne (hi - lo)) (by decide))
  have e4 := r_lplus (k := k + 1) (n := 100) (μ := St (a + 1)) lo _ h1 hz (by decide) (by decide)
  have q0 : 0 ≤ Rat.divInt r 4 := Rat.divInt_nonneg b1 (by decide)
  have q1 : Rat.divInt r 4 ≤ 1 := by
    have := dle (p := r) (q := 4) (p' := 1) (q' := 1) (by decide) (by decide) (by omega)
    have e : Rat.divInt 1 1 = 1 := by decide +kernel
    rwa [e] at this
  refine ⟨lo + Rat.divInt ((hi - lo).num * r) ((hi - lo).den * 4), ?_, ?_, ?_, h1.add hz⟩
  · rw [u__law_between, b__law_between]
    unfold rD at *
    simp -implicitDefEqProofs [szle, atI, ixN, e1, e2, e3, e4, m1, m2]
  · rw [← Rat.divInt_mul_divInt, Rat.num_divInt_den]
    have := Rat.mul_nonneg (a := hi - lo) (by grind) q0
    grind
  · rw [← Rat.divInt_mul_divInt, Rat.num_divInt_den]
    have := Rat.mul_le_mul_of_nonneg_left q1 (c := hi - lo) (by grind)
    grind
theorem r_reads (err d : Rat) (x0 x1 x2 x3 x4 x5 x6 x7 x8 : D) (h0 : d ≠ 0) (h1 : Sz 3 err) (h2 : Sz 3 d) : Py.run fs Γ (k + 4) f__law_reads [.tup [x0, x1, x2, x3, x4, x5, x6, .tup [.tup [rD err], x7], x8], rD d] μ = some (.tup [.tup [.int (err / d).ceil, .int ((err / d).ceil + 1)]], μ) := by
  have e := r_lceil (k := k) (n := 100) (μ := μ) err d h0 h1 h2 (by decide) (by decide)
  rw [u__law_reads, b__law_reads]
  simp -implicitDefEqProofs [szle, atI, ixN, e]
theorem r_read_pair {n : Nat} (err d : Rat) (h0 : d ≠ 0) (h1 : Sz n err) (h2 : Sz n d) (hn : n ≤ 1000) : Py.run fs Γ (k + 5) f_read_pair [rD err, rD d] μ = some (.tup [.int (err / d).ceil, .int ((err / d).ceil + 1)], μ) := by
  have e := r_up (k := k) (μ := μ) err d h0 h1 h2 (by omega)
  rw [u_read_pair, b_read_pair]
  simp -implicitDefEqProofs [szle, atI, ixN, e]
theorem r_read_pairs (err d : Rat) (x0 x1 x2 x3 x4 x5 x6 x7 x8 : D) (h0 : d ≠ 0) (h1 : Sz 3 err) (h2 : Sz 3 d) : Py.run fs Γ (k + 6) f_read_pairs [.tup [x0, x1, x2, x3, x4, x5, x6, .tup [.tup [rD err], x7], x8], .tup [rD d]] μ = some (.tup [.tup [.int (err / d).ceil, .int ((err / d).ceil + 1)]], μ) := by
  have e := r_read_pair (k := k) (μ := μ) err d h0 h1 h2 (by decide)
  rw [u_read_pairs, b_read_pairs, c1_read_pairs]
  simp -implicitDefEqProofs [szle, atI, ixN, e, ev_lc, lcS_cons]
theorem r_reading_of {a b : Nat} (w d : Rat) (h0 : d ≠ 0) (h1 : Sz a w) (h2 : Sz b d) (hn : a + b ≤ 1000) : Py.run fs Γ (k + 5) f_reading_of [rD w, rD d] μ = some (.int (w / d).floor, μ) := by
  have e := r_down (k := k) (μ := μ) w d h0 h1 h2 (by omega)
  rw [u_reading_of, b_reading_of]
  simp -implicitDefEqProofs [szle, atI, ixN, e]
theorem r_read_box (a b r : Int) : Py.run fs Γ (k + 1) f_read_box [.tup [.tup [.int a, .int b]], .tup [.int r]] μ = some (.tup [.tup [.int (r - a), .int (r + b)]], μ) := by
  rw [u_read_box, b_read_box, c1_read_box]
  simp -implicitDefEqProofs [szle, atI, ixN, ev_lc, lcS_cons]
theorem r_gone_on (a b c d : Int) : Py.run fs Γ (k + 1) f_gone_on [.tup [.tup [.int a, .int b]], .tup [.tup [.int c, .int d]]] μ = some (.tup [.tup [.int (a + c), .int (b + d)]], μ) := by
  rw [u_gone_on, b_gone_on, c1_gone_on]
  simp -implicitDefEqProofs [szle, atI, ixN, ev_lc, lcS_cons]
def metD (a b c d : Int) : D := if (if d < b then d else b) < (if a < c then c else a) then .non else .tup [.tup [.int (if a < c then c else a), .int (if d < b then d else b)]]
theorem r_met_boxes (a b c d : Int) : Py.run fs Γ (k + 1) f_met_boxes [.tup [.tup [.int a, .int b]], .tup [.tup [.int c, .int d]]] μ = some (metD a b c d, μ) := by
  rw [u_met_boxes, b_met_boxes, c1_met_boxes, c2_met_boxes, metD]
  by_cases h : (if d < b then d else b) < (if a < c then c else a)
  · simp -implicitDefEqProofs [szle, atI, ixN, ev_lc, lcS_cons, h]
  · simp -implicitDefEqProofs [szle, atI, ixN, ev_lc, lcS_cons, h]
theorem r_lleft (a b c d : Int) : Py.run fs Γ (k + 1) f__law_left [.tup [.int a, .int b], .tup [.int c, .int d]] μ = some (metD a b c d, μ) := by
  rw [u__law_left, b__law_left, metD]
  by_cases h : (if d < b then d else b) < (if a < c then c else a)
  · simp -implicitDefEqProofs [szle, atI, ixN, h]
  · simp -implicitDefEqProofs [szle, atI, ixN, h]
theorem r_is_whole (a b : Int) (h : a ≤ b) : Py.run fs Γ (k + 1) f_is_whole_box [.int 1, .tup [.tup [.int a, .int b]]] μ = some (.bl true, μ) := by
  have h' : ¬ b < a := by omega
  rw [u_is_whole_box, b_is_whole_box, c1_is_whole_box]
  simp -implicitDefEqProofs [szle, atI, ixN, ev_lc, lcS_cons, h']
theorem r_lwhole (ns : List Int) (t : Int) (h : DealOk ns t) (a : Nat) (ha : a < 90000) : ∃ c d : Int, Py.run fs Γ (k + 2) f__law_whole [dealD ns t, .int 1] (St a) = some (.tup [.tup [.int c, .int d]], St (a + 2)) := by
  obtain ⟨r1, b1, b2, e1⟩ := r_take (k := k) (a := a) ns t 25 h (by decide) (by omega)
  obtain ⟨r2, b3, b4, e2⟩ := r_take (k := k) (a := a + 1) ns t 7 h (by decide) (by omega)
  have hr : rngS 0 (1 : Int) = some [.int 0] := rfl
  refine ⟨r1 - 12, r1 - 12 + r2, ?_⟩
  rw [u__law_whole, b__law_whole]
  simp -implicitDefEqProofs [szle, szlt, atI, ixN, ex_for, hr, forS, l1__law_whole, e1, e2]
theorem r_made_whole {a : Nat} (d lo hi : Rat) (h0 : d ≠ 0) (h1 : Sz a lo) (h2 : Sz a hi) (h3 : Sz a d) (hn : a ≤ 1000) : Py.run fs Γ (k + 5) f_made_whole [.tup [rD d], .tup [.tup [rD lo, rD hi]]] μ = some (.tup [.tup [.int (lo / d).floor, .int (hi / d).ceil]], μ) := by
  have e1 := r_down (k := k) (μ := μ) lo d h0 h1 h3 (by omega)
  have e2 := r_up (k := k) (μ := μ) hi d h0 h2 h3 (by omega)
  rw [u_made_whole, b_made_whole, c1_made_whole]
  simp -implicitDefEqProofs [szle, atI, ixN, ev_lc, lcS_cons, e1, e2]
theorem r_beat_box (i j : Nat) (beat lo hi : Rat) (x0 x1 x2 x3 x6 x7 x8 : D) (rows bs : List D) (hi' : rows[i]? = some (.tup bs)) (hj : bs[j]? = some (.tup [.tup [rD lo, rD hi]])) (h1 : Sz 4 lo) (h2 : Sz 4 hi) (h3 : Sz 3 beat) :
    Py.run fs Γ (k + 5) f_beat_box [.tup [x0, x1, x2, x3, rD beat, .tup rows, x6, x7, x8], .int i, .int j] μ = some (.tup [.tup [rD (lo * beat), rD (hi * beat)]], μ) := by
  have e1 := r_times (k := k) (μ := μ) lo beat h1 h3 (by decide)
  have e2 := r_times (k := k) (μ := μ) hi beat h2 h3 (by decide)
  have hil := (List.getElem?_eq_some_iff.mp hi').1
  have hjl := (List.getElem?_eq_some_iff.mp hj).1
  have ei : atI rows (i : Int) = some (.tup bs) := atI_nat hi'
  have ej : atI bs (j : Int) = some (.tup [.tup [rD lo, rD hi]]) := atI_nat hj
  have a4 : atI [x0, x1, x2, x3, rD beat, .tup rows, x6, x7, x8] 4 = some (rD beat) := by simp [atI, ixN]
  have a5 : atI [x0, x1, x2, x3, rD beat, .tup rows, x6, x7, x8] 5 = some (.tup rows) := by simp [atI, ixN]
  have e3 : ∀ k, Py.run fs Γ (k + 1) f_rates_of [.tup [x0, x1, x2, x3, rD beat, .tup rows, x6, x7, x8], .int i, .int j] μ = some (.tup [.tup [rD lo, rD hi]], μ) := by
    intro k
    rw [u_rates_of, b_rates_of]
    simp -implicitDefEqProofs [szle, a5, ei, ej]
  have e4 : Py.run fs Γ (k + 4) f_box_times [.tup [.tup [rD lo, rD hi]], rD beat] μ = some (.tup [.tup [rD (lo * beat), rD (hi * beat)]], μ) := by
    rw [u_box_times, b_box_times, c1_box_times]
    simp -implicitDefEqProofs [szle, ev_lc, lcS_cons, e1, e2]
  rw [u_beat_box, b_beat_box]
  simp -implicitDefEqProofs [szle, a4, e3, e4]
theorem r_linside_t {n : Nat} (x d : Rat) (lo hi : Int) (hx : Sz n x) (hd : Sz n d) (hlo : Sz n (lo : Rat)) (hhi : Sz n (hi : Rat)) (hn : n ≤ 1000) (h1 : d * lo ≤ x) (h2 : x ≤ d * hi) : Py.run fs Γ (k + 3) f__law_inside [rD x, rD d, .tup [.int lo, .int hi]] μ = some (.bl true, μ) := by
  rw [r_linside (n := 3 * n) x d lo hi hx hd hlo hhi (by omega) (by omega)]
  simp [h1, h2]
theorem r_linside_f {n : Nat} (x d : Rat) (lo hi : Int) (hx : Sz n x) (hd : Sz n d) (hlo : Sz n (lo : Rat)) (hhi : Sz n (hi : Rat)) (hn : n ≤ 1000) (h1 : d * hi < x ∨ x < d * lo) : Py.run fs Γ (k + 3) f__law_inside [rD x, rD d, .tup [.int lo, .int hi]] μ = some (.bl false, μ) := by
  rw [r_linside (n := 3 * n) x d lo hi hx hd hlo hhi (by omega) (by omega)]
  rcases h1 with h1 | h1
  · have : ¬ x ≤ d * hi := by grind
    simp [this]
  · have : ¬ d * lo ≤ x := by grind
    simp [this]
end
end P47
end
section
set_option Elab.async false
set_option linter.all false
set_option maxRecDepth 100000
set_option maxHeartbeats 0
namespace P47
open PySem L2 Py
theorem fl {w d : Rat} (hd : 0 < d) : d * ((w / d).floor : Rat) ≤ w ∧ w < d * ((w / d).floor : Rat) + d := by
  have h1 := Rat.floor_le (w / d)
  have h2 := Rat.lt_floor_add_one (w / d)
  have h3 : w / d * d = w := Rat.div_mul_cancel (by grind)
  rw [Rat.intCast_add] at h2
  generalize ((w / d).floor : Rat) = f at *
  generalize w / d = q at *
  have h4 := Rat.mul_le_mul_of_nonneg_left h1 (Rat.le_of_lt hd)
  have h5 := Rat.mul_lt_mul_of_pos_left h2 hd
  constructor
  · grind
  · have : ((1 : Int) : Rat) = 1 := rfl
    grind
theorem ce {w d : Rat} (hd : 0 < d) : w ≤ d * ((w / d).ceil : Rat) := by
  have h1 := Rat.le_ceil (x := w / d)
  have h3 : w / d * d = w := Rat.div_mul_cancel (by grind)
  generalize ((w / d).ceil : Rat) = f at *
  generalize w / d = q at *
  have h4 := Rat.mul_le_mul_of_nonneg_left h1 (Rat.le_of_lt hd)
  grind
theorem le_of_mul {d : Rat} {i j : Int} (hd : 0 < d) (h : d * (i : Rat) ≤ d * (j : Rat)) : i ≤ j := by
  have : (i : Rat) ≤ (j : Rat) := Rat.not_lt.mp fun h' => by
    have := Rat.mul_lt_mul_of_pos_left h' hd
    grind
  exact_mod_cast this
theorem met {x d : Rat} (hd : 0 < d) {a b c e : Int} (h1 : d * (a : Rat) ≤ x) (h2 : x ≤ d * (b : Rat)) (h3 : d * (c : Rat) ≤ x) (h4 : x ≤ d * (e : Rat)) :
    ∃ L H : Int, metD a b c e = .tup [.tup [.int L, .int H]] ∧ L ≤ H ∧ d * (L : Rat) ≤ x ∧ x ≤ d * (H : Rat) ∧ (L = a ∨ L = c) ∧ (H = b ∨ H = e) := by
  have q1 : (L : Int) → (L = if a < c then c else a) → d * (L : Rat) ≤ x ∧ (L = a ∨ L = c) := by
    intro L h; split at h
    · exact ⟨h ▸ h3, .inr h⟩
    · exact ⟨h ▸ h1, .inl h⟩
  have q2 : (H : Int) → (H = if e < b then e else b) → x ≤ d * (H : Rat) ∧ (H = b ∨ H = e) := by
    intro H h; split at h
    · exact ⟨h ▸ h4, .inr h⟩
    · exact ⟨h ▸ h2, .inl h⟩
  unfold metD
  generalize hL : (if a < c then c else a) = L
  generalize hH : (if e < b then e else b) = H
  have p1 := q1 L hL.symm
  have p2 := q2 H hH.symm
  have hle : L ≤ H := le_of_mul hd (by grind)
  exact ⟨L, H, if_neg (by omega), hle, p1.1, p2.1, p1.2, p2.2⟩
theorem plain_met {n : Nat} {a b c e : Int} : plain (n + 2) (metD a b c e) = true := by
  unfold metD
  generalize (if a < c then c else a) = L
  generalize (if e < b then e else b) = H
  split
  · rfl
  · simp [plain]
theorem szi {i : Int} (h : -1000000000000 < i ∧ i < 1000000000000) : Sz 40 (i : Rat) := Sz.int (by omega)
theorem div_cancel {q d : Rat} (hd : 0 < d) : d * q / d = q := by
  rw [Rat.mul_comm, Rat.div_def, Rat.mul_assoc, Rat.mul_inv_cancel _ (by grind), Rat.mul_one]
@[simp] theorem itsS_rD {μ : Store} {r : Rat} : itsS μ (rD r) = some [.int r.num, .int r.den] := rfl
theorem rD_int (i : Int) : rD (i : Rat) = .tup [.int i, .int 1] := rfl
theorem law_core (k : Nat) (ms0 : List Int) (hm0 : ms0.length ≤ 63) : ∃ μ', Py.run fs Γ (k + 12) f_law [.scr (ms0.map D.int)] [] = some (.bl true, μ') := by
  obtain ⟨ns, t, h, eD⟩ := r_deal (k := k + 10) ms0 hm0
  rw [show [[D.int 0]] = St 0 from rfl] at eD
  obtain ⟨x0, x1, ms, cs, beat, rows, sw, err, x7, x8, a, eP, ha, hm1, hm2, hc, hrows, hgood, hb0, hb, he0, he⟩ := r_plant (k := k + 6) ns t h 0 (by decide)
  obtain ⟨d, eU, hd0, hd⟩ := r_unit (k := k + 9) ns t h a (by omega)
  have hdn : d ≠ 0 := by grind
  obtain ⟨q1, b1, b2, e1⟩ := r_take (k := k + 10) (a := a + 1) ns t 201 h (by decide) (by omega)
  obtain ⟨q2, b3, b4, e2⟩ := r_take (k := k + 10) (a := a + 2) ns t 12 h (by decide) (by omega)
  have eX := r_lratio (k := k + 10) (n := 8) (μ := St (a + 3)) (q1 - 100) (1 + q2) (by omega) (by omega) (by omega) (by decide)
  have hx : Sz 8 (Rat.divInt (q1 - 100) (1 + q2)) := Sz.divInt (by omega) (by omega) (by omega)
  generalize Rat.divInt (q1 - 100) (1 + q2) = x at *
  have eR := r_read_pairs (k := k + 5) (μ := St (a + 3)) err d x0 x1 (.tup ms) (.tup cs) (rD beat) (.tup rows) sw x7 x8 hdn he hd
  have eR2 := r_reads (k := k + 7) (μ := St (a + 3)) err d x0 x1 (.tup ms) (.tup cs) (rD beat) (.tup rows) sw x7 x8 hdn he hd
  have eR3 := r_read_pair (k := k + 6) (μ := St (a + 3)) err d hdn he hd (by decide)
  have hA := ce (w := err) hd0
  have sA := sz_ceil (he.div hd hdn) (by decide)
  generalize (err / d).ceil = A at *
  have eS1 := r_same (μ := St (a + 3)) 2 (k + 8) (.tup [.tup [.int A, .int (A + 1)]]) (by simp [plain])
  have eS2 := r_same (μ := St (a + 3)) 1 (k + 9) (.tup [.int A, .int (A + 1)]) (by simp [plain])
  obtain ⟨z, eB, z1, z2, hz⟩ := r_between (k := k + 7) ns t h (a + 3) (by omega) (-err) err (by grind) he.mono.neg he.mono
  rw [rD_neg] at eB
  have eW := r_lplus (k := k + 9) (n := 100) (μ := St (a + 4)) x z hx hz (by decide) (by decide)
  have hw := hx.add hz
  have eF := r_reading_of (k := k + 6) (μ := St (a + 4)) (x + z) d hdn hw hd (by decide)
  have eF2 := r_lfloor (k := k + 9) (n := 100) (μ := St (a + 4)) (x + z) d hdn hw hd (by decide) (by decide)
  have hR := fl (w := x + z) hd0
  have sR := sz_floor (hw.div hd hdn) (by decide)
  generalize ((x + z) / d).floor = R at *
  have bA := sz_abs sA
  have bR := sz_abs sR
  have eT := r_read_box (k := k + 10) (μ := St (a + 4)) A (A + 1) R
  have eS3 := r_same (μ := St (a + 4)) 2 (k + 8) (.tup [.tup [.int (R - A), .int (R + (A + 1))]]) (by simp [plain])
  have hT1 : d * ((R - A : Int) : Rat) ≤ x := by rw [Rat.intCast_sub]; grind
  have hT2 : x ≤ d * ((R + (A + 1) : Int) : Rat) := by
    rw [Rat.intCast_add, Rat.intCast_add]
    have : ((1 : Int) : Rat) = 1 := rfl
    grind
  have eI1 := r_linside_t (k := k + 8) (n := 40) (μ := St (a + 4)) x d (R - A) (R + (A + 1)) hx.mono hd.mono (szi (by omega)) (szi (by omega)) (by decide) hT1 hT2
  obtain ⟨w2, b5, b6, e5⟩ := r_take (k := k + 10) (a := a + 4) ns t 6 h (by decide) (by omega)
  obtain ⟨w1, b7, b8, e6⟩ := r_take (k := k + 10) (a := a + 5) ns t 6 h (by decide) (by omega)
  have eF3 := r_lfloor (k := k + 9) (n := 100) (μ := St (a + 5)) x d hdn hx hd (by decide) (by decide)
  have eF4 := r_lceil (k := k + 8) (n := 100) (μ := St (a + 6)) x d hdn hx hd (by decide) (by decide)
  have hxf := fl (w := x) hd0
  have hxc := ce (w := x) hd0
  have sxf := sz_abs (sz_floor (hx.div hd hdn) (by decide))
  have sxc := sz_abs (sz_ceil (hx.div hd hdn) (by decide))
  generalize (x / d).floor = fx at *
  generalize (x / d).ceil = cx at *
  have dw1 : 0 ≤ d * ((w1 : Int) : Rat) := Rat.mul_nonneg (Rat.le_of_lt hd0) (by exact_mod_cast b7)
  have dw2 : 0 ≤ d * ((w2 : Int) : Rat) := Rat.mul_nonneg (Rat.le_of_lt hd0) (by exact_mod_cast b5)
  obtain ⟨L, H, eM, hLH, hL, hH, cL, cH⟩ := met (x := x) hd0 (a := fx - w1) (b := cx + w2) (c := R - A) (e := R + (A + 1)) (by rw [Rat.intCast_sub]; grind) (by rw [Rat.intCast_add]; grind) hT1 hT2
  have eM1 := r_met_boxes (k := k + 10) (μ := St (a + 6)) (fx - w1) (cx + w2) (R - A) (R + (A + 1))
  have eM2 := r_lleft (k := k + 10) (μ := St (a + 6)) (fx - w1) (cx + w2) (R - A) (R + (A + 1))
  rw [eM] at eM1 eM2
  have eS4 := r_same (μ := St (a + 6)) 2 (k + 8) (.tup [.tup [.int L, .int H]]) (by simp [plain])
  have bL : -1000000000 < L ∧ L < 1000000000 := by rcases cL with rfl | rfl <;> omega
  have bH : -1000000000 < H ∧ H < 1000000000 := by rcases cH with rfl | rfl <;> omega
  have eI2 := r_linside_t (k := k + 8) (n := 40) (μ := St (a + 6)) x d L H hx.mono hd.mono (szi (by omega)) (szi (by omega)) (by decide) hL hH
  have eI3 := r_is_whole (k := k + 10) (μ := St (a + 6)) L H hLH
  obtain ⟨c1, c2, eF5⟩ := r_lwhole (k := k + 9) ns t h (a + 6) (by omega)
  have eM3 := r_met_boxes (k := k + 10) (μ := St (a + 8)) (fx - w1) (cx + w2) c1 c2
  have eM4 := r_lleft (k := k + 10) (μ := St (a + 8)) (fx - w1) (cx + w2) c1 c2
  have eS5 := r_same (μ := St (a + 8)) 2 (k + 8) (metD (fx - w1) (cx + w2) c1 c2) plain_met
  generalize metD (fx - w1) (cx + w2) c1 c2 = mD at *
  obtain ⟨m, b9, b10, e7⟩ := r_take (k := k + 10) (a := a + 8) ns t 4 h (by decide) (by omega)
  have eW2 := r_lmult (k := k + 9) (n := 100) (μ := St (a + 9)) d (m : Rat) hd (szi (i := m) (by omega)) (by decide) (by decide)
  rw [rD_int] at eW2
  have eR4 := r_read_pair (k := k + 6) (n := 43) (μ := St (a + 9)) (d * (m : Rat)) d hdn (hd.mul (szi (i := m) (by omega))) hd.mono (by decide)
  rw [div_cancel hd0, Rat.ceil_intCast] at eR4
  have s17 : Sz 3 (Rat.divInt 1 7) := Sz.divInt (by decide) (by decide) (by decide)
  have v17 : Rat.divInt 1 7 = 1 / 7 := by decide +kernel
  have eN := r_lmult (k := k + 9) (n := 100) (μ := St (a + 9)) d (Rat.divInt 1 7) hd s17 (by decide) (by decide)
  rw [rD17] at eN
  have sN := hd.mul s17
  have eH1 := r_lmult (k := k + 9) (n := 100) (μ := St (a + 9)) d ((R + 1 : Int) : Rat) hd (szi (i := R + 1) (by omega)) (by decide) (by decide)
  rw [rD_int] at eH1
  have sH1 := hd.mul (szi (i := R + 1) (by omega))
  have eH := r_lminus (k := k + 8) (n := 100) (μ := St (a + 9)) (d * ((R + 1 : Int) : Rat)) (d * Rat.divInt 1 7) sH1 sN (by decide) (by decide)
  have sH := sH1.sub sN
  have hHv : d * ((R + 1 : Int) : Rat) - d * Rat.divInt 1 7 = d * ((R : Rat) + 1 - 1 / 7) := by
    rw [v17, Rat.intCast_add]
    have : ((1 : Int) : Rat) = 1 := rfl
    grind
  rw [hHv] at eH sH
  have cR : ((R + 1 : Int) : Rat) = (R : Rat) + 1 := by rw [Rat.intCast_add]; rfl
  rw [cR] at eH eH1
  have eF6 := r_lfloor (k := k + 9) (n := 100) (μ := St (a + 9)) (d * ((R : Rat) + 1 - 1 / 7)) d hdn sH hd (by decide) (by decide)
  have hF6 : (d * ((R : Rat) + 1 - 1 / 7) / d).floor = R := by
    rw [div_cancel hd0]
    have i1 : R ≤ ((R : Rat) + 1 - 1 / 7).floor := Rat.le_floor_iff.mpr (by grind)
    have i2 : ((R : Rat) + 1 - 1 / 7).floor < R + 1 := Rat.floor_lt_iff.mpr (by
      rw [Rat.intCast_add]
      have : ((1 : Int) : Rat) = 1 := rfl
      grind)
    omega
  rw [hF6] at eF6
  have sW2 := hd.mul (szi (i := m) (by omega))
  have eP1 := r_lplus (k := k + 9) (n := 200) (μ := St (a + 9)) (d * ((R : Rat) + 1 - 1 / 7)) (d * (m : Rat)) sH sW2 (by decide) (by decide)
  have sP1 := sH.add sW2
  have eI4 := r_linside_f (k := k + 8) (n := 200) (μ := St (a + 9)) (d * ((R : Rat) + 1 - 1 / 7) + d * (m : Rat)) d (R - m) (R + (m + 1) - 1) sP1.mono hd.mono (szi (by omega)).mono (szi (by omega)).mono (by decide) (.inl (by
    rw [Rat.intCast_sub, Rat.intCast_add, Rat.intCast_add]
    have : ((1 : Int) : Rat) = 1 := rfl
    grind))
  have eI5 := r_linside_t (k := k + 8) (n := 200) (μ := St (a + 9)) (d * ((R : Rat) + 1 - 1 / 7) + d * (m : Rat)) d (R - m) (R + (m + 1)) sP1.mono hd.mono (szi (by omega)).mono (szi (by omega)).mono (by decide) (by
    have dm : 0 ≤ d * ((m : Int) : Rat) := Rat.mul_nonneg (Rat.le_of_lt hd0) (by exact_mod_cast b9)
    rw [Rat.intCast_sub]
    grind) (by
    rw [Rat.intCast_add, Rat.intCast_add]
    have : ((1 : Int) : Rat) = 1 := rfl
    grind)
  have eL1 := r_lmult (k := k + 9) (n := 100) (μ := St (a + 9)) d (R : Rat) hd (szi (i := R) (by omega)) (by decide) (by decide)
  rw [rD_int] at eL1
  have sL1 := hd.mul (szi (i := R) (by omega))
  have eL := r_lminus (k := k + 8) (n := 200) (μ := St (a + 9)) (d * (R : Rat)) (d * (m : Rat)) sL1 sW2 (by decide) (by decide)
  have sL := sL1.sub sW2
  have eI6 := r_linside_f (k := k + 8) (n := 200) (μ := St (a + 9)) (d * (R : Rat) - d * (m : Rat)) d (R - m + 1) (R + (m + 1)) sL.mono hd.mono (szi (by omega)).mono (szi (by omega)).mono (by decide) (.inr (by
    rw [Rat.intCast_add, Rat.intCast_sub]
    have : ((1 : Int) : Rat) = 1 := rfl
    grind))
  have eI7 := r_linside_t (k := k + 8) (n := 200) (μ := St (a + 9)) (d * (R : Rat) - d * (m : Rat)) d (R - m) (R + (m + 1)) sL.mono hd.mono (szi (by omega)).mono (szi (by omega)).mono (by decide) (by
    rw [Rat.intCast_sub]
    grind) (by
    have dm : 0 ≤ d * ((m : Int) : Rat) := Rat.mul_nonneg (Rat.le_of_lt hd0) (by exact_mod_cast b9)
    rw [Rat.intCast_add, Rat.intCast_add]
    have : ((1 : Int) : Rat) = 1 := rfl
    grind)
  obtain ⟨mo, b11, b12, e8⟩ := r_take (k := k + 10) (a := a + 9) ns t (ms.length : Int) h (by omega) (by omega)
  obtain ⟨co, b13, b14, e9⟩ := r_take (k := k + 10) (a := a + 10) ns t (cs.length : Int) h (by omega) (by omega)
  obtain ⟨i, rfl⟩ := Int.eq_ofNat_of_zero_le b11
  obtain ⟨j, rfl⟩ := Int.eq_ofNat_of_zero_le b13
  have hi : i < rows.length := by omega
  obtain ⟨bs, hbs, hbl, hbo⟩ := hgood rows[i] (List.getElem_mem hi)
  have hj : j < bs.length := by omega
  obtain ⟨lo, hi', hb1, hle, sl, sh⟩ := hbo bs[j] (List.getElem_mem hj)
  have gi : rows[i]? = some (.tup bs) := by rw [List.getElem?_eq_getElem hi, hbs]
  have gj : bs[j]? = some (.tup [.tup [rD lo, rD hi']]) := by rw [List.getElem?_eq_getElem hj, hb1]
  have ai : atI rows (i : Int) = some (.tup bs) := atI_nat gi
  have aj : atI bs (j : Int) = some (.tup [.tup [rD lo, rD hi']]) := atI_nat gj
  have eBB := r_beat_box (k := k + 6) (μ := St (a + 11)) i j beat lo hi' x0 x1 (.tup ms) (.tup cs) sw (.tup [.tup [rD err], x7]) x8 rows bs gi gj sl sh hb
  rw [Rat.mul_comm lo, Rat.mul_comm hi'] at eBB
  have eQ1 := r_lmult (k := k + 9) (n := 100) (μ := St (a + 11)) beat lo hb sl (by decide) (by decide)
  have eQ2 := r_lmult (k := k + 9) (n := 100) (μ := St (a + 11)) beat hi' hb sh (by decide) (by decide)
  have sQ1 := hb.mul sl
  have sQ2 := hb.mul sh
  have eS6 := r_same (μ := St (a + 11)) 3 (k + 7) (.tup [.tup [rD (beat * lo), rD (beat * hi')]]) (by simp [plain, rD])
  obtain ⟨y, eB2, y1, y2, hy⟩ := r_between (k := k + 7) ns t h (a + 11) (by omega) lo hi' hle sl sh
  have eQ3 := r_lmult (k := k + 9) (n := 100) (μ := St (a + 12)) beat y hb hy (by decide) (by decide)
  have sQ3 := hb.mul hy
  have eL2 := r_lplus (k := k + 9) (n := 100) (μ := St (a + 12)) x (beat * y) hx sQ3 (by decide) (by decide)
  have sL2 := hx.add sQ3
  have eO := r_made_whole (k := k + 6) (a := 10) (μ := St (a + 12)) d (beat * lo) (beat * hi') hdn sQ1.mono sQ2.mono hd.mono (by decide)
  have ho1 := fl (w := beat * lo) hd0
  have ho2 := ce (w := beat * hi') hd0
  have so1 := sz_abs (sz_floor (sQ1.div hd hdn) (by decide))
  have so2 := sz_abs (sz_ceil (sQ2.div hd hdn) (by decide))
  generalize (beat * lo / d).floor = o1 at *
  generalize (beat * hi' / d).ceil = o2 at *
  have eG := r_gone_on (k := k + 10) (μ := St (a + 12)) L H o1 o2
  have eS7 := r_same (μ := St (a + 12)) 2 (k + 8) (.tup [.tup [.int (L + o1), .int (H + o2)]]) (by simp [plain])
  have p1 := Rat.mul_le_mul_of_nonneg_left y1 (Rat.le_of_lt hb0)
  have p2 := Rat.mul_le_mul_of_nonneg_left y2 (Rat.le_of_lt hb0)
  have eI8 := r_linside_t (k := k + 8) (n := 100) (μ := St (a + 12)) (x + beat * y) d (L + o1) (H + o2) sL2.mono hd.mono (szi (by omega)).mono (szi (by omega)).mono (by decide) (by
    rw [Rat.intCast_add]; grind) (by rw [Rat.intCast_add]; grind)
  refine ⟨St (a + 12), ?_⟩
  rw [u_law, b_law]
  have a2 : atI [x0, x1, .tup ms, .tup cs, rD beat, .tup rows, sw, .tup [.tup [rD err], x7], x8] 2 = some (.tup ms) := by simp [atI, ixN]
  have a3 : atI [x0, x1, .tup ms, .tup cs, rD beat, .tup rows, sw, .tup [.tup [rD err], x7], x8] 3 = some (.tup cs) := by simp [atI, ixN]
  have a4 : atI [x0, x1, .tup ms, .tup cs, rD beat, .tup rows, sw, .tup [.tup [rD err], x7], x8] 4 = some (rD beat) := by simp [atI, ixN]
  have a5 : atI [x0, x1, .tup ms, .tup cs, rD beat, .tup rows, sw, .tup [.tup [rD err], x7], x8] 5 = some (.tup rows) := by simp [atI, ixN]
  have a7 : atI [x0, x1, .tup ms, .tup cs, rD beat, .tup rows, sw, .tup [.tup [rD err], x7], x8] 7 = some (.tup [.tup [rD err], x7]) := by simp [atI, ixN]
  have t0 : ∀ (p q : D) , atI [p, q] 0 = some p := fun p q => by simp [atI, ixN]
  have t1 : ∀ (p q : D) , atI [p, q] 1 = some q := fun p q => by simp [atI, ixN]
  have t2 : ∀ (p : D) , atI [p] 0 = some p := fun p => by simp [atI, ixN]
  simp -implicitDefEqProofs [szle, a2, a3, a4, a5, a7, t0, t1, t2, eD, eP, eU, e1, e2, eX, eR, eR2, eR3, eS1, eS2, eB, eW, eF, eF2, eT, eS3, eI1, e5, e6, eF3, eF4, eM1, eM2, eS4, eI2, eI3, eF5, eM3, eM4, eS5, e7, eW2, eR4, eN, eH1, eH, eF6, eP1, eI4, eI5, eL1, eL, eI6, eI7, e8, e9, ai, aj, eBB, eQ1, eQ2, eS6, eB2, eQ3, eL2, eO, eG, eS7, eI8]
abbrev kk : Nat := 20
theorem law_true (ns : List Int) (h : ns.length ≤ 63) : ∃ μ', Py.run (pfs.map (·.fn)) Γ kk f_law [.scr (ns.map D.int)] [] = some (.bl true, μ') := law_core 8 ns h
end P47
end
section
set_option Elab.async false
set_option linter.all false
set_option maxRecDepth 100000
set_option maxHeartbeats 0
namespace P47
open PySem L2 Py
theorem chk : pfs.all (fun p => p.ok (pfs.map (·.name)) gls) = true := by decide +kernel
theorem bnd_greatest_divisor : BindOk p_greatest_divisor := fun _ _ _ _ _ _ us hl => match us, hl with | [_, _], _ => rfl
theorem bnd_ratio : BindOk p_ratio := fun _ _ _ _ _ _ us hl => match us, hl with | [_, _], _ => rfl
theorem bnd_times : BindOk p_times := fun _ _ _ _ _ _ us hl => match us, hl with | [_, _], _ => rfl
theorem bnd_over : BindOk p_over := fun _ _ _ _ _ _ us hl => match us, hl with | [_, _], _ => rfl
theorem bnd_box_times : BindOk p_box_times := fun _ _ _ _ _ _ us hl => match us, hl with | [_, _], _ => rfl
theorem bnd_rates_of : BindOk p_rates_of := fun _ _ _ _ _ _ us hl => match us, hl with | [_, _, _], _ => rfl
theorem bnd_beat_box : BindOk p_beat_box := fun _ _ _ _ _ _ us hl => match us, hl with | [_, _, _], _ => rfl
theorem bnd_down : BindOk p_down := fun _ _ _ _ _ _ us hl => match us, hl with | [_, _], _ => rfl
theorem bnd_up : BindOk p_up := fun _ _ _ _ _ _ us hl => match us, hl with | [_, _], _ => rfl
theorem bnd_made_whole : BindOk p_made_whole := fun _ _ _ _ _ _ us hl => match us, hl with | [_, _], _ => rfl
theorem bnd_is_whole_box : BindOk p_is_whole_box := fun _ _ _ _ _ _ us hl => match us, hl with | [_, _], _ => rfl
theorem bnd_read_pair : BindOk p_read_pair := fun _ _ _ _ _ _ us hl => match us, hl with | [_, _], _ => rfl
theorem bnd_read_pairs : BindOk p_read_pairs := fun _ _ _ _ _ _ us hl => match us, hl with | [_, _], _ => rfl
theorem bnd_reading_of : BindOk p_reading_of := fun _ _ _ _ _ _ us hl => match us, hl with | [_, _], _ => rfl
theorem bnd_read_box : BindOk p_read_box := fun _ _ _ _ _ _ us hl => match us, hl with | [_, _], _ => rfl
theorem bnd_gone_on : BindOk p_gone_on := fun _ _ _ _ _ _ us hl => match us, hl with | [_, _], _ => rfl
theorem bnd_met_boxes : BindOk p_met_boxes := fun _ _ _ _ _ _ us hl => match us, hl with | [_, _], _ => rfl
theorem bnd__law_deal : BindOk p__law_deal := fun _ _ _ _ _ _ us hl => match us, hl with | [_], _ => rfl
theorem bnd__law_take : BindOk p__law_take := fun _ _ _ _ _ _ us hl => match us, hl with | [_, _], _ => rfl
theorem bnd__law_same : BindOk p__law_same := fun _ _ _ _ _ _ us hl => match us, hl with | [_, _], _ => rfl
theorem bnd__law_ratio : BindOk p__law_ratio := fun _ _ _ _ _ _ us hl => match us, hl with | [_, _], _ => rfl
theorem bnd__law_plus : BindOk p__law_plus := fun _ _ _ _ _ _ us hl => match us, hl with | [_, _], _ => rfl
theorem bnd__law_mult : BindOk p__law_mult := fun _ _ _ _ _ _ us hl => match us, hl with | [_, _], _ => rfl
theorem bnd__law_minus : BindOk p__law_minus := fun _ _ _ _ _ _ us hl => match us, hl with | [_, _], _ => rfl
theorem bnd__law_pick : BindOk p__law_pick := fun _ _ _ _ _ _ us hl => match us, hl with | [_, _], _ => rfl
theorem bnd__law_line : BindOk p__law_line := fun _ _ _ _ _ _ us hl => match us, hl with | [_, _, _, _], _ => rfl
theorem bnd__law_floor : BindOk p__law_floor := fun _ _ _ _ _ _ us hl => match us, hl with | [_, _], _ => rfl
theorem bnd__law_ceil : BindOk p__law_ceil := fun _ _ _ _ _ _ us hl => match us, hl with | [_, _], _ => rfl
theorem bnd__law_not_above : BindOk p__law_not_above := fun _ _ _ _ _ _ us hl => match us, hl with | [_, _], _ => rfl
theorem bnd__law_plant_of : BindOk p__law_plant_of := fun _ _ _ _ _ _ us hl => match us, hl with | [_], _ => rfl
theorem bnd__law_edge : BindOk p__law_edge := fun _ _ _ _ _ _ us hl => match us, hl with | [_], _ => rfl
theorem bnd__law_reads : BindOk p__law_reads := fun _ _ _ _ _ _ us hl => match us, hl with | [_, _], _ => rfl
theorem bnd__law_between : BindOk p__law_between := fun _ _ _ _ _ _ us hl => match us, hl with | [_, _, _], _ => rfl
theorem bnd__law_inside : BindOk p__law_inside := fun _ _ _ _ _ _ us hl => match us, hl with | [_, _, _], _ => rfl
theorem bnd__law_unit : BindOk p__law_unit := fun _ _ _ _ _ _ us hl => match us, hl with | [_], _ => rfl
theorem bnd__law_whole : BindOk p__law_whole := fun _ _ _ _ _ _ us hl => match us, hl with | [_, _], _ => rfl
theorem bnd__law_left : BindOk p__law_left := fun _ _ _ _ _ _ us hl => match us, hl with | [_, _], _ => rfl
theorem bnd_law : BindOk p_law := fun _ _ _ _ _ _ us hl => match us, hl with | [_], _ => rfl
theorem bnd : ∀ p ∈ pfs, BindOk p := by
  intro p hp
  simp only [pfs, List.mem_cons, List.not_mem_nil, or_false] at hp
  rcases hp with rfl | rfl | rfl | rfl | rfl | rfl | rfl | rfl | rfl | rfl | rfl | rfl | rfl | rfl | rfl | rfl | rfl | rfl | rfl | rfl | rfl | rfl | rfl | rfl | rfl | rfl | rfl | rfl | rfl | rfl | rfl | rfl | rfl | rfl | rfl | rfl | rfl | rfl
  · exact bnd_greatest_divisor
  · exact bnd_ratio
  · exact bnd_times
  · exact bnd_over
  · exact bnd_box_times
  · exact bnd_rates_of
  · exact bnd_beat_box
  · exact bnd_down
  · exact bnd_up
  · exact bnd_made_whole
  · exact bnd_is_whole_box
  · exact bnd_read_pair
  · exact bnd_read_pairs
  · exact bnd_reading_of
  · exact bnd_read_box
  · exact bnd_gone_on
  · exact bnd_met_boxes
  · exact bnd__law_deal
  · exact bnd__law_take
  · exact bnd__law_same
  · exact bnd__law_ratio
  · exact bnd__law_plus
  · exact bnd__law_mult
  · exact bnd__law_minus
  · exact bnd__law_pick
  · exact bnd__law_line
  · exact bnd__law_floor
  · exact bnd__law_ceil
  · exact bnd__law_not_above
  · exact bnd__law_plant_of
  · exact bnd__law_edge
  · exact bnd__law_reads
  · exact bnd__law_between
  · exact bnd__law_inside
  · exact bnd__law_unit
  · exact bnd__law_whole
  · exact bnd__law_left
  · exact bnd_law
abbrev R : PySem.W.OpenRow := PySem.W.OpenLaw.row PySem.Challenge.rw_surepilot_k47_whole_readings_tell_the_qu
abbrev hk : PySem.W.Hook := He.hookD 4 (faOf pfs) (pfs.map dOf)
def ob (s : PySem.W.SharedT) : He.AlD := He.obsDG 4 (faOf pfs) (pfs.map dOf) (HandSHeadRun.getT s)
theorem ob_eq (s : PySem.W.SharedT) : ob s = hk.obs s.abs := He.obsDG_eq (HandSHeadRun.getT_eq s)
def loose0 : List Str := ["greatest_divisor", "ratio", "times", "over", "box_times", "rates_of", "beat_box", "down", "up", "made_whole", "is_whole_box", "read_pair", "read_pairs", "reading_of", "read_box", "gone_on", "met_boxes", "_law_deal", "_law_take", "_law_same", "_law_ratio", "_law_plus", "_law_mult", "_law_minus", "_law_pick", "_law_line", "_law_floor", "_law_ceil", "_law_not_above", "_law_plant_of"]
def loose1 : List Str := ["_law_edge", "_law_reads", "_law_between", "_law_inside", "_law_unit", "_law_whole", "_law_left"]
def loose : List Str := loose0 ++ loose1
theorem run0 (w : World) : HandSHeadRun.RunEq R (PySem.W.view R.prog [42]) hk ob 6000 loose w := by
  intro os
  kernel_rfl
end P47
end
section
set_option Elab.async false
set_option linter.all false
set_option maxRecDepth 100000
set_option maxHeartbeats 0
open PySem PySem.W PySem.Calls PyProof.Rows
theorem PySem.Challenge.cw_surepilot_k47_whole_readings_tell_the_qu_holds : PySem.Challenge.rw_surepilot_k47_whole_readings_tell_the_qu.Holds := by
  w_on; o_law
  refine HandSHeadRun.head_any (r := OpenLaw.row PySem.Challenge.rw_surepilot_k47_whole_readings_tell_the_qu) (q := view (OpenLaw.row PySem.Challenge.rw_surepilot_k47_whole_readings_tell_the_qu).prog [42]) (H := P47.hk) (ob := P47.ob) (M := 6000) (loose := P47.loose) (d := HandSHeadRun.topDef (OpenLaw.row PySem.Challenge.rw_surepilot_k47_whole_readings_tell_the_qu).prog 42) (kwd := []) P47.ob_eq
    (by kernel_rfl) (fun s => by kernel_rfl) P47.run0 (by kernel_rfl) (by kernel_rfl) (by kernel_rfl) (by rfl) (by first | assumption | decide +kernel) (by decide +kernel) ⟨rfl, rfl, rfl, rfl, rfl, by decide +kernel⟩ ?hw ?hc
  case hw => w_witness2
  case hc =>
    refine L2.walk_ofE (l := PySem.Challenge.rw_surepilot_k47_whole_readings_tell_the_qu) (n := 63) (k := P47.kk) (x := "script") (CX := L2.CX0) rfl (by decide) (by kernel_rfl) ⟨rfl, by decide, by decide⟩ ?F (fun _ _ _ _ z => z)
    intro w mg fa h Y G hmg0
    obtain ⟨K, KX, c⟩ := Y
    have hmg : mg (P47.p_law.name) = some (.ref fa) := by
      have e : (HandSHeadRun.topDef (OpenLaw.row PySem.Challenge.rw_surepilot_k47_whole_readings_tell_the_qu).prog 42).name = P47.p_law.name := by kernel_rfl
      rw [← e]
      exact hmg0
    obtain ⟨fd, hb, hF⟩ := Py.law_ok (P := (PySem.Challenge.rw_surepilot_k47_whole_readings_tell_the_qu).prog) (w := w) P47.pfs P47.gls P47.Γ P47.kk P47.f_law P47.p_law rfl rfl P47.chk P47.bnd P47.hg KX G hmg c
    exact ⟨K, fd, _, KX, hb, fun H a ns hl _ hS => Py.law_sp P47.law_true H a ns hl hS, hF⟩
end
