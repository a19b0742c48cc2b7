import PyProof.Rows.All
import Wide.All
import OpenK.AllK
import Wide.FinOn
import HandS.ForMost
import HandS.ForExc
import HandS.Wide
import HandS.WideBits
import HandS.Gcd
import HandS.IsInst
import HandS.Conv
import HandS.TupAny
import HandS.TupMul
import HandS.Flow
import HandS.Walk
import HandS.NoneIn
import HandS.Zip
import HandS.ExcInit
import KE.KExcSuper
import KE.KSuper
import HandS.WordsExc
import HandS.ExcField
import HandS.List
import PySem.Challenge.RW_inkworks_k51_booklets
import KE.RegKSuper
import KE.RegKTryMore
set_option Elab.async false
set_option linter.all false
set_option maxRecDepth 100000
set_option maxHeartbeats 4000000
/-! Data readings: a layer over the hand layer. Slots and lists hold data; tuples are data. -/
namespace Pd
open PySem PySem.Spec PyProof.Rows L2

/-! ### data and what represents it -/
mutual
def Rp (K : PySem.W.Frag) (H : Hp) : PyData → V → Prop
  | .none, v => v = .non
  | .bool b, v => v = .bl b
  | .int i, v => v = .int i
  | .str s, v => v = .str s
  | .tuple ds, v => ∃ a xs, v = .ref a ∧ SqT K H a xs ∧ RpL K H ds xs
  | .list _, _ => False
  | .dict _, _ => False
def RpL (K : PySem.W.Frag) (H : Hp) : List PyData → List V → Prop
  | [], xs => xs = []
  | d :: ds, xs => ∃ v vs, xs = v :: vs ∧ Rp K H d v ∧ RpL K H ds vs
end

/-- what never changes -/
def Pst : HO → Bool
  | .tup _ => true
  | .frz _ (.tup _) => true
  | .frz _ (.lst _) => true
  | .xd _ => true
  | _ => false
def Tx (H H' : Hp) : Prop := ∀ a o, Pst o = true → H a = some o → H' a = some o
theorem Tx.refl (H : Hp) : Tx H H := fun _ _ _ h => h
theorem Tx.trans {H H1 H2 : Hp} (a : Tx H H1) (b : Tx H1 H2) : Tx H H2 := fun x o p h => b x o p (a x o p h)
theorem SqT.tx {K : PySem.W.Frag} {H H' : Hp} {a : Addr} {xs : List V} (t : Tx H H') (h : SqT K H a xs) : SqT K H' a xs := by
  rcases h with (h | ⟨o, h⟩) | h
  · exact .inl (.inl (t _ _ rfl h))
  · exact .inl (.inr ⟨o, t _ _ rfl h⟩)
  · exact .inr h
mutual
theorem Rp.tx {K : PySem.W.Frag} {H H' : Hp} (t : Tx H H') : ∀ (d : PyData) (v : V), Rp K H d v → Rp K H' d v
  | .none, _, h => h
  | .bool _, _, h => h
  | .int _, _, h => h
  | .str _, _, h => h
  | .tuple ds, _, h => by
    obtain ⟨a, xs, e, s, r⟩ := h
    exact ⟨a, xs, e, SqT.tx t s, RpL.tx t ds xs r⟩
  | .list _, _, h => h.elim
  | .dict _, _, h => h.elim
theorem RpL.tx {K : PySem.W.Frag} {H H' : Hp} (t : Tx H H') : ∀ (ds : List PyData) (vs : List V), RpL K H ds vs → RpL K H' ds vs
  | [], _, h => h
  | d :: ds, _, h => by
    obtain ⟨v, vs, e, r, rs⟩ := h
    exact ⟨v, vs, e, Rp.tx t d v r, RpL.tx t ds vs rs⟩
end
theorem RpL.length {K : PySem.W.Frag} {H : Hp} : ∀ {ds : List PyData} {vs : List V}, RpL K H ds vs → vs.length = ds.length
  | [], _, h => by
    have h : _ = [] := h
    subst h
    rfl
  | d :: ds, _, h => by
    obtain ⟨v, vs, rfl, r, rs⟩ := h
    rw [List.length_cons, List.length_cons, RpL.length rs]
theorem RpL.at {K : PySem.W.Frag} {H : Hp} : ∀ {ds : List PyData} {vs : List V}, RpL K H ds vs → ∀ {i : Nat} {d : PyData}, ds[i]? = some d → ∃ v, vs[i]? = some v ∧ Rp K H d v
  | [], _, h, i, d, e => by simp at e
  | d :: ds, _, h, i, d', e => by
    obtain ⟨v, vs, rfl, r, rs⟩ := h
    cases i with
    | zero =>
      cases (Option.some.inj e : d = d')
      exact ⟨v, rfl, r⟩
    | succ i => exact RpL.at rs (i := i) e
theorem RpL.at' {K : PySem.W.Frag} {H : Hp} : ∀ {ds : List PyData} {vs : List V}, RpL K H ds vs → ∀ {i : Nat} {v : V}, vs[i]? = some v → ∃ d, ds[i]? = some d ∧ Rp K H d v
  | [], _, h, i, d, e => by
    have h : _ = [] := h
    subst h
    simp at e
  | d :: ds, _, h, i, d', e => by
    obtain ⟨v, vs, rfl, r, rs⟩ := h
    cases i with
    | zero =>
      cases (Option.some.inj e : v = d')
      exact ⟨d, rfl, r⟩
    | succ i => exact RpL.at' rs (i := i) e
theorem RpL.append {K : PySem.W.Frag} {H : Hp} : ∀ {ds es : List PyData} {vs ws : List V}, RpL K H ds vs → RpL K H es ws → RpL K H (ds ++ es) (vs ++ ws)
  | [], _, _, _, h, h2 => by
    have h : _ = [] := h
    subst h
    exact h2
  | d :: ds, _, _, _, h, h2 => by
    obtain ⟨v, vs, rfl, r, rs⟩ := h
    exact ⟨v, _, rfl, r, RpL.append rs h2⟩
theorem RpL.take {K : PySem.W.Frag} {H : Hp} : ∀ {ds : List PyData} {vs : List V}, RpL K H ds vs → ∀ n : Nat, RpL K H (ds.take n) (vs.take n)
  | _, _, _, 0 => rfl
  | [], _, h, n + 1 => by
    have h : _ = [] := h
    subst h
    rfl
  | d :: ds, _, h, n + 1 => by
    obtain ⟨v, vs, rfl, r, rs⟩ := h
    exact ⟨v, _, rfl, r, RpL.take rs n⟩
theorem RpL.drop {K : PySem.W.Frag} {H : Hp} : ∀ {ds : List PyData} {vs : List V}, RpL K H ds vs → ∀ n : Nat, RpL K H (ds.drop n) (vs.drop n)
  | _, _, h, 0 => h
  | [], _, h, n + 1 => by
    have h : _ = [] := h
    subst h
    rfl
  | d :: ds, _, h, n + 1 => by
    obtain ⟨v, vs, rfl, r, rs⟩ := h
    exact RpL.drop rs n
theorem RpL.reverse {K : PySem.W.Frag} {H : Hp} : ∀ {ds : List PyData} {vs : List V}, RpL K H ds vs → RpL K H ds.reverse vs.reverse
  | [], _, h => by
    have h : _ = [] := h
    subst h
    rfl
  | d :: ds, _, h => by
    obtain ⟨v, vs, rfl, r, rs⟩ := h
    rw [List.reverse_cons, List.reverse_cons]
    exact RpL.append (RpL.reverse rs) ⟨v, [], rfl, r, rfl⟩
mutual
theorem Rp.dp {K : PySem.W.Frag} {H : Hp} : ∀ (d : PyData) (v : V), Rp K H d v → Dp K H v d
  | .none, _, h => by cases (h : _ = _); exact .non
  | .bool _, _, h => by cases (h : _ = _); exact .bl _
  | .int _, _, h => by cases (h : _ = _); exact .int _
  | .str _, _, h => by cases (h : _ = _); exact .str _
  | .tuple ds, _, h => by
    obtain ⟨a, xs, rfl, s, r⟩ := h
    exact .tup s (RpL.dp ds xs r)
  | .list _, _, h => h.elim
  | .dict _, _, h => h.elim
theorem RpL.dp {K : PySem.W.Frag} {H : Hp} : ∀ (ds : List PyData) (vs : List V), RpL K H ds vs → DpAll K H vs ds
  | [], _, h => by cases (h : _ = _); exact .nil
  | d :: ds, _, h => by
    obtain ⟨v, vs, rfl, r, rs⟩ := h
    exact .cons (Rp.dp d v r) (RpL.dp ds vs rs)
end

/-- what a slot or a list's place holds: not known, data, a list or object at an address, a tuple of such -/
inductive SV where
  | un | da (d : PyData) | rf (p : Addr) | tp (xs : List SV) | ex (a d : Addr) (fs : List (Str × Str))
def exF (fs : List (Str × Str)) : List (Str × V) := fs.map fun p => (p.1, V.str p.2)
mutual
def RpV (K : PySem.W.Frag) (H : Hp) : SV → V → Prop
  | .un, _ => True
  | .da d, v => Rp K H d v
  | .rf p, v => v = .ref p
  | .tp xs, v => ∃ p vs, v = .ref p ∧ SqT K H p vs ∧ RpVs K H xs vs
  | .ex a d fs, v => v = .ref a ∧ H d = some (.xd (exF fs))
def RpVs (K : PySem.W.Frag) (H : Hp) : List SV → List V → Prop
  | [], vs => vs = []
  | x :: xs, vs => ∃ v ws, vs = v :: ws ∧ RpV K H x v ∧ RpVs K H xs ws
end
mutual
theorem RpV.tx' {K : PySem.W.Frag} {H H' : Hp} (t : Tx H H') : ∀ (x : SV) (v : V), RpV K H x v → RpV K H' x v
  | .un, _, _ => trivial
  | .da d, v, h => Rp.tx t d v h
  | .rf _, _, h => h
  | .tp xs, _, ⟨p, vs, e, s, r⟩ => ⟨p, vs, e, SqT.tx t s, RpVs.tx' t xs vs r⟩
  | .ex _ _ _, _, ⟨e, h⟩ => ⟨e, t _ _ rfl h⟩
theorem RpVs.tx' {K : PySem.W.Frag} {H H' : Hp} (t : Tx H H') : ∀ (xs : List SV) (vs : List V), RpVs K H xs vs → RpVs K H' xs vs
  | [], _, h => h
  | x :: xs, _, ⟨v, ws, e, r, rs⟩ => ⟨v, ws, e, RpV.tx' t x v r, RpVs.tx' t xs ws rs⟩
end
theorem RpV.tx {K : PySem.W.Frag} {H H' : Hp} (t : Tx H H') {x : SV} {v : V} (h : RpV K H x v) : RpV K H' x v := RpV.tx' t x v h
theorem RpVs.tx {K : PySem.W.Frag} {H H' : Hp} (t : Tx H H') {xs : List SV} {vs : List V} (h : RpVs K H xs vs) : RpVs K H' xs vs := RpVs.tx' t xs vs h
theorem RpVs.length {K : PySem.W.Frag} {H : Hp} : ∀ {xs : List SV} {vs : List V}, RpVs K H xs vs → vs.length = xs.length
  | [], _, h => by
    have h : _ = [] := h
    subst h
    rfl
  | x :: xs, _, h => by
    obtain ⟨v, vs, rfl, r, rs⟩ := h
    rw [List.length_cons, List.length_cons, RpVs.length rs]
theorem RpVs.at {K : PySem.W.Frag} {H : Hp} : ∀ {xs : List SV} {vs : List V}, RpVs K H xs vs → ∀ {i : Nat} {x : SV}, xs[i]? = some x → ∃ v, vs[i]? = some v ∧ RpV K H x v
  | [], _, h, i, d, e => by simp at e
  | y :: xs, _, h, i, x, e => by
    obtain ⟨v, vs, rfl, r, rs⟩ := h
    cases i with
    | zero =>
      cases (Option.some.inj e : y = x)
      exact ⟨v, rfl, r⟩
    | succ i => exact RpVs.at rs (i := i) e
theorem RpVs.at' {K : PySem.W.Frag} {H : Hp} : ∀ {xs : List SV} {vs : List V}, RpVs K H xs vs → ∀ {i : Nat} {v : V}, vs[i]? = some v → ∃ x, xs[i]? = some x ∧ RpV K H x v
  | [], _, h, i, d, e => by
    have h : _ = [] := h
    subst h
    simp at e
  | y :: xs, _, h, i, x, e => by
    obtain ⟨v, vs, rfl, r, rs⟩ := h
    cases i with
    | zero =>
      cases (Option.some.inj e : v = x)
      exact ⟨y, rfl, r⟩
    | succ i => exact RpVs.at' rs (i := i) e
theorem RpVs.append {K : PySem.W.Frag} {H : Hp} : ∀ {xs ys : List SV} {vs ws : List V}, RpVs K H xs vs → RpVs K H ys ws → RpVs K H (xs ++ ys) (vs ++ ws)
  | [], _, _, _, h, h2 => by
    have h : _ = [] := h
    subst h
    exact h2
  | d :: ds, _, _, _, h, h2 => by
    obtain ⟨v, vs, rfl, r, rs⟩ := h
    exact ⟨v, _, rfl, r, RpVs.append rs h2⟩
theorem RpVs.set {K : PySem.W.Frag} {H : Hp} {x : SV} {v : V} (r : RpV K H x v) : ∀ {xs : List SV} {vs : List V} (i : Nat), RpVs K H xs vs → RpVs K H (xs.set i x) (vs.set i v)
  | [], _, _, h => by
    have h : _ = [] := h
    subst h
    rfl
  | y :: xs, _, 0, h => by
    obtain ⟨w, vs, rfl, q, rs⟩ := h
    exact ⟨v, vs, rfl, r, rs⟩
  | y :: xs, _, i + 1, h => by
    obtain ⟨w, vs, rfl, q, rs⟩ := h
    exact ⟨w, _, rfl, q, RpVs.set r i rs⟩
theorem RpVs.dropLast {K : PySem.W.Frag} {H : Hp} : ∀ {xs : List SV} {vs : List V}, RpVs K H xs vs → RpVs K H xs.dropLast vs.dropLast
  | [], _, h => by
    have h : _ = [] := h
    subst h
    rfl
  | [x], _, h => by
    obtain ⟨v, vs, rfl, r, rs⟩ := h
    have rs : _ = [] := rs
    subst rs
    rfl
  | x :: y :: xs, _, h => by
    obtain ⟨v, vs, rfl, r, rs⟩ := h
    have q := RpVs.dropLast (xs := y :: xs) rs
    obtain ⟨w, ws, rfl, r2, rs2⟩ := rs
    exact ⟨v, _, rfl, r, q⟩
theorem RpVs.reverse {K : PySem.W.Frag} {H : Hp} : ∀ {ds : List SV} {vs : List V}, RpVs K H ds vs → RpVs K H ds.reverse vs.reverse
  | [], _, h => by
    have h : _ = [] := h
    subst h
    rfl
  | d :: ds, _, h => by
    obtain ⟨v, vs, rfl, r, rs⟩ := h
    rw [List.reverse_cons, List.reverse_cons]
    exact RpVs.append (RpVs.reverse rs) ⟨v, [], rfl, r, rfl⟩
theorem RpVs.take {K : PySem.W.Frag} {H : Hp} : ∀ {ds : List SV} {vs : List V}, RpVs K H ds vs → ∀ n : Nat, RpVs K H (ds.take n) (vs.take n)
  | _, _, _, 0 => rfl
  | [], _, h, n + 1 => by
    have h : _ = [] := h
    subst h
    rfl
  | d :: ds, _, h, n + 1 => by
    obtain ⟨v, vs, rfl, r, rs⟩ := h
    exact ⟨v, _, rfl, r, RpVs.take rs n⟩
theorem RpVs.drop {K : PySem.W.Frag} {H : Hp} : ∀ {ds : List SV} {vs : List V}, RpVs K H ds vs → ∀ n : Nat, RpVs K H (ds.drop n) (vs.drop n)
  | _, _, h, 0 => h
  | [], _, h, n + 1 => by
    have h : _ = [] := h
    subst h
    rfl
  | d :: ds, _, h, n + 1 => by
    obtain ⟨v, vs, rfl, r, rs⟩ := h
    exact RpVs.drop rs n
/-- a row of data -/
theorem RpVs.das {K : PySem.W.Frag} {H : Hp} : ∀ {ds : List PyData} {vs : List V}, RpVs K H (ds.map SV.da) vs ↔ RpL K H ds vs
  | [], _ => Iff.rfl
  | d :: ds, vs => by
    constructor
    · rintro ⟨v, ws, e, r, rs⟩
      exact ⟨v, ws, e, r, RpVs.das.mp rs⟩
    · rintro ⟨v, ws, e, r, rs⟩
      exact ⟨v, ws, e, r, RpVs.das.mpr rs⟩

/-- the slots -/
def RpO (K : PySem.W.Frag) (H : Hp) : SV → Option V → Prop
  | .un, _ => True
  | x, o => ∃ v, o = some v ∧ RpV K H x v
def RpS (K : PySem.W.Frag) (H : Hp) : List SV → L2.St → Prop
  | [], σ => σ = []
  | x :: δ, σ => ∃ o τ, σ = o :: τ ∧ RpO K H x o ∧ RpS K H δ τ
theorem RpO.tx {K : PySem.W.Frag} {H H' : Hp} (t : Tx H H') {x : SV} {o : Option V} (h : RpO K H x o) : RpO K H' x o := by
  cases x with
  | un => trivial
  | da d =>
    obtain ⟨v, e, r⟩ := h
    exact ⟨v, e, RpV.tx t r⟩
  | rf p => exact h
  | tp xs =>
    obtain ⟨v, e, r⟩ := h
    exact ⟨v, e, RpV.tx t r⟩
  | ex a d fs =>
    obtain ⟨v, e, r⟩ := h
    exact ⟨v, e, RpV.tx t r⟩
theorem RpS.tx {K : PySem.W.Frag} {H H' : Hp} (t : Tx H H') : ∀ {δ : List SV} {σ : L2.St}, RpS K H δ σ → RpS K H' δ σ
  | [], _, h => h
  | x :: xs, _, h => by
    obtain ⟨v, ws, e, r, rs⟩ := h
    exact ⟨v, ws, e, r.tx t, RpS.tx t rs⟩
theorem RpS.length {K : PySem.W.Frag} {H : Hp} : ∀ {δ : List SV} {σ : L2.St}, RpS K H δ σ → σ.length = δ.length
  | [], _, h => by
    have h : _ = [] := h
    subst h
    rfl
  | x :: xs, _, h => by
    obtain ⟨v, vs, rfl, r, rs⟩ := h
    rw [List.length_cons, List.length_cons, RpS.length rs]
def SV.known : SV → Bool
  | .un => false
  | _ => true
theorem RpS.get {K : PySem.W.Frag} {H : Hp} : ∀ {δ : List SV} {σ : L2.St}, RpS K H δ σ → ∀ {i : Nat} {x : SV}, δ[i]? = some x → x.known = true → ∃ v, σ[i]? = some (some v) ∧ RpV K H x v
  | [], _, h, i, x, e, _ => by simp at e
  | y :: xs, _, h, i, x, e, k => by
    obtain ⟨o, τ, rfl, r, rs⟩ := h
    cases i with
    | zero =>
      cases (Option.some.inj e : y = x)
      cases y with
      | un => cases k
      | da d =>
        obtain ⟨v, rfl, q⟩ := r
        exact ⟨v, rfl, q⟩
      | rf p =>
        obtain ⟨v, rfl, q⟩ := r
        exact ⟨v, rfl, q⟩
      | tp xs =>
        obtain ⟨v, rfl, q⟩ := r
        exact ⟨v, rfl, q⟩
      | ex a d fs =>
        obtain ⟨v, rfl, q⟩ := r
        exact ⟨v, rfl, q⟩
    | succ i => exact RpS.get rs (i := i) e k
theorem RpO.of {K : PySem.W.Frag} {H : Hp} {x : SV} {v : V} (r : RpV K H x v) : RpO K H x (some v) := by
  cases x with
  | un => trivial
  | da d => exact ⟨v, rfl, r⟩
  | rf p => exact ⟨v, rfl, r⟩
  | tp xs => exact ⟨v, rfl, r⟩
  | ex a d fs => exact ⟨v, rfl, r⟩
theorem RpS.set {K : PySem.W.Frag} {H : Hp} {x : SV} {v : V} (r : RpV K H x v) : ∀ {δ : List SV} {σ : L2.St} (i : Nat), RpS K H δ σ → RpS K H (δ.set i x) (σ.set i (some v))
  | [], _, _, h => by
    have h : _ = [] := h
    subst h
    rfl
  | y :: xs, _, 0, h => by
    obtain ⟨w, vs, rfl, q, rs⟩ := h
    exact ⟨some v, vs, rfl, RpO.of r, rs⟩
  | y :: xs, _, i + 1, h => by
    obtain ⟨w, vs, rfl, q, rs⟩ := h
    exact ⟨w, _, rfl, q, RpS.set r i rs⟩
/-- the comprehension's own names are forgotten -/
def wipeD (δ : List SV) : List Nat → List SV
  | [] => δ
  | i :: vs => wipeD (δ.set i .un) vs
theorem RpS.unset {K : PySem.W.Frag} {H : Hp} {o : Option V} : ∀ {δ : List SV} {σ : L2.St} (i : Nat), RpS K H δ σ → RpS K H (δ.set i .un) (σ.set i o)
  | [], _, _, h => by
    have h : _ = [] := h
    subst h
    rfl
  | y :: xs, _, 0, h => by
    obtain ⟨w, vs, rfl, q, rs⟩ := h
    exact ⟨o, vs, rfl, trivial, rs⟩
  | y :: xs, _, i + 1, h => by
    obtain ⟨w, vs, rfl, q, rs⟩ := h
    exact ⟨w, _, rfl, q, RpS.unset i rs⟩
theorem RpS.start {K : PySem.W.Frag} {H : Hp} {N : List Str} : ∀ {xs : List SV} {vs : List V}, RpVs K H xs vs → RpS K H (xs ++ List.replicate (N.length - xs.length) .un) (L2.start N vs) := by
  have tail : ∀ n, RpS K H (List.replicate n SV.un) (List.replicate n Option.none) := by
    intro n
    induction n with
    | zero => rfl
    | succ n ih => exact ⟨Option.none, _, rfl, trivial, ih⟩
  intro xs vs h
  have e := h.length
  unfold L2.start
  rw [e]
  generalize N.length - xs.length = n
  induction xs generalizing vs with
  | nil =>
    have h : _ = [] := h
    subst h
    exact tail n
  | cons x xs ih =>
    obtain ⟨v, ws, rfl, r, rs⟩ := h
    exact ⟨some v, _, rfl, RpO.of r, ih rs rs.length⟩

/-- what stands at an address, in data -/
inductive DO where
  | lst (xs : List SV)
  | rol (xs : List SV)
  | dic (kvs : List (Key × SV))
  | ins (C dx : Addr) (fs : List (Str × SV))
def DO.isRol : DO → Bool
  | .rol _ => true
  | _ => false
def RpKs {κ : Type} (K : PySem.W.Frag) (H : Hp) : List (κ × SV) → List (κ × V) → Prop
  | [], vs => vs = []
  | x :: xs, vs => ∃ v ws, vs = (x.1, v) :: ws ∧ RpV K H x.2 v ∧ RpKs K H xs ws
theorem RpKs.tx {κ : Type} {K : PySem.W.Frag} {H H' : Hp} (t : Tx H H') : ∀ {xs : List (κ × SV)} {vs : List (κ × V)}, RpKs K H xs vs → RpKs K H' xs vs
  | [], _, h => h
  | x :: xs, _, h => by
    obtain ⟨v, ws, e, r, rs⟩ := h
    exact ⟨v, ws, e, r.tx t, RpKs.tx t rs⟩
/-- a list that is read alone: frozen, or an object of the module -/
def FrL (K : PySem.W.Frag) (H : Hp) (p : Addr) (vs : List V) : Prop := (∃ o, H p = some (.frz o (.lst vs))) ∨
    ∃ (o : Obj) (its : Array Value) (n : Nat), K.lookup p = some o ∧ o.cls = .type "list" ∧ o.dict = none ∧ o.data = .seq its n ∧ its.size ≤ sizeLine ∧ Vals vs its.toList
theorem FrL.sql {K : PySem.W.Frag} {H : Hp} {p : Addr} {vs : List V} (h : FrL K H p vs) : SqL K H p vs := by
  rcases h with ⟨o, h⟩ | h
  · exact .inl (.inr ⟨o, h⟩)
  · exact .inr h
theorem FrL.tx {K : PySem.W.Frag} {H H' : Hp} {p : Addr} {vs : List V} (t : Tx H H') (h : FrL K H p vs) : FrL K H' p vs := by
  rcases h with ⟨o, h⟩ | h
  · exact .inl ⟨o, t _ _ rfl h⟩
  · exact .inr h
def RpOb (K : PySem.W.Frag) (H : Hp) (p : Addr) : DO → Prop
  | .lst xs => ∃ vs, H p = some (.lst vs) ∧ RpVs K H xs vs
  | .rol xs => ∃ vs, FrL K H p vs ∧ RpVs K H xs vs
  | .dic kvs => ∃ ws, H p = some (.dK ws) ∧ RpKs K H kvs ws
  | .ins C dx fs => ∃ gs, H p = some (.ins C dx gs) ∧ RpKs K H fs gs
theorem RpOb.tx {K : PySem.W.Frag} {H H' : Hp} {p : Addr} {o : DO} (t : Tx H H') (e : o.isRol = false → H' p = H p) (h : RpOb K H p o) : RpOb K H' p o := by
  cases o with
  | lst xs =>
    obtain ⟨vs, h1, r⟩ := h
    exact ⟨vs, by rw [e rfl]; exact h1, r.tx t⟩
  | rol xs =>
    obtain ⟨vs, h1, r⟩ := h
    exact ⟨vs, h1.tx t, r.tx t⟩
  | dic xs =>
    obtain ⟨vs, h1, r⟩ := h
    exact ⟨vs, by rw [e rfl]; exact h1, RpKs.tx t r⟩
  | ins C dx fs =>
    obtain ⟨vs, h1, r⟩ := h
    exact ⟨vs, by rw [e rfl]; exact h1, RpKs.tx t r⟩

abbrev LS := List (Addr × DO)
/-- the state: S may change, H0 is the entry -/
structure Sg (K : PySem.W.Frag) (S : List Addr) (H0 : Hp) (L : LS) (H : Hp) : Prop where
  fm : ∀ a o, a ∉ S → H0 a = some o → H a = some o
  tx : Tx H0 H
  ob : ∀ p o, (p, o) ∈ L → RpOb K H p o
  fr : ∀ p o, (p, o) ∈ L → o.isRol = false → p ∈ S ∨ H0 p = none
  nd : ∀ (i j : Nat) (p : Addr) (o o' : DO), L[i]? = some (p, o) → L[j]? = some (p, o') → o.isRol = false → o'.isRol = false → i = j

/-- all that is tracked stays -/
def Ext (H H' : Hp) : Prop := ∀ a o, H a = some o → H' a = some o
theorem Ext.refl (H : Hp) : Ext H H := fun _ _ h => h
theorem Ext.trans {H H1 H2 : Hp} (a : Ext H H1) (b : Ext H1 H2) : Ext H H2 := fun x o h => b x o (a x o h)
theorem Ext.new {H : Hp} {p : Addr} {o : HO} (h : H p = none) : Ext H (upd H p o) := fun a u e => by
  rw [upd_ne (ne_of_none e h)]
  exact e
theorem Ext.tx {H H' : Hp} (e : Ext H H') : Tx H H' := fun a o _ h => e a o h
section
variable {K : PySem.W.Frag} {S : List Addr} {H0 H H' : Hp} {L : LS}
theorem RpOb.there {p : Addr} {o : DO} (h : RpOb K H p o) (n : o.isRol = false) : ∃ u, H p = some u ∧ Pst u = false := by
  cases o with
  | lst xs =>
    obtain ⟨vs, h1, r⟩ := h
    exact ⟨_, h1, rfl⟩
  | rol xs => cases n
  | dic xs =>
    obtain ⟨vs, h1, r⟩ := h
    exact ⟨_, h1, rfl⟩
  | ins C dx fs =>
    obtain ⟨vs, h1, r⟩ := h
    exact ⟨_, h1, rfl⟩
theorem Sg.ext (g : Sg K S H0 L H) (e : Ext H H') : Sg K S H0 L H' where
  fm := fun a o n h => e a o (g.fm a o n h)
  tx := g.tx.trans e.tx
  ob := fun p o h => (g.ob p o h).tx e.tx fun n => by
    obtain ⟨u, hu, _⟩ := (g.ob p o h).there n
    rw [hu, e p u hu]
  fr := g.fr
  nd := g.nd
theorem Sg.not_in (g : Sg K S H0 L H) {p : Addr} {o : DO} (hp : H p = none) (hm : (p, o) ∈ L) : o.isRol = true := by
  cases hr : o.isRol with
  | true => rfl
  | false =>
    obtain ⟨u, hu, _⟩ := (g.ob _ o hm).there hr
    rw [hp] at hu
    cases hu
/-- a new object is tracked -/
theorem Sg.new (g : Sg K S H0 L H) {p : Addr} {o : DO} {u : HO} (hp : H p = none) (ho : RpOb K (upd H p u) p o) : Sg K S H0 (L ++ [(p, o)]) (upd H p u) where
  fm := fun a w n h => (Ext.new hp) a w (g.fm a w n h)
  tx := g.tx.trans (Ext.new hp).tx
  ob := fun q w h => by
    rcases List.mem_append.mp h with h | h
    · exact (g.ext (Ext.new hp)).ob q w h
    · cases List.mem_singleton.mp h
      exact ho
  fr := fun q w h n => by
    rcases List.mem_append.mp h with h | h
    · exact g.fr q w h n
    · cases List.mem_singleton.mp h
      by_cases hs : p ∈ S
      · exact .inl hs
      · refine .inr ?_
        cases e : H0 p with
        | none => rfl
        | some w =>
          have := g.fm p w hs e
          rw [hp] at this
          cases this
  nd := fun i j q x y hi hj hx hy => by
    have old : ∀ (i : Nat) (x : DO), (L ++ [(p, o)])[i]? = some (p, x) → x.isRol = false → i = L.length := fun i x hi hx => by
      by_cases h1 : i < L.length
      · rw [List.getElem?_append_left h1] at hi
        have := g.not_in hp (List.mem_of_getElem? hi)
        rw [hx] at this
        cases this
      · obtain ⟨h2, _⟩ := List.getElem?_eq_some_iff.mp hi
        rw [List.length_append, List.length_singleton] at h2
        omega
    by_cases e : q = p
    · subst e
      rw [old i x hi hx, old j y hj hy]
    · have low : ∀ (i : Nat) (x : DO), (L ++ [(p, o)])[i]? = some (q, x) → L[i]? = some (q, x) := fun i x hi => by
        by_cases h1 : i < L.length
        · rw [List.getElem?_append_left h1] at hi
          exact hi
        · obtain ⟨h2, h3⟩ := List.getElem?_eq_some_iff.mp hi
          rw [List.length_append, List.length_singleton] at h2
          have h4 : i = L.length := by omega
          subst h4
          rw [List.getElem?_concat_length] at hi
          cases hi
          exact absurd rfl e
      exact g.nd i j q x y (low i x hi) (low j y hj) hx hy
/-- an object is changed -/
theorem Sg.put (g : Sg K S H0 L H) {k : Nat} {p : Addr} {o o' : DO} {u : HO} (hk : L[k]? = some (p, o)) (hn : o.isRol = false) (hu : Pst u = false) (hu' : o'.isRol = false) (ho : Tx H (upd H p u) → RpOb K (upd H p u) p o') : Sg K S H0 (L.set k (p, o')) (upd H p u) ∧ Tx H (upd H p u) := by
  have hm : (p, o) ∈ L := List.mem_of_getElem? hk
  obtain ⟨w, hw, pw⟩ := (g.ob p o hm).there hn
  have np : ∀ a x, Pst x = true → H a = some x → a ≠ p := fun a x px hx z => by
    subst z
    rw [hw] at hx
    cases hx
    rw [pw] at px
    cases px
  have t : Tx H (upd H p u) := fun a x px hx => by
    rw [upd_ne (np a x px hx)]
    exact hx
  obtain ⟨hlt, hke⟩ := List.getElem?_eq_some_iff.mp hk
  have low : ∀ (i : Nat) (q : Addr) (x : DO), (L.set k (p, o'))[i]? = some (q, x) → (i = k ∧ q = p ∧ x = o') ∨ (i ≠ k ∧ L[i]? = some (q, x)) := fun i q x hi => by
    by_cases e : i = k
    · subst e
      rw [List.getElem?_set_self hlt] at hi
      cases hi
      exact .inl ⟨rfl, rfl, rfl⟩
    · rw [List.getElem?_set_ne (Ne.symm e)] at hi
      exact .inr ⟨e, hi⟩
  refine ⟨⟨fun a x ns hx => ?_, g.tx.trans t, fun q x hq => ?_, fun q x hq nr => ?_, fun i j q x y hi hj hx hy => ?_⟩, t⟩
  · rw [upd_ne ?_]
    · exact g.fm a x ns hx
    · rintro rfl
      rcases g.fr _ o hm hn with z | z
      · exact ns z
      · rw [z] at hx
        cases hx
  · obtain ⟨i, hi⟩ := List.mem_iff_getElem?.mp hq
    rcases low i q x hi with ⟨rfl, rfl, rfl⟩ | ⟨e, hi'⟩
    · exact ho t
    · have hq' : (q, x) ∈ L := List.mem_of_getElem? hi'
      refine (g.ob q x hq').tx t fun nr => upd_ne fun z => ?_
      subst z
      exact e (g.nd i k _ x o hi' hk nr hn)
  · obtain ⟨i, hi⟩ := List.mem_iff_getElem?.mp hq
    rcases low i q x hi with ⟨rfl, rfl, rfl⟩ | ⟨e, hi⟩
    · exact g.fr _ o hm hn
    · exact g.fr q x (List.mem_of_getElem? hi) nr
  · rcases low i q x hi with ⟨rfl, rfl, rfl⟩ | ⟨e, hi'⟩
    · rcases low j _ y hj with ⟨rfl, _, rfl⟩ | ⟨e, hj'⟩
      · rfl
      · exact (g.nd _ j _ o y hk hj' hn hy)
    · rcases low j q y hj with ⟨rfl, rfl, rfl⟩ | ⟨e2, hj'⟩
      · exact g.nd i _ _ x o hi' hk hx hn
      · exact g.nd i j q x y hi' hj' hx hy
theorem Sg.at (g : Sg K S H0 L H) {k : Nat} {p : Addr} {o : DO} (hk : L[k]? = some (p, o)) : RpOb K H p o := g.ob p o (List.mem_of_getElem? hk)
end
end Pd
namespace Pd
open PySem PySem.Spec PyProof.Rows L2

/-! ### readings over data -/
abbrev WE := List SV → LS → (SV → LS → Prop) → Prop
abbrev WT := List SV → LS → (Bool → LS → Prop) → Prop
abbrev WA := List SV → LS → (List SV → LS → Prop) → Prop
/-- what is wanted behind a statement; ex: of an exception of a class, with its fields -/
structure DE where
  nx : List SV → LS → Prop
  rt : SV → LS → Prop
  bk : List SV → LS → Prop := fun _ _ => False
  ct : List SV → LS → Prop := fun _ _ => False
  ex : Value → List (Str × SV) → List SV → LS → Prop := fun _ _ _ _ => False
abbrev WS := DE → List SV → LS → Prop

def canE (K : PySem.W.Frag) (W : WE) : TE := fun σ H Q2 => ∃ (S : List Addr) (H0 : Hp) (δ : List SV) (L : LS) (Qd : SV → LS → Prop), Sg K S H0 L H ∧ RpS K H δ σ ∧ W δ L Qd ∧
  ∀ x L' v H', Qd x L' → Sg K S H0 L' H' → Tx H H' → RpV K H' x v → Q2 v H'
def canT (K : PySem.W.Frag) (W : WT) : TT := fun σ H Q2 => ∃ (S : List Addr) (H0 : Hp) (δ : List SV) (L : LS) (Qd : Bool → LS → Prop), Sg K S H0 L H ∧ RpS K H δ σ ∧ W δ L Qd ∧
  ∀ b L' H', Qd b L' → Sg K S H0 L' H' → Tx H H' → Q2 b H'
def canA (K : PySem.W.Frag) (W : WA) : TA := fun σ H Q2 => ∃ (S : List Addr) (H0 : Hp) (δ : List SV) (L : LS) (Qd : List SV → LS → Prop), Sg K S H0 L H ∧ RpS K H δ σ ∧ W δ L Qd ∧
  ∀ xs L' vs H', Qd xs L' → Sg K S H0 L' H' → Tx H H' → RpVs K H' xs vs → Q2 vs H'
/-- an exception's own dict -/
def ExD (K : PySem.W.Frag) (H : Hp) (d : Option Addr) (fs : List (Str × SV)) : Prop := (d = none ∧ fs = []) ∨ ∃ a gs, d = some a ∧ H a = some (.xd gs) ∧ RpKs K H fs gs
/-- Hs: the heap where the statement begins -/
structure EndsOk (K : PySem.W.Frag) (S : List Addr) (H0 : Hp) (Wx : WX) (Hs : Hp) (DD : DE) (D : Ends) : Prop where
  nx : ∀ δ L σ H, DD.nx δ L → Sg K S H0 L H → RpS K H δ σ → Tx Hs H → D.nx σ H
  rt : ∀ x L v H, DD.rt x L → Sg K S H0 L H → RpV K H x v → Tx Hs H → D.rt v H
  bk : ∀ δ L σ H, DD.bk δ L → Sg K S H0 L H → RpS K H δ σ → Tx Hs H → D.bk σ H
  ct : ∀ δ L σ H, DD.ct δ L → Sg K S H0 L H → RpS K H δ σ → Tx Hs H → D.ct σ H
  ex : ∀ cls fs δ L d σ H, DD.ex cls fs δ L → Sg K S H0 L H → RpS K H δ σ → ExD K H d fs → Tx Hs H → Wx cls d σ H
theorem EndsOk.sh {K : PySem.W.Frag} {S : List Addr} {H0 Hs H1 : Hp} {Wx : WX} {DD : DE} {D : Ends} (E : EndsOk K S H0 Wx Hs DD D) (t : Tx Hs H1) : EndsOk K S H0 Wx H1 DD D :=
  ⟨fun δ L σ H a b c d => E.nx δ L σ H a b c (t.trans d), fun δ L σ H a b c d => E.rt δ L σ H a b c (t.trans d), fun δ L σ H a b c d => E.bk δ L σ H a b c (t.trans d), fun δ L σ H a b c d => E.ct δ L σ H a b c (t.trans d),
    fun cls fs δ L d σ H a b c e f => E.ex cls fs δ L d σ H a b c e (t.trans f)⟩
def canS (K : PySem.W.Frag) (Wx : WX) (W : WS) : TS := fun D σ H => ∃ (S : List Addr) (H0 : Hp) (δ : List SV) (L : LS) (DD : DE), Sg K S H0 L H ∧ RpS K H δ σ ∧ W DD δ L ∧ EndsOk K S H0 Wx H DD D

abbrev XE (X : Cx) (e : Expr) (W : WE) : Prop := PE X e (canE X.K W)
abbrev XT (X : Cx) (e : Expr) (W : WT) : Prop := PT X e (canT X.K W)
abbrev XW (X : Cx) (e : Expr) (W : WT) : Prop := PW X e (canT X.K W)
abbrev XA (X : Cx) (es : List Expr) (W : WA) : Prop := PA X es (canA X.K W)
abbrev XS (X : Cx) (Wx : WX) (st : Stmt) (W : WS) : Prop := PS X st (canS X.K Wx W)
abbrev XSs (X : Cx) (Wx : WX) (st : List Stmt) (W : WS) : Prop := PSs X st (canS X.K Wx W)

section
variable {X : Cx}
theorem pe_imp {e : Expr} {t t' : TE} (h : PE X e t) (i : ∀ σ H Q, t' σ H Q → t σ H Q) : PE X e t' := ⟨fun pins s σ H Q I hw => h.run pins s σ H Q I (i σ H Q hw)⟩
theorem pt_imp {e : Expr} {t t' : TT} (h : PT X e t) (i : ∀ σ H Q, t' σ H Q → t σ H Q) : PT X e t' := ⟨fun pins s σ H Q I hw => h.run pins s σ H Q I (i σ H Q hw)⟩
theorem pw_imp {e : Expr} {t t' : TT} (h : PW X e t) (i : ∀ σ H Q, t' σ H Q → t σ H Q) : PW X e t' := ⟨fun wh pins s σ H Q I hw => h.run wh pins s σ H Q I (i σ H Q hw)⟩
theorem pa_imp {e : List Expr} {t t' : TA} (h : PA X e t) (i : ∀ σ H Q, t' σ H Q → t σ H Q) : PA X e t' := ⟨fun p pins s σ H Q I hw => h.run p pins s σ H Q I (i σ H Q hw)⟩
theorem ps_imp {e : Stmt} {t t' : TS} (h : PS X e t) (i : ∀ D σ H, t' D σ H → t D σ H) : PS X e t' := ⟨fun pins s σ H D I hw => h.run pins s σ H D I (i D σ H hw)⟩
theorem pss_imp {e : List Stmt} {t t' : TS} (h : PSs X e t) (i : ∀ D σ H, t' D σ H → t D σ H) : PSs X e t' := ⟨fun pins s σ H D I hw => h.run pins s σ H D I (i D σ H hw)⟩
end

/-! ### expressions -/
section
variable {X : Cx} {pos : Pos}
def wVar (i : Nat) : WE := fun δ L Q => match δ[i]? with
  | some (.da d) => Q (.da d) L
  | some (.rf p) => Q (.rf p) L
  | _ => False
theorem wVar_of {i : Nat} {δ : List SV} {L : LS} {Q : SV → LS → Prop} (h : wVar i δ L Q) : ∃ x, δ[i]? = some x ∧ x.known = true ∧ Q x L := by
  unfold wVar at h
  split at h
  · exact ⟨_, by assumption, rfl, h⟩
  · exact ⟨_, by assumption, rfl, h⟩
  · exact h.elim
theorem xv (i : Nat) {x : Str} (hN : X.N[i]? = some x := by rfl) (hv : Vis X.env.scope x := by first | exact Or.inl rfl | exact Or.inr (Or.inl rfl) | exact Or.inr (Or.inr rfl)) (hd : (x == ("__debug__" : Str)) = false := by decide)
    (hcd : (x == ("__classdict__" : Str)) = false := by decide) : XE X (.Name x pos) (wVar i) := pe_imp (pe_var hN hv hd hcd) fun σ H Q ⟨S, H0, δ, L, Qd, g, r, w, k⟩ => by
  obtain ⟨x, e, kn, q⟩ := wVar_of w
  obtain ⟨v, e2, rv⟩ := r.get e kn
  exact ⟨v, e2, k x L v H q g (Tx.refl H) rv⟩
def wC (d : PyData) : WE := fun _ L Q => Q (.da d) L
theorem xc_of {e : Expr} {v : V} {d : PyData} (h : PE X e (tC v)) (r : ∀ H, Rp X.K H d v) : XE X e (wC d) := pe_imp h fun σ H Q ⟨S, H0, δ, L, Qd, g, rs, w, k⟩ => k _ L v H w g (Tx.refl H) (r H)
theorem xe_int {i j} : XE X (.Constant (.int i) j pos) (wC (.int i)) := xc_of pe_int fun _ => rfl
theorem xe_bl {b j} : XE X (.Constant (.bool b) j pos) (wC (.bool b)) := xc_of pe_bl fun _ => rfl
theorem xe_non {j} : XE X (.Constant .none j pos) (wC .none) := xc_of pe_non fun _ => rfl
theorem xe_str {x j} : XE X (.Constant (.str x) j pos) (wC (.str x)) := xc_of pe_str fun _ => rfl
/-- a module's constant: an int, a text, .. -/
theorem xe_gint {x : Str} {i : Int} (hg : Gl X x) (hm : ∃ t, X.mg x = some (.int i t)) (hd : (x == ("__debug__" : Str)) = false := by decide) : XE X (.Name x pos) (wC (.int i)) := by
  obtain ⟨t, e⟩ := hm
  exact xc_of (pe_glob hg e (v := .int i) ⟨t, rfl⟩ hd) fun _ => rfl
theorem xe_gstr {x : Str} {i : Str} (hg : Gl X x) (hm : ∃ t, X.mg x = some (.str i t)) (hd : (x == ("__debug__" : Str)) = false := by decide) : XE X (.Name x pos) (wC (.str i)) := by
  obtain ⟨t, e⟩ := hm
  exact xc_of (pe_glob hg e (v := .str i) ⟨t, rfl⟩ hd) fun _ => rfl
/-- a module's constant that is a tuple of the written part -/
theorem xe_gtup {x : Str} {a : Addr} {d : PyData} (hg : Gl X x) (hm : X.mg x = some (.ref a)) (hd' : ∀ H, Rp X.K H d (.ref a)) (hd : (x == ("__debug__" : Str)) = false := by decide) : XE X (.Name x pos) (wC d) :=
  xc_of (pe_glob hg hm (v := .ref a) rfl hd) hd'

/-- a two-place operation by values -/
abbrev W2 := SV → SV → LS → (SV → LS → Prop) → Prop
def DOp (K : PySem.W.Frag) (r : R2) (w : W2) : Prop := ∀ (S : List Addr) (H0 : Hp) (L : LS) (H : Hp) (x y : SV) (v u : V) (Q2 : VK) (Qd : SV → LS → Prop), Sg K S H0 L H → RpV K H x v → RpV K H y u → w x y L Qd →
  (∀ z L' t H', Qd z L' → Sg K S H0 L' H' → Tx H H' → RpV K H' z t → Q2 t H') → r v u H Q2
def DOpR (X : Cx) (f : Value → Value → Sem Value) (w : W2) : Prop := ∃ r, OpR X f r ∧ DOp X.K r w
theorem DOpR.or {f : Value → Value → Sem Value} {w w' : W2} (h : DOpR X f w) (h' : DOpR X f w') : DOpR X f (fun x y L Q => w x y L Q ∨ w' x y L Q) := by
  obtain ⟨r, o, d⟩ := h
  obtain ⟨r', o', d'⟩ := h'
  refine ⟨_, o.or o', fun S H0 L H x y v u Q2 Qd g rv ru hw k => ?_⟩
  rcases hw with hw | hw
  · exact .inl (d S H0 L H x y v u Q2 Qd g rv ru hw k)
  · exact .inr (d' S H0 L H x y v u Q2 Qd g rv ru hw k)
theorem DOpR.imp {f : Value → Value → Sem Value} {w w' : W2} (h : DOpR X f w) (i : ∀ x y L Q, w' x y L Q → w x y L Q) : DOpR X f w' := by
  obtain ⟨r, o, d⟩ := h
  exact ⟨r, o, fun S H0 L H x y v u Q2 Qd g rv ru hw k => d S H0 L H x y v u Q2 Qd g rv ru (i _ _ _ _ hw) k⟩
def wOp (w : W2) (wa wb : WE) : WE := fun δ L Q => wa δ L fun x L1 => wb δ L1 fun y L2 => w x y L2 Q
theorem op_core {r : R2} {w : W2} {wa wb : WE} {K : PySem.W.Frag} (hd : DOp K r w) (σ : L2.St) (H : Hp) (Q : VK) (h : canE K (wOp w wa wb) σ H Q) : tOp r (canE K wa) (canE K wb) σ H Q := by
  obtain ⟨S, H0, δ, L, Qd, g, rs, w, k⟩ := h
  refine ⟨S, H0, δ, L, _, g, rs, w, fun x L1 v H1 q1 g1 t1 rv => ?_⟩
  refine ⟨S, H0, δ, L1, _, g1, rs.tx t1, q1, fun y L2 u H2 q2 g2 t2 ru => ?_⟩
  exact hd S H0 L2 H2 x y v u Q Qd g2 (rv.tx t2) ru q2 fun z L3 t H3 q3 g3 t3 rt => k z L3 t H3 q3 g3 ((t1.trans t2).trans t3) rt
variable {a b : Expr} {wa wb : WE}
theorem xe_op {op : Operator} {w : W2} (ho : DOpR X (binaryOp op) w) (ha : XE X a wa) (hb : XE X b wb) : XE X (.BinOp a op b pos) (wOp w wa wb) := by
  obtain ⟨r, o, d⟩ := ho
  exact pe_imp (pe_op o ha hb) (op_core d)
theorem xe_cmp {op : CmpOp} {w : W2} (ho : DOpR X (compareOp op) w) (ha : XE X a wa) (hb : XE X b wb) (hm : behindInMarks op b = false) : XE X (.Compare a [op] [b] pos) (wOp w wa wb) := by
  obtain ⟨r, o, d⟩ := ho
  exact pe_imp (pe_cmpR o ha hb hm) (op_core d)
def asB : SV → LS → (Bool → LS → Prop) → Prop
  | .da (.bool b), L, Q => Q b L
  | _, _, _ => False
theorem asB_of {K : PySem.W.Frag} {H : Hp} {x : SV} {v : V} {L : LS} {Q : Bool → LS → Prop} (r : RpV K H x v) (h : asB x L Q) : ∃ b, v = .bl b ∧ x = .da (.bool b) ∧ Q b L := by
  unfold asB at h
  split at h
  · exact ⟨_, r, rfl, h⟩
  · exact h.elim
def wTest (we : WE) : WT := fun δ L Q => we δ L fun x L1 => asB x L1 Q
theorem xt_cmp {op : CmpOp} {w : W2} (ho : DOpR X (compareOp op) w) (ha : XE X a wa) (hb : XE X b wb) (hm : behindInMarks op b = false) : XT X (.Compare a [op] [b] pos) (wTest (wOp w wa wb)) := by
  obtain ⟨r, o, d⟩ := ho
  refine pt_imp (pt_cmpR o ha hb hm) fun σ H Q ⟨S, H0, δ, L, Qd, g, rs, hw, k⟩ => ?_
  refine op_core d σ H _ ⟨S, H0, δ, L, _, g, rs, hw, fun x L1 v H1 q1 g1 t1 rv => ?_⟩
  obtain ⟨b, rfl, _, q⟩ := asB_of rv q1
  exact ⟨b, rfl, k b L1 H1 q g1 t1⟩
/-- an expression whose value is a bool, as a test -/
theorem xt_val {e : Expr} {we : WE} (h : XE X e we) (he : ∀ whole, isTrue e X.env whole = (do let v ← whole; standAt e.pos; holding [v] (truthy v)) := by intro _; rfl) : XT X e (wTest we) :=
  pt_imp (pt_val h he) fun σ H Q ⟨S, H0, δ, L, Qd, g, rs, hw, k⟩ => ⟨S, H0, δ, L, _, g, rs, hw, fun x L1 v H1 q1 g1 t1 rv => by
    obtain ⟨b, rfl, _, q⟩ := asB_of rv q1
    exact ⟨b, rfl, k b L1 H1 q g1 t1⟩⟩
/-- a one-place operation -/
abbrev W1 := SV → LS → (SV → LS → Prop) → Prop
def wUn (w : W1) (wa : WE) : WE := fun δ L Q => wa δ L fun x L1 => w x L1 Q
def dNeg : W1
  | .da (.int i), L, Q => Q (.da (.int (-i))) L
  | _, _, _ => False
theorem xe_neg (ha : XE X a wa) : XE X (.UnaryOp .USub a pos) (wUn dNeg wa) := pe_imp (pe_un un_neg ha) fun σ H Q ⟨S, H0, δ, L, Qd, g, rs, hw, k⟩ => ⟨S, H0, δ, L, _, g, rs, hw, fun x L1 v H1 q1 g1 t1 rv => by
  unfold dNeg at q1
  split at q1
  · rename_i i
    cases (rv : v = .int i)
    exact ⟨i, rfl, k _ L1 _ H1 q1 g1 t1 rfl⟩
  · exact q1.elim⟩

/-! ### and, or, not, conditional expressions -/
def wAnd (t u : WT) : WT := fun δ L Q => t δ L fun c L1 => if c = true then u δ L1 Q else Q false L1
def wOr (t u : WT) : WT := fun δ L Q => t δ L fun c L1 => if c = true then Q true L1 else u δ L1 Q
def wNot (t : WT) : WT := fun δ L Q => t δ L fun c L1 => Q (!c) L1
variable {wt wu : WT} {rest : List Expr}
theorem xw_and1 (ha : XT X a wt) : XW X (.BoolOp .And [a] pos) wt := pw_and1 ha
theorem xw_or1 (ha : XT X a wt) : XW X (.BoolOp .Or [a] pos) wt := pw_or1 ha
theorem xw_and (ha : XT X a wt) (hb : XW X (.BoolOp .And (b :: rest) pos) wu) : XW X (.BoolOp .And (a :: b :: rest) pos) (wAnd wt wu) := pw_imp (pw_and ha hb) fun σ H Q ⟨S, H0, δ, L, Qd, g, rs, hw, k⟩ =>
  ⟨S, H0, δ, L, _, g, rs, hw, fun c L1 H1 q1 g1 t1 => by
    cases c with
    | true => exact ⟨S, H0, δ, L1, Qd, g1, rs.tx t1, q1, fun b L2 H2 q2 g2 t2 => k b L2 H2 q2 g2 (t1.trans t2)⟩
    | false => exact k false L1 H1 q1 g1 t1⟩
theorem xw_or (ha : XT X a wt) (hb : XW X (.BoolOp .Or (b :: rest) pos) wu) : XW X (.BoolOp .Or (a :: b :: rest) pos) (wOr wt wu) := pw_imp (pw_or ha hb) fun σ H Q ⟨S, H0, δ, L, Qd, g, rs, hw, k⟩ =>
  ⟨S, H0, δ, L, _, g, rs, hw, fun c L1 H1 q1 g1 t1 => by
    cases c with
    | false => exact ⟨S, H0, δ, L1, Qd, g1, rs.tx t1, q1, fun b L2 H2 q2 g2 t2 => k b L2 H2 q2 g2 (t1.trans t2)⟩
    | true => exact k true L1 H1 q1 g1 t1⟩
theorem xt_not (ha : XT X a wt) : XT X (.UnaryOp .Not a pos) (wNot wt) := pt_imp (pt_not ha) fun σ H Q ⟨S, H0, δ, L, Qd, g, rs, hw, k⟩ =>
  ⟨S, H0, δ, L, _, g, rs, hw, fun c L1 H1 q1 g1 t1 => k _ L1 H1 q1 g1 t1⟩
/-- .. as values -/
def wAndV (wa wb : WE) : WE := fun δ L Q => wa δ L fun x L1 => asB x L1 fun c L2 => if c = true then wb δ L2 Q else Q (.da (.bool false)) L2
def wOrV (wa wb : WE) : WE := fun δ L Q => wa δ L fun x L1 => asB x L1 fun c L2 => if c = true then Q (.da (.bool true)) L2 else wb δ L2 Q
def wNotV (wa : WE) : WE := fun δ L Q => wa δ L fun x L1 => asB x L1 fun c L2 => Q (.da (.bool (!c))) L2
theorem xe_one {op} (h : XE X a wa) : XE X (.BoolOp op [a] pos) wa := pe_one h
theorem xe_and (ha : XE X a wa) (hb : XE X (.BoolOp .And (b :: rest) pos) wb) : XE X (.BoolOp .And (a :: b :: rest) pos) (wAndV wa wb) := pe_imp (pe_and ha hb) fun σ H Q ⟨S, H0, δ, L, Qd, g, rs, hw, k⟩ =>
  ⟨S, H0, δ, L, _, g, rs, hw, fun x L1 v H1 q1 g1 t1 rv => by
    obtain ⟨c, rfl, rfl, q⟩ := asB_of rv q1
    refine ⟨c, rfl, ?_⟩
    cases c with
    | true => exact ⟨S, H0, δ, L1, Qd, g1, rs.tx t1, q, fun y L2 u H2 q2 g2 t2 ru => k y L2 u H2 q2 g2 (t1.trans t2) ru⟩
    | false => exact k _ L1 _ H1 q g1 t1 rfl⟩
theorem xe_or (ha : XE X a wa) (hb : XE X (.BoolOp .Or (b :: rest) pos) wb) : XE X (.BoolOp .Or (a :: b :: rest) pos) (wOrV wa wb) := pe_imp (pe_or ha hb) fun σ H Q ⟨S, H0, δ, L, Qd, g, rs, hw, k⟩ =>
  ⟨S, H0, δ, L, _, g, rs, hw, fun x L1 v H1 q1 g1 t1 rv => by
    obtain ⟨c, rfl, rfl, q⟩ := asB_of rv q1
    refine ⟨c, rfl, ?_⟩
    cases c with
    | false => exact ⟨S, H0, δ, L1, Qd, g1, rs.tx t1, q, fun y L2 u H2 q2 g2 t2 ru => k y L2 u H2 q2 g2 (t1.trans t2) ru⟩
    | true => exact k _ L1 _ H1 q g1 t1 rfl⟩
theorem xe_not (ha : XE X a wa) : XE X (.UnaryOp .Not a pos) (wNotV wa) := pe_imp (pe_not ha) fun σ H Q ⟨S, H0, δ, L, Qd, g, rs, hw, k⟩ =>
  ⟨S, H0, δ, L, _, g, rs, hw, fun x L1 v H1 q1 g1 t1 rv => by
    obtain ⟨c, rfl, rfl, q⟩ := asB_of rv q1
    exact ⟨c, rfl, k _ L1 _ H1 q g1 t1 rfl⟩⟩
def wIf (t : WT) (wa wb : WE) : WE := fun δ L Q => t δ L fun c L1 => if c = true then wa δ L1 Q else wb δ L1 Q
theorem xe_ifExp {c : Expr} (hc : XT X c wt) (ha : XE X a wa) (hb : XE X b wb) : XE X (.IfExp c a b pos) (wIf wt wa wb) := pe_imp (pe_ifExp hc ha hb) fun σ H Q ⟨S, H0, δ, L, Qd, g, rs, hw, k⟩ =>
  ⟨S, H0, δ, L, _, g, rs, hw, fun c L1 H1 q1 g1 t1 => by
    cases c with
    | true => exact ⟨S, H0, δ, L1, Qd, g1, rs.tx t1, q1, fun y L2 u H2 q2 g2 t2 ru => k y L2 u H2 q2 g2 (t1.trans t2) ru⟩
    | false => exact ⟨S, H0, δ, L1, Qd, g1, rs.tx t1, q1, fun y L2 u H2 q2 g2 t2 ru => k y L2 u H2 q2 g2 (t1.trans t2) ru⟩⟩

/-! ### arguments, displays -/
def wNil : WA := fun _ L Q => Q [] L
def wCons (wa : WE) (wr : WA) : WA := fun δ L Q => wa δ L fun x L1 => wr δ L1 fun xs L2 => Q (x :: xs) L2
variable {es : List Expr} {ws : WA}
theorem xa_nil : XA X [] wNil := pa_imp pa_nil fun σ H Q ⟨S, H0, δ, L, Qd, g, rs, hw, k⟩ => k [] L [] H hw g (Tx.refl H) rfl
theorem xa_cons (ha : XE X a wa) (hr : XA X es ws) (hs : starEach (a :: es) X.env = (false, eval a X.env) :: starEach es X.env := by rfl) : XA X (a :: es) (wCons wa ws) :=
  pa_imp (pa_cons ha hr hs) fun σ H Q ⟨S, H0, δ, L, Qd, g, rs, hw, k⟩ => ⟨S, H0, δ, L, _, g, rs, hw, fun x L1 v H1 q1 g1 t1 rv =>
    ⟨S, H0, δ, L1, _, g1, rs.tx t1, q1, fun xs L2 vs H2 q2 g2 t2 rvs => k _ L2 _ H2 q2 g2 (t1.trans t2) ⟨v, vs, rfl, rv.tx t2, rvs⟩⟩⟩
/-- all data -/
def das : List SV → Option (List PyData)
  | [] => some []
  | .da d :: xs => (das xs).map (d :: ·)
  | _ => none
theorem das_of : ∀ {xs : List SV} {ds : List PyData}, das xs = some ds → xs = ds.map SV.da
  | [], ds, h => by
    cases (Option.some.inj h : [] = ds)
    rfl
  | .da d :: xs, ds, h => by
    cases e : das xs with
    | none =>
      simp [das, e] at h
    | some es =>
      simp [das, e] at h
      subst h
      rw [das_of e]
      rfl
  | .un :: xs, ds, h => by cases h
  | .rf p :: xs, ds, h => by cases h
/-- a display is short, or its size is to be shown -/
def small (n : Nat) (q : Prop) : Prop := match Nat.ble n 1000 with
  | true => q
  | false => n ≤ sizeLine ∧ q
theorem small_of {n : Nat} {q : Prop} (h : small n q) : n ≤ sizeLine ∧ q := by
  unfold small at h
  split at h
  · rename_i e
    exact ⟨Nat.le_trans (Nat.le_of_ble_eq_true e) (by decide), h⟩
  · exact h
def wTup (w : WA) : WE := fun δ L Q => w δ L fun xs L1 => match das xs with
  | some ds => small ds.length (Q (.da (.tuple ds)) L1)
  | none => small xs.length (Q (.tp xs) L1)
theorem xe_tup {k} (h : XA X es ws) : XE X (.Tuple es k pos) (wTup ws) := pe_imp (pe_tup h) fun σ H Q ⟨S, H0, δ, L, Qd, g, rs, hw, k⟩ => ⟨S, H0, δ, L, _, g, rs, hw, fun xs L1 vs H1 q1 g1 t1 rv => by
  split at q1
  · rename_i ds e
    obtain ⟨hl, q⟩ := small_of q1
    have e2 := das_of e
    subst e2
    have rl := RpVs.das.mp rv
    refine ⟨by rw [rl.length]; exact hl, fun p hp => ?_⟩
    exact k _ L1 _ _ q (g1.ext (Ext.new hp)) (t1.trans (Ext.new hp).tx) ⟨p, vs, rfl, SqT.of upd_same, RpL.tx (Ext.new hp).tx _ _ rl⟩
  · obtain ⟨hl, q⟩ := small_of q1
    refine ⟨by rw [rv.length]; exact hl, fun p hp => ?_⟩
    exact k _ L1 _ _ q (g1.ext (Ext.new hp)) (t1.trans (Ext.new hp).tx) ⟨p, vs, rfl, SqT.of upd_same, rv.tx (Ext.new hp).tx⟩⟩
def wLst (w : WA) : WE := fun δ L Q => w δ L fun xs L1 => small xs.length (∀ p, Q (.rf p) (L1 ++ [(p, .lst xs)]))
theorem sg_lst {K : PySem.W.Frag} {S : List Addr} {H0 H : Hp} {L : LS} {p : Addr} {xs : List SV} {vs : List V} (g : Sg K S H0 L H) (hp : H p = none) (rv : RpVs K H xs vs) : Sg K S H0 (L ++ [(p, .lst xs)]) (upd H p (.lst vs)) :=
  g.new hp ⟨vs, upd_same, rv.tx (Ext.new hp).tx⟩
theorem xe_lst (h : XA X es ws) : XE X (.List es pos) (wLst ws) := pe_imp (pe_lst h) fun σ H Q ⟨S, H0, δ, L, Qd, g, rs, hw, k⟩ => ⟨S, H0, δ, L, _, g, rs, hw, fun xs L1 vs H1 q1 g1 t1 rv => by
  obtain ⟨hl, q⟩ := small_of q1
  exact ⟨by rw [rv.length]; exact hl, fun p hp => k _ _ _ _ (q p) (sg_lst g1 hp rv) (t1.trans (Ext.new hp).tx) rfl⟩⟩

/-! ### calls -/
abbrev WC := List SV → LS → (SV → LS → Prop) → Prop
def DCall (K : PySem.W.Frag) (r : List V → Hp → VK → Prop) (w : WC) : Prop := ∀ (S : List Addr) (H0 : Hp) (L : LS) (H : Hp) (xs : List SV) (vs : List V) (Q2 : VK) (Qd : SV → LS → Prop), Sg K S H0 L H → RpVs K H xs vs → w xs L Qd →
  (∀ z L' t H', Qd z L' → Sg K S H0 L' H' → Tx H H' → RpV K H' z t → Q2 t H') → r vs H Q2
def DCallR (X : Cx) (f : Value) (w : WC) : Prop := ∃ r, CallR X f r ∧ DCall X.K r w
theorem DCallR.or {f : Value} {w w' : WC} (h : DCallR X f w) (h' : DCallR X f w') : DCallR X f (fun x L Q => w x L Q ∨ w' x L Q) := by
  obtain ⟨r, o, d⟩ := h
  obtain ⟨r', o', d'⟩ := h'
  refine ⟨_, o.or o', fun S H0 L H x v Q2 Qd g rv hw k => ?_⟩
  rcases hw with hw | hw
  · exact .inl (d S H0 L H x v Q2 Qd g rv hw k)
  · exact .inr (d' S H0 L H x v Q2 Qd g rv hw k)
theorem DCallR.imp {f : Value} {w w' : WC} (h : DCallR X f w) (i : ∀ x L Q, w' x L Q → w x L Q) : DCallR X f w' := by
  obtain ⟨r, o, d⟩ := h
  exact ⟨r, o, fun S H0 L H x v Q2 Qd g rv hw k => d S H0 L H x v Q2 Qd g rv (i _ _ _ hw) k⟩
def wCB (w : WC) (ws : WA) : WE := fun δ L Q => ws δ L fun xs L1 => w xs L1 Q
theorem call_core {r : List V → Hp → VK → Prop} {w : WC} {K : PySem.W.Frag} (d : DCall K r w) (σ : L2.St) (H : Hp) (Q : VK) (h : canE K (wCB w ws) σ H Q) : tCB r (canA K ws) σ H Q := by
  obtain ⟨S, H0, δ, L, Qd, g, rs, hw, k⟩ := h
  exact ⟨S, H0, δ, L, _, g, rs, hw, fun xs L1 vs H1 q1 g1 t1 rv => d S H0 L1 H1 xs vs Q Qd g1 rv q1 fun z L2 t H2 q2 g2 t2 rt => k z L2 t H2 q2 g2 (t1.trans t2) rt⟩
variable {x : Str} {p : Pos} {e : Expr}
theorem xe_callB {id : String} {w : WC} (hc : DCallR X (.builtin id) w) (hg : Gl X x) (hm : X.mg x = none) (hv : bootBuiltins x = some (.builtin id)) (ha : XA X (e :: es) ws) (hn : x ≠ "__name__" := by decide) (hdb : (x == ("__debug__" : Str)) = false := by decide)
    (he : starEach (e :: es) X.env = (false, eval e X.env) :: starEach es X.env := by rfl) (hpl : (backTo pos (starEach es X.env)).any (·.1) = false := by rfl) : XE X (.Call (.Name x p) (e :: es) [] pos) (wCB w ws) := by
  obtain ⟨r, o, d⟩ := hc
  exact pe_imp (pe_callB o hg hm hv ha hn hdb he hpl) (call_core d)
theorem xe_callTy {T : String} {w : WC} (hc : DCallR X (.type T) w) (hg : Gl X x) (hm : X.mg x = none) (hv : bootBuiltins x = some (.type T)) (ha : XA X (e :: es) ws) (hn : x ≠ "__name__" := by decide) (hdb : (x == ("__debug__" : Str)) = false := by decide)
    (he : starEach (e :: es) X.env = (false, eval e X.env) :: starEach es X.env := by rfl) (hpl : (backTo pos (starEach es X.env)).any (·.1) = false := by rfl) : XE X (.Call (.Name x p) (e :: es) [] pos) (wCB w ws) := by
  obtain ⟨r, o, d⟩ := hc
  exact pe_imp (pe_callTy o hg hm hv ha hn hdb he hpl) (call_core d)
/-- a module's name for a built-in function (from math import gcd) -/
theorem xe_callM {id : String} {w : WC} (hc : DCallR X (.builtin id) w) (hg : Gl X x) (hm : X.mg x = some (.builtin id)) (ha : XA X (e :: es) ws) (hdb : (x == ("__debug__" : Str)) = false := by decide)
    (he : starEach (e :: es) X.env = (false, eval e X.env) :: starEach es X.env := by rfl) (hpl : (backTo pos (starEach es X.env)).any (·.1) = false := by rfl) : XE X (.Call (.Name x p) (e :: es) [] pos) (wCB w ws) := by
  obtain ⟨r, o, d⟩ := hc
  exact pe_imp (pe_callBfun o hg hm ha hdb he hpl) (call_core d)

/-! ### promises of defs, over data -/
/-- args, the lists and objects that it is about; what it gives, and these behind it -/
abbrev DSp := List SV → LS → (SV → LS → Prop) → Prop
def spD (K : PySem.W.Frag) (dsp : DSp) : Sp := fun vs H Q _ => ∃ xs S L Qd, RpVs K H xs vs ∧ Sg K S H L H ∧ dsp xs L Qd ∧ ∀ x L' v H', Qd x L' → Sg K S H L' H' → RpV K H' x v → Q v H'
theorem Sg.start {K : PySem.W.Frag} {S : List Addr} {H0 H : Hp} {L : LS} (g : Sg K S H0 L H) : Sg K (L.map (·.1)) H L H :=
  ⟨fun _ _ _ h => h, Tx.refl H, g.ob, fun p o h _ => .inl (List.mem_map.mpr ⟨(p, o), h, rfl⟩), g.nd⟩
/-- a def that is about no list: it leaves all as it is, and may hand back new ones -/
theorem Sg.back {K : PySem.W.Frag} {S : List Addr} {H0 H H' : Hp} {L L' : LS} (g : Sg K S H0 L H) (g' : Sg K [] H L' H') : Sg K S H0 (L ++ L') H' ∧ Tx H H' := by
  have e : Ext H H' := fun a o h => g'.fm a o (by simp) h
  refine ⟨⟨fun a o n h => e a o (g.fm a o n h), g.tx.trans e.tx, fun p o h => ?_, fun p o h n => ?_, fun i j p o o' hi hj ho ho' => ?_⟩, e.tx⟩
  · rcases List.mem_append.mp h with h | h
    · exact (g.ext e).ob p o h
    · exact g'.ob p o h
  · rcases List.mem_append.mp h with h | h
    · exact g.fr p o h n
    · rcases g'.fr p o h n with z | z
      · simp at z
      · by_cases hs : p ∈ S
        · exact .inl hs
        · refine .inr ?_
          cases q : H0 p with
          | none => rfl
          | some w =>
            have := g.fm p w hs q
            rw [z] at this
            cases this
  · have mix : ∀ p o o', (p, o) ∈ L → (p, o') ∈ L' → o.isRol = false → o'.isRol = false → False := fun p o o' h h' ho ho' => by
      obtain ⟨u, hu, _⟩ := (g.ob p o h).there ho
      rcases g'.fr p o' h' ho' with z | z
      · simp at z
      · rw [hu] at z
        cases z
    by_cases hi1 : i < L.length
    · rw [List.getElem?_append_left hi1] at hi
      by_cases hj1 : j < L.length
      · rw [List.getElem?_append_left hj1] at hj
        exact g.nd i j p o o' hi hj ho ho'
      · rw [List.getElem?_append_right (by omega)] at hj
        exact (mix p o o' (List.mem_of_getElem? hi) (List.mem_of_getElem? hj) ho ho').elim
    · rw [List.getElem?_append_right (by omega)] at hi
      by_cases hj1 : j < L.length
      · rw [List.getElem?_append_left hj1] at hj
        exact (mix p o' o (List.mem_of_getElem? hj) (List.mem_of_getElem? hi) ho' ho).elim
      · rw [List.getElem?_append_right (by omega)] at hj
        have := g'.nd (i - L.length) (j - L.length) p o o' hi hj ho ho'
        omega
/-- objects at places -/
def pick (L : LS) : List Nat → Option LS
  | [] => some []
  | k :: ks => match L[k]?, pick L ks with
    | some o, some os => some (o :: os)
    | _, _ => none
def place : LS → List Nat → LS → LS
  | L, [], _ => L
  | L, _ :: _, [] => L
  | L, k :: ks, o :: os => place (L.set k o) ks os
def pat (L : LS) : List (Addr × Bool) := L.map fun p => (p.1, p.2.isRol)
def muts (L : LS) : List Addr := (L.filter fun p => !p.2.isRol).map (·.1)
theorem pick_at {L : LS} : ∀ {ks : List Nat} {os : LS}, pick L ks = some os → ks.length = os.length ∧ ∀ (j k : Nat) (o : Addr × DO), ks[j]? = some k → os[j]? = some o → L[k]? = some o
  | [], os, h => by
    cases (Option.some.inj h : [] = os)
    exact ⟨rfl, fun j k o h => by simp at h⟩
  | k0 :: ks, os, h => by
    unfold pick at h
    split at h
    · rename_i o0 os0 e1 e2
      cases h
      obtain ⟨h1, h2⟩ := pick_at e2
      refine ⟨by rw [List.length_cons, List.length_cons, h1], fun j k o hk ho => ?_⟩
      cases j with
      | zero =>
        cases (Option.some.inj hk : k0 = k)
        cases (Option.some.inj ho : o0 = o)
        exact e1
      | succ j => exact h2 j k o hk ho
    · cases h
theorem place_at : ∀ {ks : List Nat} {os L : LS}, ks.Nodup → ks.length = os.length → (∀ k ∈ ks, k < L.length) → (place L ks os).length = L.length ∧
    ∀ (i : Nat), (i ∉ ks → (place L ks os)[i]? = L[i]?) ∧ ∀ (j : Nat) (o : Addr × DO), ks[j]? = some i → os[j]? = some o → (place L ks os)[i]? = some o
  | [], os, L, _, _, _ => ⟨by cases os <;> rfl, fun i => ⟨fun _ => by cases os <;> rfl, fun j o h => by simp at h⟩⟩
  | k :: ks, [], L, _, h, _ => by simp at h
  | k :: ks, o :: os, L, n, h, lt => by
    rw [List.nodup_cons] at n
    obtain ⟨h1, h2⟩ := place_at (ks := ks) (os := os) (L := L.set k o) n.2 (by simpa using h) (fun x hx => by rw [List.length_set]; exact lt x (List.mem_cons_of_mem _ hx))
    refine ⟨by show (place (L.set k o) ks os).length = _; rw [h1, List.length_set], fun i => ⟨fun hi => ?_, fun j u hk hu => ?_⟩⟩
    · show (place (L.set k o) ks os)[i]? = _
      rw [(h2 i).1 fun z => hi (List.mem_cons_of_mem _ z), List.getElem?_set_ne fun z => hi (by rw [z]; exact List.mem_cons_self)]
    · show (place (L.set k o) ks os)[i]? = _
      cases j with
      | zero =>
        cases (Option.some.inj hk : k = i)
        cases (Option.some.inj hu : o = u)
        rw [(h2 k).1 n.1, List.getElem?_set_self (lt k List.mem_cons_self)]
      | succ j => exact (h2 i).2 j u hk hu
theorem mem_muts {L : LS} {p : Addr} {o : DO} (h : (p, o) ∈ L) (n : o.isRol = false) : p ∈ muts L := List.mem_map.mpr ⟨(p, o), List.mem_filter.mpr ⟨h, by simp [n]⟩, rfl⟩
theorem of_muts {L : LS} {p : Addr} (h : p ∈ muts L) : ∃ o, (p, o) ∈ L ∧ o.isRol = false := by
  obtain ⟨⟨q, o⟩, hm, rfl⟩ := List.mem_map.mp h
  obtain ⟨h1, h2⟩ := List.mem_filter.mp hm
  exact ⟨o, h1, by simpa using h2⟩
theorem pat_at {L L' : LS} (e : pat L = pat L') {i : Nat} {p : Addr} {o : DO} (h : L[i]? = some (p, o)) : ∃ o', L'[i]? = some (p, o') ∧ o'.isRol = o.isRol := by
  have h1 : (pat L)[i]? = some (p, o.isRol) := by
    unfold pat
    rw [List.getElem?_map, h]
    rfl
  rw [e] at h1
  unfold pat at h1
  rw [List.getElem?_map] at h1
  obtain ⟨⟨q, o'⟩, h2, h3⟩ := Option.map_eq_some_iff.mp h1
  obtain ⟨h4, h5⟩ := Prod.mk.inj h3
  have h4 : q = p := h4
  subst h4
  exact ⟨o', h2, h5⟩
/-- .. one that is about the objects at the places ks (it may change them), and may make new ones -/
theorem Sg.backN {K : PySem.W.Frag} {S : List Addr} {H0 H H' : Hp} {L L' : LS} {ks : List Nat} {os os' : LS} (g : Sg K S H0 L H) (nk : ks.Nodup) (hk : pick L ks = some os) (hp : pat os' = pat os) (g' : Sg K (muts os) H (os' ++ L') H') :
    Sg K S H0 (place L ks os' ++ L') H' ∧ Tx H H' := by
  obtain ⟨hl, hat⟩ := pick_at hk
  have hlen : os'.length = os.length := by
    have := congrArg List.length hp
    unfold pat at this
    simpa using this
  have lt : ∀ k ∈ ks, k < L.length := fun k hm => by
    obtain ⟨j, hj⟩ := List.mem_iff_getElem?.mp hm
    have hj2 : j < os.length := by
      rw [← hl]
      exact (List.getElem?_eq_some_iff.mp hj).1
    exact (List.getElem?_eq_some_iff.mp (hat j k _ hj (List.getElem?_eq_getElem hj2))).1
  obtain ⟨pl, pa⟩ := place_at (os := os') nk (by rw [hl, hlen]) lt
  have e : ∀ a u, a ∉ muts os → H a = some u → H' a = some u := fun a u na h => g'.fm a u na h
  -- what stands at a place behind the call
  have low : ∀ (i : Nat) (q : Addr) (x : DO), (place L ks os')[i]? = some (q, x) → (∃ j o, ks[j]? = some i ∧ os'[j]? = some (q, x) ∧ os[j]? = some (q, o) ∧ L[i]? = some (q, o) ∧ o.isRol = x.isRol) ∨ (i ∉ ks ∧ L[i]? = some (q, x)) := fun i q x hi => by
    by_cases hm : i ∈ ks
    · obtain ⟨j, hj⟩ := List.mem_iff_getElem?.mp hm
      have hj2 : j < os'.length := by
        rw [hlen, ← hl]
        exact (List.getElem?_eq_some_iff.mp hj).1
      have h1 := (pa i).2 j _ hj (List.getElem?_eq_getElem hj2)
      rw [hi] at h1
      have h2 : os'[j]? = some (q, x) := by rw [List.getElem?_eq_getElem hj2, ← h1]
      obtain ⟨o, h3, h4⟩ := pat_at hp h2
      exact .inl ⟨j, o, hj, h2, h3, hat j i _ hj h3, h4⟩
    · exact .inr ⟨hm, by rw [← (pa i).1 hm]; exact hi⟩
  -- an object that the call is not about is none of its
  have apart : ∀ (i : Nat) (q : Addr) (x : DO), i ∉ ks → L[i]? = some (q, x) → x.isRol = false → q ∉ muts os := fun i q x hi hx nr hm => by
    obtain ⟨o, ho, no⟩ := of_muts hm
    obtain ⟨j, hj⟩ := List.mem_iff_getElem?.mp ho
    have hj2 : j < ks.length := by
      rw [hl]
      exact (List.getElem?_eq_some_iff.mp hj).1
    have h1 := hat j ks[j] _ (List.getElem?_eq_getElem hj2) hj
    have h2 := g.nd i ks[j] q x o hx h1 nr no
    exact hi (by rw [h2]; exact List.getElem_mem hj2)
  have obs : ∀ q x, (q, x) ∈ place L ks os' → RpOb K H' q x := fun q x h => by
    obtain ⟨i, hi⟩ := List.mem_iff_getElem?.mp h
    rcases low i q x hi with ⟨j, o, _, h2, _, _, _⟩ | ⟨ni, hi'⟩
    · exact g'.ob q x (List.mem_append_left _ (List.mem_of_getElem? h2))
    · refine (g.ob q x (List.mem_of_getElem? hi')).tx g'.tx fun nr => ?_
      obtain ⟨u, hu, _⟩ := (g.ob q x (List.mem_of_getElem? hi')).there nr
      rw [hu]
      exact e q u (apart i q x ni hi' nr) hu
  have frs : ∀ q x, (q, x) ∈ place L ks os' → x.isRol = false → (q ∈ S ∨ H0 q = none) ∧ ∃ u, H q = some u := fun q x h nr => by
    obtain ⟨i, hi⟩ := List.mem_iff_getElem?.mp h
    rcases low i q x hi with ⟨j, o, _, _, _, h4, h5⟩ | ⟨ni, hi'⟩
    · have no : o.isRol = false := h5.trans nr
      obtain ⟨u, hu, _⟩ := (g.ob q o (List.mem_of_getElem? h4)).there no
      exact ⟨g.fr q o (List.mem_of_getElem? h4) no, u, hu⟩
    · obtain ⟨u, hu, _⟩ := (g.ob q x (List.mem_of_getElem? hi')).there nr
      exact ⟨g.fr q x (List.mem_of_getElem? hi') nr, u, hu⟩
  have nep : ∀ (i : Nat) q x, L'[i]? = some (q, x) → x.isRol = false → q ∉ muts os := fun i q x h nr hm => by
    obtain ⟨o, ho, no⟩ := of_muts hm
    obtain ⟨j, hj⟩ := List.mem_iff_getElem?.mp ho
    obtain ⟨o', h1, h2⟩ := pat_at hp.symm hj
    have hj2 := (List.getElem?_eq_some_iff.mp h1).1
    have := g'.nd j (os'.length + i) q o' x (by rw [List.getElem?_append_left hj2]; exact h1) (by rw [List.getElem?_append_right (by omega), Nat.add_sub_cancel_left]; exact h) (h2.trans no) nr
    omega
  have new : ∀ (i : Nat) q x, L'[i]? = some (q, x) → x.isRol = false → H q = none := fun i q x h nr => by
    rcases g'.fr q x (List.mem_append_right _ (List.mem_of_getElem? h)) nr with z | z
    · exact absurd z (nep i q x h nr)
    · exact z
  refine ⟨⟨fun a u n h => ?_, g.tx.trans g'.tx, fun q x h => ?_, fun q x h n => ?_, fun i j q x y hi hj hx hy => ?_⟩, g'.tx⟩
  · refine e a u (fun z => ?_) (g.fm a u n h)
    obtain ⟨o, ho, no⟩ := of_muts z
    obtain ⟨j, hj⟩ := List.mem_iff_getElem?.mp ho
    have hj2 : j < ks.length := by
      rw [hl]
      exact (List.getElem?_eq_some_iff.mp hj).1
    have h1 := hat j ks[j] _ (List.getElem?_eq_getElem hj2) hj
    rcases g.fr a o (List.mem_of_getElem? h1) no with z | z
    · exact n z
    · rw [z] at h
      cases h
  · rcases List.mem_append.mp h with h | h
    · exact obs q x h
    · exact g'.ob q x (List.mem_append_right _ h)
  · rcases List.mem_append.mp h with h | h
    · exact (frs q x h n).1
    · obtain ⟨i, hi⟩ := List.mem_iff_getElem?.mp h
      have z := new i q x hi n
      by_cases hs : q ∈ S
      · exact .inl hs
      · refine .inr ?_
        cases r : H0 q with
        | none => rfl
        | some w =>
          have := g.fm q w hs r
          rw [z] at this
          cases this
  · have mix : ∀ (i j : Nat) q x y, (place L ks os')[i]? = some (q, x) → L'[j]? = some (q, y) → x.isRol = false → y.isRol = false → False := fun i j q x y h h' hx hy => by
      obtain ⟨_, u, hu⟩ := frs q x (List.mem_of_getElem? h) hx
      rw [new j q y h' hy] at hu
      cases hu
    by_cases hi1 : i < (place L ks os').length
    · rw [List.getElem?_append_left hi1] at hi
      by_cases hj1 : j < (place L ks os').length
      · rw [List.getElem?_append_left hj1] at hj
        have old : ∀ (i : Nat) (x : DO), (place L ks os')[i]? = some (q, x) → x.isRol = false → ∃ o, L[i]? = some (q, o) ∧ o.isRol = false := fun i x hi hx => by
          rcases low i q x hi with ⟨j, o, _, _, _, h4, h5⟩ | ⟨ni, hi'⟩
          · exact ⟨o, h4, h5.trans hx⟩
          · exact ⟨x, hi', hx⟩
        obtain ⟨o1, h1, n1⟩ := old i x hi hx
        obtain ⟨o2, h2, n2⟩ := old j y hj hy
        exact g.nd i j q o1 o2 h1 h2 n1 n2
      · rw [List.getElem?_append_right (by omega)] at hj
        exact (mix i _ q x y hi hj hx hy).elim
    · rw [List.getElem?_append_right (by omega)] at hi
      by_cases hj1 : j < (place L ks os').length
      · rw [List.getElem?_append_left hj1] at hj
        exact (mix j _ q y x hj hi hy hx).elim
      · rw [List.getElem?_append_right (by omega)] at hj
        have h1 : (os' ++ L')[os'.length + (i - (place L ks os').length)]? = some (q, x) := by rw [List.getElem?_append_right (by omega), Nat.add_sub_cancel_left]; exact hi
        have h2 : (os' ++ L')[os'.length + (j - (place L ks os').length)]? = some (q, y) := by rw [List.getElem?_append_right (by omega), Nat.add_sub_cancel_left]; exact hj
        have := g'.nd _ _ q x y h1 h2 hx hy
        omega
variable {CX : CXT} {f : Addr} {fd : FuncData} {ps : List Str} {n : Nat} {dsp : DSp}
/-- f(e, ..), f about no list -/
def wCall (dsp : DSp) (ws : WA) : WE := fun δ L Q => ws δ L fun xs L1 => dsp xs [] fun x L2 => Q x (L1 ++ L2)
theorem xe_call (F : FnOk X.prog X.w X.K X.mg X.base CX0 n f fd ps (spD X.K dsp)) (hr : Room n X.A) (hg : Gl X x) (hm : X.mg x = some (.ref f)) (hk : PySem.W.keepIn X.K (.ref f) = true) (hb : Binds X.K fd ps [])
    (ha : XA X (e :: es) ws) (hdb : (x == ("__debug__" : Str)) = false := by decide) (he : starEach (e :: es) X.env = (false, eval e X.env) :: starEach es X.env := by rfl) (hpl : (backTo pos (starEach es X.env)).any (·.1) = false := by rfl) :
    XE X (.Call (.Name x p) (e :: es) [] pos) (wCall dsp ws) :=
  pe_imp (pe_call F hr hg hm hk hb .nil pass0 ha hdb he hpl) fun σ H Q ⟨S, H0, δ, L, Qd, g, rs, hw, k⟩ => ⟨S, H0, δ, L, _, g, rs, hw, fun xs L1 vs H1 q1 g1 t1 rv => by
    show spD X.K dsp (vs ++ []) H1 Q E0
    rw [List.append_nil]
    refine ⟨xs, [], [], _, rv, ⟨fun _ _ _ h => h, Tx.refl H1, fun _ _ h => by simp at h, fun _ _ h => by simp at h, fun i j p o o' h => by simp at h⟩, q1, fun z L2 v H2 q2 g2 rz => ?_⟩
    obtain ⟨g3, t3⟩ := g1.back g2
    exact k z _ v H2 q2 g3 (t1.trans t3) rz⟩
/-- f(e, ..), f about the objects at the places ks of the state -/
structure CallB (dsp : DSp) (xs : List SV) (L1 : LS) (Q : SV → LS → Prop) : Prop where of ::
  go : ∃ (ks : List Nat) (os : LS), ks.Nodup ∧ pick L1 ks = some os ∧ dsp xs os fun x L2 => ∃ os' L3, L2 = os' ++ L3 ∧ pat os' = pat os ∧ Q x (place L1 ks os' ++ L3)
def wCallN (dsp : DSp) (ws : WA) : WE := fun δ L Q => ws δ L fun xs L1 => CallB dsp xs L1 Q
theorem Sg.sub {K : PySem.W.Frag} {S : List Addr} {H0 H : Hp} {L os : LS} {ks : List Nat} (g : Sg K S H0 L H) (nk : ks.Nodup) (hk : pick L ks = some os) : Sg K (muts os) H os H := by
  obtain ⟨hl, hat⟩ := pick_at hk
  have mem : ∀ p o, (p, o) ∈ os → ∃ (j : Nat) (hj : j < ks.length), os[j]? = some (p, o) ∧ L[ks[j]]? = some (p, o) := fun p o h => by
    obtain ⟨j, hj⟩ := List.mem_iff_getElem?.mp h
    have hj2 : j < ks.length := by
      rw [hl]
      exact (List.getElem?_eq_some_iff.mp hj).1
    exact ⟨j, hj2, hj, hat j ks[j] _ (List.getElem?_eq_getElem hj2) hj⟩
  refine ⟨fun _ _ _ h => h, Tx.refl H, fun p o h => ?_, fun p o h n => .inl (mem_muts h n), fun i j p o o' hi hj ho ho' => ?_⟩
  · obtain ⟨j, hj, _, h2⟩ := mem p o h
    exact g.ob p o (List.mem_of_getElem? h2)
  · have hi2 : i < ks.length := by
      rw [hl]
      exact (List.getElem?_eq_some_iff.mp hi).1
    have hj2 : j < ks.length := by
      rw [hl]
      exact (List.getElem?_eq_some_iff.mp hj).1
    have h1 := hat i ks[i] _ (List.getElem?_eq_getElem hi2) hi
    have h2 := hat j ks[j] _ (List.getElem?_eq_getElem hj2) hj
    have h3 := g.nd _ _ p o o' h1 h2 ho ho'
    exact (List.getElem_inj nk).mp h3
theorem xe_callN (F : FnOk X.prog X.w X.K X.mg X.base CX0 n f fd ps (spD X.K dsp)) (hr : Room n X.A) (hg : Gl X x) (hm : X.mg x = some (.ref f)) (hk : PySem.W.keepIn X.K (.ref f) = true) (hb : Binds X.K fd ps [])
    (ha : XA X (e :: es) ws) (hdb : (x == ("__debug__" : Str)) = false := by decide) (he : starEach (e :: es) X.env = (false, eval e X.env) :: starEach es X.env := by rfl) (hpl : (backTo pos (starEach es X.env)).any (·.1) = false := by rfl) :
    XE X (.Call (.Name x p) (e :: es) [] pos) (wCallN dsp ws) :=
  pe_imp (pe_call F hr hg hm hk hb .nil pass0 ha hdb he hpl) fun σ H Q ⟨S, H0, δ, L, Qd, g, rs, hw, k⟩ => ⟨S, H0, δ, L, _, g, rs, hw, fun xs L1 vs H1 q1 g1 t1 rv => by
    show spD X.K dsp (vs ++ []) H1 Q E0
    rw [List.append_nil]
    obtain ⟨is, os, ni, hi, hd⟩ := q1.go
    refine ⟨xs, muts os, os, _, rv, g1.sub ni hi, hd, fun z L2 v H2 q2 g2 rz => ?_⟩
    obtain ⟨os', L3, rfl, hp, q3⟩ := q2
    obtain ⟨g3, t3⟩ := g1.backN ni hi hp g2
    exact k z _ v H2 q3 g3 (t1.trans t3) rz⟩
end
end Pd
namespace Pd
open PySem PySem.Spec PyProof.Rows L2

/-! ### operators -/
section
variable {X : Cx}
theorem dop_int {f : Value → Value → Sem Value} {C : Int → Int → Prop} {g : Int → Int → PyData} {gv : Int → Int → V} (h : OpR X f (rI C gv)) (e : ∀ H i j, Rp X.K H (g i j) (gv i j)) :
    DOpR X f (fun x y L Q => ∃ i j, x = .da (.int i) ∧ y = .da (.int j) ∧ C i j ∧ Q (.da (g i j)) L) := by
  refine ⟨_, h, fun S H0 L H x y v u Q2 Qd G rv ru hw k => ?_⟩
  obtain ⟨i, j, rfl, rfl, c, q⟩ := hw
  exact ⟨i, j, rv, ru, c, k _ L _ H q G (Tx.refl H) (e H i j)⟩
theorem dop_int0 {f : Value → Value → Sem Value} {g : Int → Int → PyData} {gv : Int → Int → V} (h : OpR X f (rI0 gv)) (e : ∀ H i j, Rp X.K H (g i j) (gv i j)) :
    DOpR X f (fun x y L Q => ∃ i j, x = .da (.int i) ∧ y = .da (.int j) ∧ Q (.da (g i j)) L) := by
  refine ⟨_, h, fun S H0 L H x y v u Q2 Qd G rv ru hw k => ?_⟩
  obtain ⟨i, j, rfl, rfl, q⟩ := hw
  exact ⟨i, j, rv, ru, k _ L _ H q G (Tx.refl H) (e H i j)⟩
theorem dop_str {f : Value → Value → Sem Value} {C : Str → Str → Prop} {g : Str → Str → PyData} {gv : Str → Str → V} (h : OpR X f (fun x y H Q => ∃ i j, x = .str i ∧ y = .str j ∧ C i j ∧ Q (gv i j) H)) (e : ∀ H i j, Rp X.K H (g i j) (gv i j)) :
    DOpR X f (fun x y L Q => ∃ i j, x = .da (.str i) ∧ y = .da (.str j) ∧ C i j ∧ Q (.da (g i j)) L) := by
  refine ⟨_, h, fun S H0 L H x y v u Q2 Qd G rv ru hw k => ?_⟩
  obtain ⟨i, j, rfl, rfl, c, q⟩ := hw
  exact ⟨i, j, rv, ru, c, k _ L _ H q G (Tx.refl H) (e H i j)⟩
theorem dop_catT : DOpR X (binaryOp .Add) (fun x y L Q => ∃ a b, x = .da (.tuple a) ∧ y = .da (.tuple b) ∧ a.length + b.length ≤ sizeLine ∧ Q (.da (.tuple (a ++ b))) L) := by
  refine ⟨_, op_catA, fun S H0 L H x y v u Q2 Qd g rv ru hw k => ?_⟩
  obtain ⟨a, b, rfl, rfl, hl, q⟩ := hw
  obtain ⟨p, xs, rfl, s1, r1⟩ := rv
  obtain ⟨p2, ys, rfl, s2, r2⟩ := ru
  refine ⟨p, p2, xs, ys, rfl, rfl, s1, s2, by rw [r1.length, r2.length]; exact hl, fun e => ?_, fun _ e => ?_, fun _ _ l hn => ?_⟩
  · subst e
    cases a with
    | nil => exact k _ L _ H q g (Tx.refl H) ⟨p2, ys, rfl, s2, r2⟩
    | cons d ds =>
      have := r1.length
      simp at this
  · subst e
    cases b with
    | nil =>
      rw [List.append_nil] at q
      exact k _ L _ H q g (Tx.refl H) ⟨p, xs, rfl, s1, r1⟩
    | cons d ds =>
      have := r2.length
      simp at this
  · exact k _ L _ _ q (g.ext (Ext.new hn)) (Ext.new hn).tx ⟨l, _, rfl, SqT.of upd_same, RpL.append (RpL.tx (Ext.new hn).tx _ _ r1) (RpL.tx (Ext.new hn).tx _ _ r2)⟩
theorem dop_catL : DOpR X (binaryOp .Add) (fun x y L Q => ∃ (p q : Addr) (i j : Nat) (xs ys : List SV), x = .rf p ∧ y = .rf q ∧ L[i]? = some (p, .lst xs) ∧ L[j]? = some (q, .lst ys) ∧ xs.length + ys.length ≤ sizeLine ∧ ∀ l, Q (.rf l) (L ++ [(l, .lst (xs ++ ys))])) := by
  refine ⟨_, op_cat, fun S H0 L H x y v u Q2 Qd g rv ru hw k => ?_⟩
  obtain ⟨p, q, i, j, xs, ys, rfl, rfl, hi, hj, hl, qd⟩ := hw
  cases (rv : v = .ref p)
  cases (ru : u = .ref q)
  obtain ⟨vs, h1, r1⟩ := g.at hi
  obtain ⟨us, h2, r2⟩ := g.at hj
  exact ⟨p, q, vs, us, rfl, rfl, h1, h2, by rw [r1.length, r2.length]; exact hl, fun l hn => k _ _ _ _ (qd l) (sg_lst g hn (r1.append r2)) (Ext.new hn).tx rfl⟩
/-- a + b -/
def dAdd : W2
  | .da (.int i), .da (.int j), L, Q => Q (.da (.int (i + j))) L
  | .da (.str i), .da (.str j), L, Q => i.length + j.length ≤ sizeLine ∧ Q (.da (.str (i ++ j))) L
  | .da (.tuple a), .da (.tuple b), L, Q => a.length + b.length ≤ sizeLine ∧ Q (.da (.tuple (a ++ b))) L
  | .rf p, .rf q, L, Q => ∃ (i j : Nat) (xs ys : List SV), L[i]? = some (p, .lst xs) ∧ L[j]? = some (q, .lst ys) ∧ xs.length + ys.length ≤ sizeLine ∧ ∀ l, Q (.rf l) (L ++ [(l, .lst (xs ++ ys))])
  | _, _, _, _ => False
theorem o_add : DOpR X (binaryOp .Add) dAdd := by
  refine ((dop_int0 op_add (g := fun i j => .int (i + j)) fun _ _ _ => rfl).or ((dop_str op_add_str (g := fun i j => .str (i ++ j)) fun _ _ _ => rfl).or (dop_catT.or dop_catL))).imp fun x y L Q h => ?_
  unfold dAdd at h
  split at h
  · exact .inl ⟨_, _, rfl, rfl, h⟩
  · exact .inr (.inl ⟨_, _, rfl, rfl, h⟩)
  · exact .inr (.inr (.inl ⟨_, _, rfl, rfl, h⟩))
  · obtain ⟨i, j, xs, ys, h⟩ := h
    exact .inr (.inr (.inr ⟨_, _, i, j, xs, ys, rfl, rfl, h⟩))
  · exact h.elim
def dSub : W2
  | .da (.int i), .da (.int j), L, Q => Q (.da (.int (i - j))) L
  | .da (.bool i), .da (.bool j), L, Q => Q (.da (.int ((if i then 1 else 0) - (if j then 1 else 0)))) L
  | _, _, _, _ => False
theorem o_sub_i : DOpR X (binaryOp .Sub) (fun x y L Q => ∃ i j, x = .da (.int i) ∧ y = .da (.int j) ∧ Q (.da (.int (i - j))) L) := dop_int0 op_sub (g := fun i j => .int (i - j)) fun _ _ _ => rfl
theorem dop_repT : DOpR X (binaryOp .Mult) (fun x y L Q => ∃ a i, x = .da (.tuple a) ∧ y = .da (.int i) ∧ (a ≠ [] ∧ 2 ≤ i ∧ i ≤ 1000 ∧ a.length ≤ 1000) ∧ Q (.da (.tuple (List.replicate i.toNat a).flatten)) L) := by
  refine ⟨_, op_repT, fun S H0 L H x y v u Q2 Qd g rv ru hw k => ?_⟩
  obtain ⟨a, i, rfl, rfl, ⟨h0, h1, h2, h3⟩, q⟩ := hw
  obtain ⟨p, xs, rfl, s1, r1⟩ := rv
  refine ⟨p, i, xs, rfl, ru, s1, fun e => ?_, h1, h2, by rw [r1.length]; exact h3, fun l hn => ?_⟩
  · subst e
    cases a with
    | nil => exact h0 rfl
    | cons d ds =>
      have := r1.length
      simp at this
  · refine k _ L _ _ q (g.ext (Ext.new hn)) (Ext.new hn).tx ⟨l, _, rfl, SqT.of upd_same, ?_⟩
    have r2 := RpL.tx (Ext.new hn (o := HO.tup (List.replicate i.toNat xs).flatten)).tx _ _ r1
    generalize upd H l (HO.tup (List.replicate i.toNat xs).flatten) = H9 at r2 ⊢
    generalize i.toNat = n
    induction n with
    | zero => exact rfl
    | succ n ih =>
      rw [List.replicate_succ, List.replicate_succ, List.flatten_cons, List.flatten_cons]
      exact RpL.append r2 ih
theorem dop_repL : DOpR X (binaryOp .Mult) (fun x y L Q => ∃ (p : Addr) (i : Int) (k : Nat) (xs : List SV), x = .rf p ∧ y = .da (.int i) ∧ L[k]? = some (p, .lst xs) ∧ (-(2 ^ 63) ≤ i ∧ i < 2 ^ 63) ∧ xs.length * i.toNat ≤ sizeLine ∧ ∀ l, Q (.rf l) (L ++ [(l, .lst (List.replicate i.toNat xs).flatten)])) := by
  refine ⟨_, op_rep, fun S H0 L H x y v u Q2 Qd g rv ru hw k => ?_⟩
  obtain ⟨p, i, j, xs, rfl, rfl, hj, ⟨h1, h2⟩, hl, qd⟩ := hw
  cases (rv : v = .ref p)
  obtain ⟨vs, hv, r1⟩ := g.at hj
  refine ⟨p, i, vs, rfl, ru, hv, h1, h2, by rw [r1.length]; exact hl, fun l hn => k _ _ _ _ (qd l) (sg_lst g hn ?_) (Ext.new hn).tx rfl⟩
  generalize i.toNat = n
  induction n with
  | zero => exact rfl
  | succ n ih =>
    rw [List.replicate_succ, List.replicate_succ, List.flatten_cons, List.flatten_cons]
    exact RpVs.append r1 ih
/-- a * b -/
def dMul : W2
  | .da (.int i), .da (.int j), L, Q => CMulW i j ∧ Q (.da (.int (i * j))) L
  | .da (.tuple a), .da (.int i), L, Q => (a ≠ [] ∧ 2 ≤ i ∧ i ≤ 1000 ∧ a.length ≤ 1000) ∧ Q (.da (.tuple (List.replicate i.toNat a).flatten)) L
  | .rf p, .da (.int i), L, Q => ∃ (k : Nat) (xs : List SV), L[k]? = some (p, .lst xs) ∧ (-(2 ^ 63) ≤ i ∧ i < 2 ^ 63) ∧ xs.length * i.toNat ≤ sizeLine ∧ ∀ l, Q (.rf l) (L ++ [(l, .lst (List.replicate i.toNat xs).flatten)])
  | _, _, _, _ => False
theorem o_mul : DOpR X (binaryOp .Mult) dMul := by
  refine ((dop_int op_mulW (g := fun i j => .int (i * j)) fun _ _ _ => rfl).or (dop_repT.or dop_repL)).imp fun x y L Q h => ?_
  unfold dMul at h
  split at h
  · exact .inl ⟨_, _, rfl, rfl, h⟩
  · exact .inr (.inl ⟨_, _, rfl, rfl, h⟩)
  · obtain ⟨k, xs, h⟩ := h
    exact .inr (.inr ⟨_, _, k, xs, rfl, rfl, h⟩)
  · exact h.elim
/-- a divisor that is not 0, below 2 ^ 9000 -/
def CDivZ (_ j : Int) : Prop := j ≠ 0 ∧ j.natAbs.log2 < 9000
theorem op_fdivZ : OpR X (binaryOp .FloorDiv) (rI CDivZ fun i j => .int (i.fdiv j)) := opI fun i j _ _ _ _ _ hc q => floordiv_int hc.1 q (.inl (PyProof.noPylong_of_log2 hc.2))
def dDiv : W2
  | .da (.int i), .da (.int j), L, Q => CDivZ i j ∧ Q (.da (.int (i.fdiv j))) L
  | _, _, _, _ => False
theorem o_div : DOpR X (binaryOp .FloorDiv) dDiv := by
  refine (dop_int op_fdivZ (g := fun i j => .int (i.fdiv j)) fun _ _ _ => rfl).imp fun x y L Q h => ?_
  unfold dDiv at h
  split at h
  · exact ⟨_, _, rfl, rfl, h⟩
  · exact h.elim
def dMod : W2
  | .da (.int i), .da (.int j), L, Q => 0 < j ∧ Q (.da (.int (i % j))) L
  | _, _, _, _ => False
theorem o_mod : DOpR X (binaryOp .Mod) dMod := by
  refine (dop_int op_mod (g := fun i j => .int (i % j)) fun _ _ _ => rfl).imp fun x y L Q h => ?_
  unfold dMod at h
  split at h
  · exact ⟨_, _, rfl, rfl, h⟩
  · exact h.elim
def dPow : W2
  | .da (.int i), .da (.int j), L, Q => CPow i j ∧ Q (.da (.int (i ^ j.toNat))) L
  | _, _, _, _ => False
theorem o_pow : DOpR X (binaryOp .Pow) dPow := by
  refine (dop_int op_pow (g := fun i j => .int (i ^ j.toNat)) fun _ _ _ => rfl).imp fun x y L Q h => ?_
  unfold dPow at h
  split at h
  · exact ⟨_, _, rfl, rfl, h⟩
  · exact h.elim
def dShl : W2
  | .da (.int i), .da (.int j), L, Q => CPow i j ∧ Q (.da (.int (i * 2 ^ j.toNat))) L
  | _, _, _, _ => False
theorem o_shl : DOpR X (binaryOp .LShift) dShl := by
  refine (dop_int op_shl (g := fun i j => .int (i * 2 ^ j.toNat)) fun _ _ _ => rfl).imp fun x y L Q h => ?_
  unfold dShl at h
  split at h
  · exact ⟨_, _, rfl, rfl, h⟩
  · exact h.elim
/-- orders of ints -/
def dCmp (g : Int → Int → Bool) : W2
  | .da (.int i), .da (.int j), L, Q => Q (.da (.bool (g i j))) L
  | _, _, _, _ => False
theorem o_cmp {f : Value → Value → Sem Value} {g : Int → Int → Bool} (h : OpR X f (rI0 fun i j => .bl (g i j))) : DOpR X f (dCmp g) := by
  refine (dop_int0 h (g := fun i j => .bool (g i j)) fun _ _ _ => rfl).imp fun x y L Q h => ?_
  unfold dCmp at h
  split at h
  · exact ⟨_, _, rfl, rfl, h⟩
  · exact h.elim
abbrev dLt : W2 := dCmp fun i j => decide (i < j)
abbrev dLe : W2 := dCmp fun i j => decide (i ≤ j)
abbrev dGt : W2 := dCmp fun i j => decide (j < i)
abbrev dGe : W2 := dCmp fun i j => decide (j ≤ i)
theorem o_lt : DOpR X (compareOp .Lt) dLt := o_cmp op_lt
theorem o_le : DOpR X (compareOp .LtE) dLe := o_cmp op_le
theorem o_gt : DOpR X (compareOp .Gt) dGt := o_cmp op_gt
theorem o_ge : DOpR X (compareOp .GtE) dGe := o_cmp op_ge
/-- == and != -/
def eqD : PyData → PyData → (Prop × Bool)
  | .int i, .int j => (True, decide (i = j))
  | .str i, .str j => (True, decide (i = j))
  | .bool i, .bool j => (True, decide (i = j))
  | x, y => (SeqAt.shaped x = true ∧ SeqAt.shaped y = true, PyData.eqv x y)
def dEq : W2
  | .da x, .da y, L, Q => (eqD x y).1 ∧ Q (.da (.bool (eqD x y).2)) L
  | _, _, _, _ => False
def dNe : W2
  | .da x, .da y, L, Q => (eqD x y).1 ∧ Q (.da (.bool (!(eqD x y).2))) L
  | _, _, _, _ => False
theorem dop_eqD (hu : X.A.units + 64 < cLine) : DOpR X (compareOp .Eq) (fun x y L Q => ∃ d e, x = .da d ∧ y = .da e ∧ SeqAt.shaped d = true ∧ SeqAt.shaped e = true ∧ Q (.da (.bool (PyData.eqv d e))) L) :=
  ⟨_, op_eqD hu, fun S H0 L H x y v u Q2 Qd g rv ru ⟨d, e, h1, h2, s1, s2, q⟩ k => by
    subst h1 h2
    exact ⟨d, e, Rp.dp d v rv, Rp.dp e u ru, s1, s2, k _ L _ H q g (Tx.refl H) rfl⟩⟩
theorem dop_neD (hu : X.A.units + 64 < cLine) : DOpR X (compareOp .NotEq) (fun x y L Q => ∃ d e, x = .da d ∧ y = .da e ∧ SeqAt.shaped d = true ∧ SeqAt.shaped e = true ∧ Q (.da (.bool (!PyData.eqv d e))) L) :=
  ⟨_, op_neD hu, fun S H0 L H x y v u Q2 Qd g rv ru ⟨d, e, h1, h2, s1, s2, q⟩ k => by
    subst h1 h2
    exact ⟨d, e, Rp.dp d v rv, Rp.dp e u ru, s1, s2, k _ L _ H q g (Tx.refl H) rfl⟩⟩
theorem dop_eqS : DOpR X (compareOp .Eq) (fun x y L Q => ∃ d e v u, x = .da d ∧ y = .da e ∧ (∀ H w, Rp X.K H d w → w = v) ∧ (∀ H w, Rp X.K H e w → w = u) ∧ scal v u = true ∧ Q (.da (.bool (decide (v = u)))) L) :=
  ⟨_, op_eq, fun S H0 L H x y v u Q2 Qd g rv ru ⟨d, e, v', u', h1, h2, f1, f2, s, q⟩ k => by
    subst h1 h2
    cases f1 H v rv
    cases f2 H u ru
    exact ⟨s, k _ L _ H q g (Tx.refl H) rfl⟩⟩
theorem dop_neS : DOpR X (compareOp .NotEq) (fun x y L Q => ∃ d e v u, x = .da d ∧ y = .da e ∧ (∀ H w, Rp X.K H d w → w = v) ∧ (∀ H w, Rp X.K H e w → w = u) ∧ scal v u = true ∧ Q (.da (.bool (!decide (v = u)))) L) :=
  ⟨_, op_ne, fun S H0 L H x y v u Q2 Qd g rv ru ⟨d, e, v', u', h1, h2, f1, f2, s, q⟩ k => by
    subst h1 h2
    cases f1 H v rv
    cases f2 H u ru
    exact ⟨s, k _ L _ H q g (Tx.refl H) rfl⟩⟩
theorem dec_V_int {i j : Int} : decide (V.int i = V.int j) = decide (i = j) := by
  by_cases e : i = j
  · subst e
    simp
  · rw [decide_eq_false e, decide_eq_false fun z => e (V.int.inj z)]
theorem dec_V_str {i j : Str} : decide (V.str i = V.str j) = decide (i = j) := by
  by_cases e : i = j
  · subst e
    simp
  · rw [decide_eq_false e, decide_eq_false fun z => e (V.str.inj z)]
theorem dec_V_bl {i j : Bool} : decide (V.bl i = V.bl j) = decide (i = j) := by
  by_cases e : i = j
  · subst e
    simp
  · rw [decide_eq_false e, decide_eq_false fun z => e (V.bl.inj z)]
theorem o_eq (hu : X.A.units + 64 < cLine) : DOpR X (compareOp .Eq) dEq := by
  refine (dop_eqS.or (dop_eqD hu)).imp fun x y L Q h => ?_
  unfold dEq at h
  split at h
  · rename_i d e
    unfold eqD at h
    split at h
    · exact .inl ⟨_, _, _, _, rfl, rfl, fun _ _ h => h, fun _ _ h => h, rfl, by rw [dec_V_int]; exact h.2⟩
    · exact .inl ⟨_, _, _, _, rfl, rfl, fun _ _ h => h, fun _ _ h => h, rfl, by rw [dec_V_str]; exact h.2⟩
    · exact .inl ⟨_, _, _, _, rfl, rfl, fun _ _ h => h, fun _ _ h => h, rfl, by rw [dec_V_bl]; exact h.2⟩
    · exact .inr ⟨_, _, rfl, rfl, h.1.1, h.1.2, h.2⟩
  · exact h.elim
theorem o_ne (hu : X.A.units + 64 < cLine) : DOpR X (compareOp .NotEq) dNe := by
  refine (dop_neS.or (dop_neD hu)).imp fun x y L Q h => ?_
  unfold dNe at h
  split at h
  · rename_i d e
    unfold eqD at h
    split at h
    · exact .inl ⟨_, _, _, _, rfl, rfl, fun _ _ h => h, fun _ _ h => h, rfl, by rw [dec_V_int]; exact h.2⟩
    · exact .inl ⟨_, _, _, _, rfl, rfl, fun _ _ h => h, fun _ _ h => h, rfl, by rw [dec_V_str]; exact h.2⟩
    · exact .inl ⟨_, _, _, _, rfl, rfl, fun _ _ h => h, fun _ _ h => h, rfl, by rw [dec_V_bl]; exact h.2⟩
    · exact .inr ⟨_, _, rfl, rfl, h.1.1, h.1.2, h.2⟩
  · exact h.elim
def isNone : PyData → Bool
  | .none => true
  | _ => false
def dIsN : W2
  | .da x, .da .none, L, Q => Q (.da (.bool (isNone x))) L
  | _, _, _, _ => False
def dNotN : W2
  | .da x, .da .none, L, Q => Q (.da (.bool (!isNone x))) L
  | _, _, _, _ => False
theorem isNone_of {K : PySem.W.Frag} {H : Hp} {d : PyData} {v : V} (r : Rp K H d v) : decide (v = .non) = isNone d := by
  cases d with
  | none => cases (r : v = .non); rfl
  | bool b => cases (r : v = .bl b); rfl
  | int b => cases (r : v = .int b); rfl
  | str b => cases (r : v = .str b); rfl
  | tuple b =>
    obtain ⟨a, xs, rfl, _⟩ := r
    rfl
  | list b => exact r.elim
  | dict b => exact r.elim
theorem o_isN : DOpR X (compareOp .Is) dIsN := ⟨_, op_isN, fun S H0 L H x y v u Q2 Qd g rv ru hw k => by
  unfold dIsN at hw
  split at hw
  · cases (ru : u = .non)
    refine ⟨rfl, k _ L _ H hw g (Tx.refl H) ?_⟩
    exact congrArg V.bl (isNone_of rv)
  · exact hw.elim⟩
theorem o_notN : DOpR X (compareOp .IsNot) dNotN := ⟨_, op_notN, fun S H0 L H x y v u Q2 Qd g rv ru hw k => by
  unfold dNotN at hw
  split at hw
  · cases (ru : u = .non)
    refine ⟨rfl, k _ L _ H hw g (Tx.refl H) ?_⟩
    exact congrArg V.bl (congrArg _ (isNone_of rv))
  · exact hw.elim⟩

/-! ### subscripts -/
def ixD {α : Type} (ds : List α) : Int → Option α
  | .ofNat n => ds[n]?
  | .negSucc n => if n < ds.length then ds[ds.length - 1 - n]? else none
theorem atI_of {α β : Type} {ds : List α} {xs : List β} {i : Int} {d : α} (e : xs.length = ds.length) (h : ixD ds i = some d) : ∃ j : Nat, ds[j]? = some d ∧ ∀ v, xs[j]? = some v → atI xs i = some v := by
  cases i with
  | ofNat n =>
    have h : ds[n]? = some d := h
    exact ⟨n, h, fun v hv => atI_nat (j := n) hv⟩
  | negSucc n =>
    change (if n < ds.length then ds[ds.length - 1 - n]? else none) = some d at h
    by_cases hn : n < ds.length
    · rw [if_pos hn] at h
      refine ⟨_, h, fun v hv => ?_⟩
      unfold atI ixN
      rw [if_neg (by omega), if_pos (by omega)]
      show xs[((Int.negSucc n) + (xs.length : Int)).toNat]? = some v
      rw [show ((Int.negSucc n) + (xs.length : Int)).toNat = ds.length - 1 - n by omega]
      exact hv
    · rw [if_neg hn] at h
      cases h
def DO.list? : DO → Option (List SV)
  | .lst xs => some xs
  | .rol xs => some xs
  | _ => none
theorem Sg.sql {K : PySem.W.Frag} {S : List Addr} {H0 H : Hp} {L : LS} {k : Nat} {p : Addr} {o : DO} {xs : List SV} (g : Sg K S H0 L H) (hk : L[k]? = some (p, o)) (ho : o.list? = some xs) : ∃ vs, SqL K H p vs ∧ RpVs K H xs vs := by
  cases o with
  | lst ys =>
    cases (Option.some.inj ho : ys = xs)
    obtain ⟨vs, h, r⟩ := g.at hk
    exact ⟨vs, SqL.of h, r⟩
  | rol ys =>
    cases (Option.some.inj ho : ys = xs)
    obtain ⟨vs, h, r⟩ := g.at hk
    exact ⟨vs, h.sql, r⟩
  | dic _ => cases ho
  | ins _ _ _ => cases ho
def dIx : W2
  | .da (.tuple ds), .da (.int i), L, Q => match ixD ds i with
    | some d => Q (.da d) L
    | none => False
  | .rf p, .da (.int i), L, Q => ∃ (k : Nat) (o : DO) (xs : List SV) (x : SV), L[k]? = some (p, o) ∧ o.list? = some xs ∧ ixD xs i = some x ∧ Q x L
  | .da (.str z), .da (.int i), L, Q => z.length ≤ sizeLine ∧ match ixD z.cps.toList i with
    | some c => Q (.da (.str ⟨#[c]⟩)) L
    | none => False
  | .tp xs, .da (.int i), L, Q => ∃ x, ixD xs i = some x ∧ Q x L
  | _, _, _, _ => False
theorem xe_ix {a b : Expr} {wa wb : WE} {pos : Pos} (ha : XE X a wa) (hb : XE X b wb) (hs : PlainIx b) : XE X (.Subscript a b pos) (wOp dIx wa wb) := by
  refine pe_imp (pe_ix ix_seq ha hb hs) (op_core fun S H0 L H x y v u Q2 Qd g rv ru hw k => ?_)
  unfold dIx at hw
  split at hw
  · rename_i ds i
    obtain ⟨p, xs, rfl, s1, r1⟩ := rv
    cases (ru : u = .int i)
    split at hw
    · rename_i d e
      obtain ⟨j, hj, hv⟩ := atI_of r1.length e
      obtain ⟨w, hw2, rw'⟩ := r1.at hj
      exact .inr (.inl ⟨p, xs, i, w, rfl, rfl, s1, hv w hw2, k _ L _ H hw g (Tx.refl H) rw'⟩)
    · exact hw.elim
  · rename_i p i
    obtain ⟨j, o, xs, x, hj, ho, hx, q⟩ := hw
    cases (rv : v = .ref p)
    cases (ru : u = .int i)
    obtain ⟨vs, sq, r⟩ := g.sql hj ho
    obtain ⟨m, hm, hv⟩ := atI_of r.length hx
    obtain ⟨w, hw2, rw'⟩ := r.at hm
    exact .inl ⟨p, vs, i, w, rfl, rfl, sq, hv w hw2, k _ L _ H q g (Tx.refl H) rw'⟩
  · rename_i z i
    cases (rv : v = .str z)
    cases (ru : u = .int i)
    obtain ⟨hl, hw⟩ := hw
    split at hw
    · rename_i c e
      obtain ⟨j, hj, hv⟩ := atI_of (xs := z.cps.toList) rfl e
      exact .inr (.inr ⟨z, i, c, rfl, rfl, hl, hv c hj, k _ L _ H hw g (Tx.refl H) rfl⟩)
    · exact hw.elim
  · rename_i xs i
    obtain ⟨x, hx, q⟩ := hw
    obtain ⟨p, vs, rfl, s1, r1⟩ := rv
    cases (ru : u = .int i)
    obtain ⟨m, hm, hv⟩ := atI_of r1.length hx
    obtain ⟨w, hw2, rw'⟩ := r1.at hm
    exact .inr (.inl ⟨p, vs, i, w, rfl, rfl, s1, hv w hw2, k _ L _ H q g (Tx.refl H) rw'⟩)
  · exact hw.elim

/-! ### slices -/
abbrev WO := List SV → LS → (Option Int → LS → Prop) → Prop
def canO (K : PySem.W.Frag) (W : WO) : TO := fun σ H Q2 => ∃ (S : List Addr) (H0 : Hp) (δ : List SV) (L : LS) (Qd : Option Int → LS → Prop), Sg K S H0 L H ∧ RpS K H δ σ ∧ W δ L Qd ∧
  ∀ b L' H', Qd b L' → Sg K S H0 L' H' → Tx H H' → Q2 b H'
abbrev XO (X : Cx) (e : Option Expr) (W : WO) : Prop := PO X e (canO X.K W)
theorem po_imp {e : Option Expr} {t t' : TO} (h : PO X e t) (i : ∀ σ H Q, t' σ H Q → t σ H Q) : PO X e t' := ⟨fun pins s σ H Q I hw => h.run pins s σ H Q I (i σ H Q hw)⟩
def wNoPart : WO := fun _ L Q => Q none L
def asI : SV → LS → (Int → LS → Prop) → Prop
  | .da (.int i), L, Q => Q i L
  | _, _, _ => False
theorem asI_of {K : PySem.W.Frag} {H : Hp} {x : SV} {v : V} {L : LS} {Q : Int → LS → Prop} (r : RpV K H x v) (h : asI x L Q) : ∃ b, v = .int b ∧ x = .da (.int b) ∧ Q b L := by
  unfold asI at h
  split at h
  · exact ⟨_, r, rfl, h⟩
  · exact h.elim
def wPart (w : WE) : WO := fun δ L Q => w δ L fun x L1 => asI x L1 fun i L2 => Q (some i) L2
theorem xo_none : XO X none wNoPart := po_imp po_none fun σ H Q ⟨S, H0, δ, L, Qd, g, rs, hw, k⟩ => k none L H hw g (Tx.refl H)
theorem xo_some {e : Expr} {w : WE} (h : XE X e w) : XO X (some e) (wPart w) := po_imp (po_some h) fun σ H Q ⟨S, H0, δ, L, Qd, g, rs, hw, k⟩ => ⟨S, H0, δ, L, _, g, rs, hw, fun x L1 v H1 q1 g1 t1 rv => by
  obtain ⟨i, rfl, rfl, q⟩ := asI_of rv q1
  exact ⟨i, rfl, k _ L1 H1 q g1 t1⟩⟩
/-- where a slice begins and ends -/
def cutD {α : Type} (xs : List α) (lo hi : Option Int) : List α := (xs.drop (HT.sIx xs.length 0 lo)).take (HT.sIx xs.length xs.length hi - HT.sIx xs.length 0 lo)
abbrev WSl := SV → Option Int → Option Int → LS → (SV → LS → Prop) → Prop
def dSl : WSl
  | .da (.tuple ds), lo, hi, L, Q => Q (.da (.tuple (cutD ds lo hi))) L
  | .rf p, lo, hi, L, Q => ∃ (k : Nat) (o : DO) (xs : List SV), L[k]? = some (p, o) ∧ o.list? = some xs ∧ ∀ l, Q (.rf l) (L ++ [(l, .lst (cutD xs lo hi))])
  | _, _, _, _, _ => False
def wSl (w : WE) (lo hi : WO) : WE := fun δ L Q => w δ L fun x L1 => lo δ L1 fun i L2 => hi δ L2 fun j L3 => dSl x i j L3 Q
theorem RpL.cut {K : PySem.W.Frag} {H : Hp} {ds : List PyData} {vs : List V} (r : RpL K H ds vs) (lo hi : Option Int) : RpL K H (cutD ds lo hi) (cutV vs lo hi) := by
  unfold cutD cutV
  rw [r.length]
  exact (r.drop _).take _
theorem RpVs.cut {K : PySem.W.Frag} {H : Hp} {ds : List SV} {vs : List V} (r : RpVs K H ds vs) (lo hi : Option Int) : RpVs K H (cutD ds lo hi) (cutV vs lo hi) := by
  unfold cutD cutV
  rw [r.length]
  exact (r.drop _).take _
theorem xe_slice {e : Expr} {lo hi : Option Expr} {w : WE} {wl wh : WO} {p2 pos : Pos} (he : XE X e w) (hl : XO X lo wl) (hh : XO X hi wh) : XE X (.Subscript e (.Slice lo hi none p2) pos) (wSl w wl wh) := by
  refine pe_imp (pe_slice (sl_list.or sl_tupA) he hl hh) fun σ H Q ⟨S, H0, δ, L, Qd, g, rs, hw, k⟩ => ⟨S, H0, δ, L, _, g, rs, hw, fun x L1 v H1 q1 g1 t1 rv => ?_⟩
  refine ⟨S, H0, δ, L1, _, g1, rs.tx t1, q1, fun i L2 H2 q2 g2 t2 => ?_⟩
  refine ⟨S, H0, δ, L2, _, g2, rs.tx (t1.trans t2), q2, fun j L3 H3 q3 g3 t3 => ?_⟩
  have rv3 := rv.tx (t2.trans t3)
  have tt := (t1.trans t2).trans t3
  unfold dSl at q3
  split at q3
  · rename_i ds
    obtain ⟨p, xs, rfl, s1, r1⟩ := rv3
    refine .inr ⟨p, xs, rfl, s1, fun hz => ?_, fun hz l hn => ?_⟩
    · have ec : cutD ds i j = ds := by
        unfold cutD
        rw [← r1.length, hz.1, hz.2, List.drop_zero, Nat.sub_zero, r1.length, List.take_length]
      rw [ec] at q3
      exact k _ L3 _ H3 q3 g3 tt ⟨p, xs, rfl, s1, r1⟩
    · exact k _ L3 _ _ q3 (g3.ext (Ext.new hn)) (tt.trans (Ext.new hn).tx) ⟨l, _, rfl, SqT.of upd_same, RpL.tx (Ext.new hn).tx _ _ (r1.cut i j)⟩
  · rename_i p
    obtain ⟨m, o, xs, hm, ho, q⟩ := q3
    cases (rv3 : v = .ref p)
    obtain ⟨vs, sq, r⟩ := g3.sql hm ho
    exact .inl ⟨p, vs, rfl, sq, fun l hn => k _ _ _ _ (q l) (sg_lst g3 hn (r.cut i j)) (tt.trans (Ext.new hn).tx) rfl⟩
  · exact q3.elim

/-! ### built-in calls -/
def dLen : WC
  | [.da (.tuple ds)], L, Q => Q (.da (.int ds.length)) L
  | [.da (.str z)], L, Q => z.length ≤ sizeLine ∧ Q (.da (.int z.length)) L
  | [.rf p], L, Q => ∃ (k : Nat) (o : DO) (xs : List SV), L[k]? = some (p, o) ∧ o.list? = some xs ∧ Q (.da (.int xs.length)) L
  | _, _, _ => False
theorem RpVs.one {K : PySem.W.Frag} {H : Hp} {x : SV} {vs : List V} (h : RpVs K H [x] vs) : ∃ v, vs = [v] ∧ RpV K H x v := by
  obtain ⟨v, ws, rfl, r, rs⟩ := h
  have rs : _ = [] := rs
  subst rs
  exact ⟨v, rfl, r⟩
theorem RpVs.two {K : PySem.W.Frag} {H : Hp} {x y : SV} {vs : List V} (h : RpVs K H [x, y] vs) : ∃ v u, vs = [v, u] ∧ RpV K H x v ∧ RpV K H y u := by
  obtain ⟨v, ws, rfl, r, rs⟩ := h
  obtain ⟨u, rfl, r2⟩ := rs.one
  exact ⟨v, u, rfl, r, r2⟩
theorem b_len : DCallR X (.builtin "len") dLen := ⟨_, call_len, fun S H0 L H xs vs Q2 Qd g rv hw k => by
  unfold dLen at hw
  split at hw
  · obtain ⟨v, rfl, r⟩ := rv.one
    obtain ⟨p, xs, rfl, s1, r1⟩ := r
    refine ⟨_, xs.length, rfl, .inr ⟨xs, s1, rfl⟩, k _ L _ H hw g (Tx.refl H) ?_⟩
    rw [r1.length]
    rfl
  · obtain ⟨v, rfl, r⟩ := rv.one
    cases (r : v = .str _)
    exact ⟨_, _, rfl, ⟨hw.1, rfl⟩, k _ L _ H hw.2 g (Tx.refl H) rfl⟩
  · obtain ⟨v, rfl, r⟩ := rv.one
    cases (r : v = .ref _)
    obtain ⟨m, o, xs, hm, ho, q⟩ := hw
    obtain ⟨vs, sq, r⟩ := g.sql hm ho
    refine ⟨_, vs.length, rfl, .inl ⟨vs, sq, rfl⟩, k _ L _ H q g (Tx.refl H) ?_⟩
    rw [r.length]
    rfl
  · exact hw.elim⟩
def dAbs : WC
  | [.da (.int i)], L, Q => Q (.da (.int (if i < 0 then -i else i))) L
  | _, _, _ => False
theorem b_abs : DCallR X (.builtin "abs") dAbs := ⟨_, call_abs, fun S H0 L H xs vs Q2 Qd g rv hw k => by
  unfold dAbs at hw
  split at hw
  · obtain ⟨v, rfl, r⟩ := rv.one
    cases (r : v = .int _)
    exact ⟨_, rfl, k _ L _ H hw g (Tx.refl H) rfl⟩
  · exact hw.elim⟩
def dInt : WC
  | [.da (.int i)], L, Q => Q (.da (.int i)) L
  | [.da (.bool b)], L, Q => Q (.da (.int (if b then 1 else 0))) L
  | _, _, _ => False
theorem b_int : DCallR X (.type "int") dInt := ⟨_, call_int1, fun S H0 L H xs vs Q2 Qd g rv hw k => by
  unfold dInt at hw
  split at hw
  · obtain ⟨v, rfl, r⟩ := rv.one
    cases (r : v = .int _)
    exact .inl ⟨_, rfl, k _ L _ H hw g (Tx.refl H) rfl⟩
  · obtain ⟨v, rfl, r⟩ := rv.one
    cases (r : v = .bl _)
    exact .inr ⟨_, rfl, k _ L _ H hw g (Tx.refl H) rfl⟩
  · exact hw.elim⟩
def dGcd : WC
  | [.da (.int i), .da (.int j)], L, Q => Q (.da (.int ((Nat.gcd i.natAbs j.natAbs : Nat) : Int))) L
  | _, _, _ => False
theorem b_gcd : DCallR X (.builtin "math.gcd") dGcd := ⟨_, cr_gcd, fun S H0 L H xs vs Q2 Qd g rv hw k => by
  unfold dGcd at hw
  split at hw
  · obtain ⟨v, u, rfl, r, r2⟩ := rv.two
    cases (r : v = .int _)
    cases (r2 : u = .int _)
    exact ⟨_, _, rfl, k _ L _ H hw g (Tx.refl H) rfl⟩
  · exact hw.elim⟩
def dMax2 : WC
  | [.da (.int i), .da (.int j)], L, Q => Q (.da (.int (if j > i then j else i))) L
  | _, _, _ => False
theorem b_max2 (hc : X.calm = true) : DCallR X (.builtin "max") dMax2 := ⟨_, call_max2 hc, fun S H0 L H xs vs Q2 Qd g rv hw k => by
  unfold dMax2 at hw
  split at hw
  · obtain ⟨v, u, rfl, r, r2⟩ := rv.two
    cases (r : v = .int _)
    cases (r2 : u = .int _)
    exact ⟨_, _, rfl, k _ L _ H hw g (Tx.refl H) rfl⟩
  · exact hw.elim⟩
def dMin2 : WC
  | [.da (.int i), .da (.int j)], L, Q => Q (.da (.int (if j < i then j else i))) L
  | _, _, _ => False
theorem b_min2 (hc : X.calm = true) : DCallR X (.builtin "min") dMin2 := ⟨_, call_min2 hc, fun S H0 L H xs vs Q2 Qd g rv hw k => by
  unfold dMin2 at hw
  split at hw
  · obtain ⟨v, u, rfl, r, r2⟩ := rv.two
    cases (r : v = .int _)
    cases (r2 : u = .int _)
    exact ⟨_, _, rfl, k _ L _ H hw g (Tx.refl H) rfl⟩
  · exact hw.elim⟩
/-- tuple(x): of a list of data, of a tuple -/
def dTuple : WC
  | [.da (.tuple ds)], L, Q => Q (.da (.tuple ds)) L
  | [.rf p], L, Q => ∃ (k : Nat) (o : DO) (xs : List SV) (ds : List PyData), L[k]? = some (p, o) ∧ o.list? = some xs ∧ das xs = some ds ∧ Q (.da (.tuple ds)) L
  | _, _, _ => False
theorem b_tuple : DCallR X (.type "tuple") dTuple := ⟨_, call_tuple_of, fun S H0 L H xs vs Q2 Qd g rv hw k => by
  unfold dTuple at hw
  split at hw
  · obtain ⟨v, rfl, r⟩ := rv.one
    obtain ⟨p, xs, rfl, s1, r1⟩ := r
    exact ⟨p, xs, rfl, .inr ⟨s1, k _ L _ H hw g (Tx.refl H) ⟨p, xs, rfl, s1, r1⟩⟩⟩
  · obtain ⟨v, rfl, r⟩ := rv.one
    cases (r : v = .ref _)
    obtain ⟨m, o, xs, ds, hm, ho, hd, q⟩ := hw
    obtain ⟨vs, sq, r⟩ := g.sql hm ho
    have e := das_of hd
    subst e
    exact ⟨_, vs, rfl, .inl ⟨sq, fun l hn => k _ L _ _ q (g.ext (Ext.new hn)) (Ext.new hn).tx ⟨l, vs, rfl, SqT.of upd_same, RpL.tx (Ext.new hn).tx _ _ (RpVs.das.mp r)⟩⟩⟩
  · exact hw.elim⟩
/-- list(x) -/
def dList : WC
  | [.da (.tuple ds)], L, Q => ∀ l, Q (.rf l) (L ++ [(l, .lst (ds.map SV.da))])
  | [.rf p], L, Q => ∃ (k : Nat) (o : DO) (xs : List SV), L[k]? = some (p, o) ∧ o.list? = some xs ∧ ∀ l, Q (.rf l) (L ++ [(l, .lst xs)])
  | _, _, _ => False
theorem b_list : DCallR X (.type "list") dList := ⟨_, call_list_of, fun S H0 L H xs vs Q2 Qd g rv hw k => by
  unfold dList at hw
  split at hw
  · obtain ⟨v, rfl, r⟩ := rv.one
    obtain ⟨p, xs, rfl, s1, r1⟩ := r
    exact ⟨p, xs, rfl, .inr s1, fun l hn => k _ _ _ _ (hw l) (sg_lst g hn (RpVs.das.mpr r1)) (Ext.new hn).tx rfl⟩
  · obtain ⟨v, rfl, r⟩ := rv.one
    cases (r : v = .ref _)
    obtain ⟨m, o, xs, hm, ho, q⟩ := hw
    obtain ⟨vs, sq, r⟩ := g.sql hm ho
    exact ⟨_, vs, rfl, .inl sq, fun l hn => k _ _ _ _ (q l) (sg_lst g hn r) (Ext.new hn).tx rfl⟩
  · exact hw.elim⟩
/-- sum(xs) of a list of ints -/
def intsD : List SV → Option (List Int)
  | [] => some []
  | .da (.int i) :: xs => (intsD xs).map (i :: ·)
  | _ => none
theorem intsD_of {K : PySem.W.Frag} {H : Hp} : ∀ {xs : List SV} {ns : List Int} {vs : List V}, intsD xs = some ns → RpVs K H xs vs → vs = ns.map V.int
  | [], ns, vs, h, r => by
    cases (Option.some.inj h : [] = ns)
    exact r
  | .da (.int i) :: xs, ns, vs, h, r => by
    obtain ⟨v, ws, rfl, r1, r2⟩ := r
    cases e : intsD xs with
    | none => simp [intsD, e] at h
    | some es =>
      simp [intsD, e] at h
      subst h
      cases (r1 : v = .int i)
      rw [intsD_of e r2]
      rfl
  | .un :: xs, ds, _, h, _ => by cases h
  | .rf p :: xs, ds, _, h, _ => by cases h
  | .da .none :: xs, ds, _, h, _ => by cases h
  | .da (.bool _) :: xs, ds, _, h, _ => by cases h
  | .da (.str _) :: xs, ds, _, h, _ => by cases h
  | .da (.tuple _) :: xs, ds, _, h, _ => by cases h
  | .da (.list _) :: xs, ds, _, h, _ => by cases h
  | .da (.dict _) :: xs, ds, _, h, _ => by cases h
def dSum : WC
  | [.rf p], L, Q => ∃ (k : Nat) (o : DO) (xs : List SV) (ns : List Int), L[k]? = some (p, o) ∧ o.list? = some xs ∧ intsD xs = some ns ∧ Q (.da (.int ns.sum)) L
  | _, _, _ => False
theorem b_sum (hc : X.calm = true) : DCallR X (.builtin "sum") dSum := ⟨_, cr_sum hc, fun S H0 L H xs vs Q2 Qd g rv hw k => by
  unfold dSum at hw
  split at hw
  · obtain ⟨v, rfl, r⟩ := rv.one
    cases (r : v = .ref _)
    obtain ⟨m, o, xs, ns, hm, ho, hd, q⟩ := hw
    obtain ⟨vs, sq, r⟩ := g.sql hm ho
    have e := intsD_of hd r
    subst e
    exact ⟨_, ns, rfl, sq, k _ L _ H q g (Tx.refl H) rfl⟩
  · exact hw.elim⟩
/-- isinstance(x, T), T a built-in type -/
def tyD : PyData → String
  | .none => "NoneType"
  | .bool _ => "bool"
  | .int _ => "int"
  | .str _ => "str"
  | .tuple _ => "tuple"
  | .list _ => "list"
  | .dict _ => "dict"
inductive Ty where | bool | int | str | tuple | list
def Ty.nm : Ty → String
  | .bool => "bool"
  | .int => "int"
  | .str => "str"
  | .tuple => "tuple"
  | .list => "list"
def tyB : Ty → PyData → Bool
  | .bool, .bool _ => true
  | .int, .bool _ => true
  | .int, .int _ => true
  | .str, .str _ => true
  | .tuple, .tuple _ => true
  | _, _ => false
def tyL : Ty → Bool
  | .list => true
  | _ => false
def isTy (T : Ty) : SV → LS → (Bool → Prop) → Prop
  | .da d, _, Q => Q (tyB T d)
  | .rf p, L, Q => ∃ (k : Nat) (xs : List SV), L[k]? = some (p, .lst xs) ∧ Q (tyL T)
  | _, _, _ => False
def wIsi (T : Ty) (w : WE) : WE := fun δ L Q => w δ L fun x L1 => isTy T x L1 fun b => Q (.da (.bool b)) L1
theorem kit_in {T : String} (hT : T ∈ ["bool", "int", "str", "tuple", "list"]) {K : PySem.W.Frag} : ∀ a ∈ ["NoneType", "bool", "int", "str", "tuple", "list"], PySem.W.kitOne K (.type a) (.type T) = some (a == T || (a == "bool" && T == "int")) := by
  simp only [List.mem_cons, List.not_mem_nil, or_false] at hT
  intro a ha
  simp only [List.mem_cons, List.not_mem_nil, or_false] at ha
  rcases hT with rfl | rfl | rfl | rfl | rfl <;> rcases ha with rfl | rfl | rfl | rfl | rfl | rfl <;> exact kit_ty (by decide +kernel)
theorem Rp.ty {K : PySem.W.Frag} {H : Hp} {d : PyData} {v : V} (r : Rp K H d v) : TyX K H v (.type (tyD d)) ∧ tyD d ∈ ["NoneType", "bool", "int", "str", "tuple", "list"] := by
  cases d with
  | none => cases (r : v = .non); exact ⟨.base .non, by simp [tyD]⟩
  | bool b => cases (r : v = .bl b); exact ⟨.base (.bl b), by simp [tyD]⟩
  | int b => cases (r : v = .int b); exact ⟨.base (.int b), by simp [tyD]⟩
  | str b => cases (r : v = .str b); exact ⟨.base (.str b), by simp [tyD]⟩
  | tuple ds =>
    obtain ⟨a, xs, rfl, s, _⟩ := r
    refine ⟨?_, by simp [tyD]⟩
    rcases s with (s | ⟨o, s⟩) | ⟨o, its, n, h, c, _⟩
    · exact .base (.tup s)
    · exact .fTuple s
    · exact .kTuple h c
  | list b => exact r.elim
  | dict b => exact r.elim
theorem Ty.mem (T : Ty) : T.nm ∈ ["bool", "int", "str", "tuple", "list"] := by cases T <;> simp [Ty.nm]
theorem tyB_of {K : PySem.W.Frag} {H : Hp} {d : PyData} {v : V} (T : Ty) (r : Rp K H d v) : (tyD d == T.nm || (tyD d == "bool" && T.nm == "int")) = tyB T d := by
  cases d with
  | list b => exact r.elim
  | dict b => exact r.elim
  | _ => cases T <;> rfl
theorem xe_isi (T : Ty) {x : Str} {e : Expr} {w : WE} {p p2 pos : Pos} (hg : Gl X "isinstance") (hm : X.mg "isinstance" = none) (hgT : Gl X x) (hmT : X.mg x = none) (hvT : bootBuiltins x = some (.type T.nm)) (he : XE X e w)
    (hn : x ≠ "__name__" := by decide) (hd : (x == ("__debug__" : Str)) = false := by decide) (hs : starEach [e, .Name x p2] X.env = (false, eval e X.env) :: starEach [.Name x p2] X.env := by rfl) (hs2 : starEach [.Name x p2] X.env = (false, eval (.Name x p2) X.env) :: starEach [] X.env := by rfl)
    (hpl : (backTo pos (starEach [.Name x p2] X.env)).any (·.1) = false := by rfl) : XE X (.Call (.Name "isinstance" p) [e, .Name x p2] [] pos) (wIsi T w) := by
  refine pe_imp (pe_callB call_isi hg hm (by decide +kernel) (pa_cons he (pa_cons (pe_bltn (v := .ty T.nm) hgT hmT hvT rfl hn hd) pa_nil hs2) hs) (by decide) (by decide) hs hpl) fun σ H Q ⟨S, H0, δ, L, Qd, g, rs, hw, k⟩ => ?_
  refine ⟨S, H0, δ, L, _, g, rs, hw, fun x L1 v H1 q1 g1 t1 rv => ?_⟩
  unfold isTy at q1
  split at q1
  · rename_i d
    obtain ⟨ty, hmem⟩ := Rp.ty rv
    exact ⟨v, .ty T.nm, _, _, _, rfl, .ty T.nm, ty, kit_in T.mem _ hmem, by rw [tyB_of T rv]; exact k _ _ _ H1 q1 g1 t1 rfl⟩
  · rename_i q
    obtain ⟨m, xs, hm, q1⟩ := q1
    cases (rv : v = .ref q)
    obtain ⟨vs, hv, r⟩ := g1.at hm
    have e : ("list" == T.nm || ("list" == "bool" && T.nm == "int")) = tyL T := by cases T <;> rfl
    exact ⟨.ref q, .ty T.nm, _, _, _, rfl, .ty T.nm, .base (.lst hv), kit_in T.mem "list" (by simp), by rw [e]; exact k _ _ _ H1 q1 g1 t1 rfl⟩
  · exact q1.elim
end
end Pd
namespace Pd
open PySem PySem.Spec PyProof.Rows L2

/-! ### targets -/
abbrev WG := SV → List SV → LS → (List SV → Prop) → Prop
/-- js: the slots that it stores -/
def canG (K : PySem.W.Frag) (js : List Nat) (W : WG) : TG := fun v σ H Q => ∃ (S : List Addr) (H0 : Hp) (δ : List SV) (L : LS) (x : SV) (Qd : List SV → Prop), Sg K S H0 L H ∧ RpS K H δ σ ∧ RpV K H x v ∧ W x δ L Qd ∧
  ∀ δ' σ', Qd δ' → RpS K H δ' σ' → (∀ vs : List Nat, (∀ j ∈ js, j ∈ vs) → wipe σ' vs = wipe σ vs) → Q σ' H
abbrev XG (X : Cx) (tg : Expr) (js : List Nat) (W : WG) : Prop := PG X tg (canG X.K js W)
theorem pg_imp {X : Cx} {e : Expr} {t t' : TG} (h : PG X e t) (i : ∀ v σ H Q, t' v σ H Q → t v σ H Q) : PG X e t' := ⟨fun pins s σ H v u Q I r hw => h.run pins s σ H v u Q I r (i v σ H Q hw)⟩
def gNm (i : Nat) : WG := fun x δ _ Q => Q (δ.set i x)
theorem set_none_comm (σ : L2.St) (i j : Nat) (o : Option V) (h : i ≠ j) : (σ.set i o).set j none = (σ.set j none).set i o := List.set_comm _ _ h
theorem wipe_set_ne {σ : L2.St} {i : Nat} {o : Option V} : ∀ {vs : List Nat}, i ∉ vs → wipe (σ.set i o) vs = (wipe σ vs).set i o
  | [], _ => rfl
  | v :: vs, h => by
    unfold wipe
    rw [wipe_set_ne (fun z => h (List.mem_cons_of_mem _ z)), List.set_comm _ _ (fun z => h (by rw [z]; exact List.mem_cons_self))]
theorem wipe_set {σ : L2.St} {i : Nat} {o : Option V} : ∀ {vs : List Nat}, i ∈ vs → wipe (σ.set i o) vs = wipe σ vs
  | v :: vs, h => by
    by_cases hm : i ∈ vs
    · unfold wipe
      rw [wipe_set hm]
    · have e : i = v := by
        rcases List.mem_cons.mp h with e | e
        · exact e
        · exact absurd e hm
      subst e
      unfold wipe
      rw [wipe_set_ne hm, List.set_set]
section
variable {X : Cx} {pos : Pos}
theorem xg_name {i : Nat} {x : Str} (hN : X.N.Nodup) (hi : X.N[i]? = some x) (hx : Loc X.env.scope x) (hf : X.fn x = true ∨ X.env.scope.names.lookup x = some .local := by first | exact .inl rfl | exact .inr rfl | assumption) : XG X (.Name x pos) [i] (gNm i) :=
  pg_imp (pg_name hN hi hx hf) fun v σ H Q ⟨S, H0, δ, L, y, Qd, g, rs, rv, hw, k⟩ => k _ _ hw (RpS.set rv i rs) fun vs h => wipe_set (h i (by simp))
/-- several targets in a row -/
abbrev WGs := List SV → List SV → LS → (List SV → Prop) → Prop
def canGs (K : PySem.W.Frag) (js : List Nat) (W : WGs) : TGs := fun v σ H Q => ∃ (S : List Addr) (H0 : Hp) (δ : List SV) (L : LS) (x : List SV) (Qd : List SV → Prop), Sg K S H0 L H ∧ RpS K H δ σ ∧ RpVs K H x v ∧ W x δ L Qd ∧
  ∀ δ' σ', Qd δ' → RpS K H δ' σ' → (∀ vs : List Nat, (∀ j ∈ js, j ∈ vs) → wipe σ' vs = wipe σ vs) → Q σ' H
abbrev XGs (X : Cx) (tg : List Expr) (js : List Nat) (W : WGs) : Prop := PGs X tg (canGs X.K js W)
theorem pgs_imp {e : List Expr} {t t' : TGs} (h : PGs X e t) (i : ∀ v σ H Q, t' v σ H Q → t v σ H Q) : PGs X e t' := ⟨fun pins s σ H v u Q I r hw => h.run pins s σ H v u Q I r (i v σ H Q hw)⟩
def gNl : WGs := fun xs δ _ Q => match xs with
  | [] => Q δ
  | _ => False
def gCn (w : WG) (ws : WGs) : WGs := fun xs δ L Q => match xs with
  | x :: xs => w x δ L fun δ' => ws xs δ' L Q
  | _ => False
theorem xgs_nil : XGs X [] [] gNl := pgs_imp pgs_nil fun v σ H Q ⟨S, H0, δ, L, y, Qd, g, rs, rv, hw, k⟩ => by
  unfold gNl at hw
  split at hw
  · exact ⟨rv, k _ _ hw rs fun _ _ => rfl⟩
  · exact hw.elim
theorem xgs_cons {e : Expr} {es : List Expr} {j1 j2 : List Nat} {w : WG} {ws : WGs} (h1 : XG X e j1 w) (h2 : XGs X es j2 ws) (hs : (assignEach (e :: es) X.env).map (·.2) = assign e X.env :: (assignEach es X.env).map (·.2) := by rfl) : XGs X (e :: es) (j1 ++ j2) (gCn w ws) :=
  pgs_imp (pgs_cons h1 h2 hs) fun v σ H Q ⟨S, H0, δ, L, y, Qd, g, rs, rv, hw, k⟩ => by
    unfold gCn at hw
    split at hw
    · obtain ⟨v1, vs, rfl, r1, r2⟩ := rv
      refine ⟨v1, vs, rfl, S, H0, δ, L, _, _, g, rs, r1, hw, fun δ1 σ1 q1 rs1 w1 => ?_⟩
      exact ⟨S, H0, δ1, L, _, _, g, rs1, r2, q1, fun δ2 σ2 q2 rs2 w2 => k δ2 σ2 q2 rs2 fun vs h => (w2 vs fun j hj => h j (List.mem_append_right _ hj)).trans (w1 vs fun j hj => h j (List.mem_append_left _ hj))⟩
    · exact hw.elim
/-- a tuple of targets = a tuple -/
def gTp (n : Nat) (ws : WGs) : WG := fun x δ L Q => match x with
  | .da (.tuple ds) => ds.length = n ∧ ws (ds.map SV.da) δ L Q
  | .tp xs => xs.length = n ∧ ws xs δ L Q
  | _ => False
theorem xg_tup {es : List Expr} {k : Nat} {js : List Nat} {ws : WGs} {n : Nat} (hc : X.calm = true) (h : XGs X es js ws)
    (hn : (assignEach es X.env).length = n := by rfl) (hst : (assignEach es X.env).findIdx? (·.1) = none := by rfl) : XG X (.Tuple es k pos) js (gTp n ws) :=
  pg_imp (pg_tup hc h hn hst) fun v σ H Q ⟨S, H0, δ, L, y, Qd, g, rs, rv, hw, k⟩ => by
    unfold gTp at hw
    split at hw
    · obtain ⟨p, xs, rfl, s, r⟩ := rv
      exact ⟨p, xs, rfl, s, by rw [r.length]; exact hw.1, S, H0, δ, L, _, Qd, g, rs, RpVs.das.mpr r, hw.2, k⟩
    · obtain ⟨p, xs, rfl, s, r⟩ := rv
      exact ⟨p, xs, rfl, s, by rw [r.length]; exact hw.1, S, H0, δ, L, _, Qd, g, rs, r, hw.2, k⟩
    · exact hw.elim
end

/-! ### statements -/
section
variable {X : Cx} {Wx : WX} {pos : Pos}
def wNx : WS := fun D δ L => D.nx δ L
def wSeq (t u : WS) : WS := fun D δ L => t { D with nx := u D } δ L
theorem EndsOk.nxt {K : PySem.W.Frag} {S : List Addr} {H0 Hs : Hp} {DD : DE} {D : Ends} {f : List SV → LS → Prop} {F : L2.St → Hp → Prop} (E : EndsOk K S H0 Wx Hs DD D) (h : ∀ δ L σ H, f δ L → Sg K S H0 L H → RpS K H δ σ → Tx Hs H → F σ H) : EndsOk K S H0 Wx Hs { DD with nx := f } { D with nx := F } :=
  ⟨h, E.rt, E.bk, E.ct, E.ex⟩
theorem xss_nil : XSs X Wx [] wNx := pss_imp pss_nil fun D σ H ⟨S, H0, δ, L, DD, g, rs, hw, E⟩ => E.nx δ L σ H hw g rs (Tx.refl H)
variable {st : Stmt} {rest : List Stmt} {t u : WS}
theorem xss_cons (h1 : XS X Wx st t) (h2 : XSs X Wx rest u) : XSs X Wx (st :: rest) (wSeq t u) := pss_imp (pss_cons h1 h2) fun D σ H ⟨S, H0, δ, L, DD, g, rs, hw, E⟩ =>
  ⟨S, H0, δ, L, _, g, rs, hw, E.nxt fun δ1 L1 σ1 H1 q1 g1 rs1 t1 => ⟨S, H0, δ1, L1, DD, g1, rs1, q1, E.sh t1⟩⟩
/-- .. with a word between them -/
def wCut (t u : WS) : WS := fun D δ L => ∃ M : List SV → LS → Prop, t { D with nx := M } δ L ∧ ∀ δ' L', M δ' L' → u D δ' L'
theorem xss_cut (h1 : XS X Wx st t) (h2 : XSs X Wx rest u) : XSs X Wx (st :: rest) (wCut t u) := pss_imp (pss_cons h1 h2) fun D σ H ⟨S, H0, δ, L, DD, g, rs, ⟨M, hw, hm⟩, E⟩ =>
  ⟨S, H0, δ, L, _, g, rs, hw, E.nxt fun δ1 L1 σ1 H1 q1 g1 rs1 t1 => ⟨S, H0, δ1, L1, DD, g1, rs1, hm δ1 L1 q1, E.sh t1⟩⟩
theorem xss_one (h1 : XS X Wx st t) : XSs X Wx [st] t := pss_one h1
theorem xs_pass : XS X Wx (.Pass pos) wNx := ps_imp ps_pass fun D σ H ⟨S, H0, δ, L, DD, g, rs, hw, E⟩ => E.nx δ L σ H hw g rs (Tx.refl H)
def wBrk : WS := fun D δ L => D.bk δ L
def wCnt : WS := fun D δ L => D.ct δ L
theorem xs_break : XS X Wx (.Break pos) wBrk := ps_imp ps_break fun D σ H ⟨S, H0, δ, L, DD, g, rs, hw, E⟩ => E.bk δ L σ H hw g rs (Tx.refl H)
theorem xs_continue : XS X Wx (.Continue pos) wCnt := ps_imp ps_continue fun D σ H ⟨S, H0, δ, L, DD, g, rs, hw, E⟩ => E.ct δ L σ H hw g rs (Tx.refl H)
variable {e : Expr} {we : WE}
def wDrop (we : WE) : WS := fun D δ L => we δ L fun _ L1 => D.nx δ L1
theorem xs_expr (he : XE X e we) (hs : swapsWith e none pos.line X.env = pure false := by rfl) : XS X Wx (.Expr e pos) (wDrop we) := ps_imp (ps_expr he hs) fun D σ H ⟨S, H0, δ, L, DD, g, rs, hw, E⟩ =>
  ⟨S, H0, δ, L, _, g, rs, hw, fun x L1 v H1 q1 g1 t1 rv => E.nx δ L1 σ H1 q1 g1 (rs.tx t1) t1⟩
theorem xs_doc {x : Str} {j} {pos'} : XS X Wx (.Expr (.Constant (.str x) j pos) pos') wNx := ps_imp ps_doc fun D σ H ⟨S, H0, δ, L, DD, g, rs, hw, E⟩ => E.nx δ L σ H hw g rs (Tx.refl H)
def wRet (we : WE) : WS := fun D δ L => we δ L D.rt
theorem xs_ret (he : XE X e we) : XS X Wx (.Return (some e) pos) (wRet we) := ps_imp (ps_ret he) fun D σ H ⟨S, H0, δ, L, DD, g, rs, hw, E⟩ =>
  ⟨S, H0, δ, L, _, g, rs, hw, fun x L1 v H1 q1 g1 t1 rv => E.rt x L1 v H1 q1 g1 rv t1⟩
theorem Sg.pre {K : PySem.W.Frag} {S : List Addr} {H0 H : Hp} {L G : LS} (g : Sg K S H0 (L ++ G) H) : Sg K S H0 L H :=
  ⟨g.fm, g.tx, fun p o h => g.ob p o (List.mem_append_left _ h), fun p o h => g.fr p o (List.mem_append_left _ h), fun i j p o o' hi hj => by
    have h1 := (List.getElem?_eq_some_iff.mp hi).1
    have h2 := (List.getElem?_eq_some_iff.mp hj).1
    exact g.nd i j p o o' (by rw [List.getElem?_append_left h1]; exact hi) (by rw [List.getElem?_append_left h2]; exact hj)⟩
/-- .. what is new and needed no more is left out -/
def wRetD (we : WE) : WS := fun D δ L => we δ L fun x L1 => ∃ L' G, L1 = L' ++ G ∧ D.rt x L'
theorem xs_retD (he : XE X e we) : XS X Wx (.Return (some e) pos) (wRetD we) := ps_imp (ps_ret he) fun D σ H ⟨S, H0, δ, L, DD, g, rs, hw, E⟩ =>
  ⟨S, H0, δ, L, _, g, rs, hw, fun x L1 v H1 q1 g1 t1 rv => by
    obtain ⟨L', G, rfl, q⟩ := q1
    exact E.rt x L' v H1 q g1.pre rv t1⟩
def wRetN : WS := fun D _ L => D.rt (.da .none) L
theorem xs_retN : XS X Wx (.Return none pos) wRetN := ps_imp ps_retN fun D σ H ⟨S, H0, δ, L, DD, g, rs, hw, E⟩ => E.rt _ L _ H hw g rfl (Tx.refl H)
def wIfS (c : WT) (t u : WS) : WS := fun D δ L => c δ L fun b L1 => if b = true then t D δ L1 else u D δ L1
theorem xs_if {c : Expr} {a b : List Stmt} {wc : WT} (hc : XT X c wc) (ha : XSs X Wx a t) (hb : XSs X Wx b u) : XS X Wx (.If c a b pos) (wIfS wc t u) := ps_imp (ps_if hc ha hb) fun D σ H ⟨S, H0, δ, L, DD, g, rs, hw, E⟩ =>
  ⟨S, H0, δ, L, _, g, rs, hw, fun b L1 H1 q1 g1 t1 => by
    cases b with
    | true => exact ⟨S, H0, δ, L1, DD, g1, rs.tx t1, q1, E.sh t1⟩
    | false => exact ⟨S, H0, δ, L1, DD, g1, rs.tx t1, q1, E.sh t1⟩⟩
def wNever : WS := fun _ _ _ => False
theorem xs_never : XS X Wx st wNever := ps_imp ps_never fun D σ H ⟨S, H0, δ, L, DD, g, rs, hw, E⟩ => hw
theorem xss_never {sts : List Stmt} : XSs X Wx sts wNever := pss_imp pss_never fun D σ H ⟨S, H0, δ, L, DD, g, rs, hw, E⟩ => hw
/-- name = e -/
def wSet (i : Nat) (we : WE) : WS := fun D δ L => we δ L fun x L1 => D.nx (δ.set i x) L1
theorem xs_set {i : Nat} {x : Str} {pos' : Pos} (hN : X.N.Nodup) (hi : X.N[i]? = some x) (hx : Loc X.env.scope x) (he : XE X e we) (hs : swapsWith e (some (.Name x pos')) pos.line X.env = pure false := by rfl) (hf : X.fn x = true ∨ X.env.scope.names.lookup x = some .local := by first | exact .inl rfl | exact .inr rfl | assumption) :
    XS X Wx (.Assign [.Name x pos'] e pos) (wSet i we) := ps_imp (ps_set hN hi hx he hs hf) fun D σ H ⟨S, H0, δ, L, DD, g, rs, hw, E⟩ =>
  ⟨S, H0, δ, L, _, g, rs, hw, fun y L1 v H1 q1 g1 t1 rv => E.nx _ L1 _ H1 q1 g1 (RpS.set rv i (rs.tx t1)) t1⟩
/-- target = e -/
def wAsg (wg : WG) (we : WE) : WS := fun D δ L => we δ L fun x L1 => wg x δ L1 fun δ' => D.nx δ' L1
theorem xs_asg {tg : Expr} {js : List Nat} {wg : WG} (he : XE X e we) (hg : XG X tg js wg) (hs : swapsWithSole [tg] e pos.line X.env = pure false := by rfl) (hw : swappedStores [tg] e X.env = pure none := by rfl)
    (h1 : (assignEach [tg] X.env).map (·.2) = [assign tg X.env] := by rfl) : XS X Wx (.Assign [tg] e pos) (wAsg wg we) := ps_imp (ps_asg he hg hs hw h1) fun D σ H ⟨S, H0, δ, L, DD, g, rs, hw, E⟩ =>
  ⟨S, H0, δ, L, _, g, rs, hw, fun y L1 v H1 q1 g1 t1 rv => ⟨S, H0, δ, L1, y, _, g1, rs.tx t1, rv, q1, fun δ' σ' q2 rs2 _ => E.nx δ' L1 σ' H1 q2 g1 rs2 t1⟩⟩
/-- a, b = x, y with plain local names -/
def wPar (i j : Nat) (wa : WA) : WS := fun D δ L => wa δ L fun xs L1 => match xs with
  | [x, y] => D.nx ((δ.set i x).set j y) L1
  | _ => False
theorem xs_par {i j : Nat} {x y : Str} {a b : Expr} {wa : WA} {px py pt : Pos} {kt k2 pt2} (hc : X.calm = true) (hN : X.N.Nodup) (hi : X.N[i]? = some x) (hj : X.N[j]? = some y) (hij : i ≠ j)
    (hx : X.env.scope.names.lookup x = some .local) (hy : X.env.scope.names.lookup y = some .local) (ha : XA X [a, b] wa)
    (hw : swappedStores [.Tuple [.Name x px, .Name y py] kt pt] (.Tuple [a, b] k2 pt2) X.env = pure (some [x, y]))
    (hs : swapsWithSole [.Tuple [.Name x px, .Name y py] kt pt] (.Tuple [a, b] k2 pt2) pos.line X.env = pure false := by rfl) :
    XS X Wx (.Assign [.Tuple [.Name x px, .Name y py] kt pt] (.Tuple [a, b] k2 pt2) pos) (wPar i j wa) := ps_imp (ps_par hc hN hi hj hij hx hy ha hw hs) fun D σ H ⟨S, H0, δ, L, DD, g, rs, hw, E⟩ =>
  ⟨S, H0, δ, L, _, g, rs, hw, fun ys L1 vs H1 q1 g1 t1 rv => by
    split at q1
    · obtain ⟨v, u, rfl, r1, r2⟩ := rv.two
      exact ⟨v, u, rfl, E.nx _ L1 _ H1 q1 g1 (RpS.set r2 j (RpS.set r1 i (rs.tx t1))) t1⟩
    · exact q1.elim⟩
/-- name op= e, of ints -/
def wAug (i : Nat) (f : Int → Int → Int) (we : WE) : WS := fun D δ L => match δ[i]? with
  | some (.da (.int a)) => we δ L fun x L1 => asI x L1 fun b L2 => D.nx (δ.set i (.da (.int (f a b)))) L2
  | _ => False
theorem xs_aug {i : Nat} {x : Str} {op : Operator} {f : Int → Int → Int} {pos' : Pos} (hN : X.N.Nodup) (hi : X.N[i]? = some x) (hx : Loc X.env.scope x) (he : XE X e we) (ho : PIp X op (ipI f)) (hf : X.fn x = true ∨ X.env.scope.names.lookup x = some .local := by first | exact .inl rfl | exact .inr rfl | assumption) :
    XS X Wx (.AugAssign (.Name x pos') op e pos) (wAug i f we) := ps_imp (ps_aug hN hi hx he ho hf) fun D σ H ⟨S, H0, δ, L, DD, g, rs, hw, E⟩ => by
  unfold wAug at hw
  split at hw
  · rename_i a e1
    obtain ⟨v, e2, rv⟩ := rs.get e1 rfl
    cases (rv : v = .int a)
    refine ⟨_, e2, S, H0, δ, L, _, g, rs, hw, fun y L1 v H1 q1 g1 t1 rv => ?_⟩
    obtain ⟨b, rfl, rfl, q⟩ := asI_of rv q1
    exact ⟨a, b, rfl, rfl, E.nx _ L1 _ H1 q g1 (RpS.set (x := .da (.int (f a b))) rfl i (rs.tx t1)) t1⟩
  · exact hw.elim
/-- o[i] = v, o a list -/
def wSetL (wo wi wv : WE) : WS := fun D δ L => wv δ L fun v L1 => wo δ L1 fun o L2 => wi δ L2 fun i L3 => match o with
  | .rf p => asI i L3 fun z L4 => ∃ (k : Nat) (xs : List SV) (j : Nat), L4[k]? = some (p, .lst xs) ∧ ixN xs.length z = some j ∧ D.nx δ (L4.set k (p, .lst (xs.set j v)))
  | _ => False
theorem xs_setL {o i : Expr} {wo wi : WE} {tpos : Pos} (ho : XE X o wo) (hi : XE X i wi) (he : XE X e we) (ha : ∀ v, assign (.Subscript o i tpos) X.env v = (do
      let ov ← holding [v] (eval o X.env)
      let iv ← holding [v, ov] (eval i X.env)
      standAt tpos
      holding [v, ov, iv] (setItem ov iv v)
      release [v, ov, iv] []) := by intro _; rfl) (hs : swapsWithSole [.Subscript o i tpos] e pos.line X.env = pure false := by rfl) (hw : swappedStores [.Subscript o i tpos] e X.env = pure none := by rfl)
    (h1 : (assignEach [.Subscript o i tpos] X.env).map (·.2) = [assign (.Subscript o i tpos) X.env] := by rfl) : XS X Wx (.Assign [.Subscript o i tpos] e pos) (wSetL wo wi we) :=
  ps_imp (ps_asg he (pg_sub ho hi set_list ha) hs hw h1) fun D σ H ⟨S, H0, δ, L, DD, g, rs, hw, E⟩ =>
    ⟨S, H0, δ, L, _, g, rs, hw, fun y L1 v H1 q1 g1 t1 rv => ⟨S, H0, δ, L1, _, g1, rs.tx t1, q1, fun z L2 u H2 q2 g2 t2 ru => ⟨S, H0, δ, L2, _, g2, rs.tx (t1.trans t2), q2, fun m L3 w H3 q3 g3 t3 rw' => by
      split at q3
      · rename_i p
        cases (ru : u = .ref p)
        obtain ⟨b, rfl, rfl, k, xs, j, hk, hj, q⟩ := asI_of rw' q3
        obtain ⟨vs, hv, r⟩ := g3.at hk
        have rv3 := rv.tx (t2.trans t3)
        obtain ⟨g4, t4⟩ := g3.put (o' := .lst (xs.set j y)) (u := .lst (vs.set j v)) hk rfl rfl rfl fun t => ⟨_, upd_same, (RpVs.set rv3 j r).tx t⟩
        exact ⟨p, vs, b, j, rfl, rfl, hv, by rw [r.length]; exact hj, E.nx _ _ _ _ q g4 (rs.tx (((t1.trans t2).trans t3).trans t4)) (((t1.trans t2).trans t3).trans t4)⟩
      · exact q3.elim⟩⟩⟩

/-! ### what a for walks -/
/-- n turns, the item at each, what must stand meanwhile -/
abbrev WI := List SV → LS → ((n : Nat) → (Nat → SV) → (LS → Prop) → LS → Prop) → Prop
/-- what an iterator of L2 gives, told in data -/
def ItD (K : PySem.W.Frag) (S : List Addr) (H0 H' : Hp) (J : It) (n : Nat) (item : Nat → SV) (G : LS → Prop) : Prop := ∃ (GH : Hp → Prop) (Y : Nat → Hp → V → Hp → Prop), Walk J n GH Y ∧
  (∀ L'' H'', Sg K S H0 L'' H'' → Tx H' H'' → G L'' → GH H'') ∧
  (∀ i H1 x H2, i < n → Y i H1 x H2 → GH H1 → Ext H1 H2 ∧ ∀ L1, Sg K S H0 L1 H1 → Tx H' H1 → G L1 → RpV K H2 (item i) x)
def canI (K : PySem.W.Frag) (W : WI) : TI := fun σ H R => ∃ (S : List Addr) (H0 : Hp) (δ : List SV) (L : LS) (Qd : (n : Nat) → (Nat → SV) → (LS → Prop) → LS → Prop), Sg K S H0 L H ∧ RpS K H δ σ ∧ W δ L Qd ∧
  ∀ n item G L' H' J, Qd n item G L' → Sg K S H0 L' H' → Tx H H' → ItD K S H0 H' J n item G → R J H'
abbrev XI (X : Cx) (tg iter : Expr) (W : WI) : Prop := PI X tg iter (canI X.K W)
theorem pi_imp {tg e : Expr} {t t' : TI} (h : PI X tg e t) (i : ∀ σ H Q, t' σ H Q → t σ H Q) : PI X tg e t' := ⟨fun pins s σ H R I hw => h.run pins s σ H R I (i σ H R hw)⟩
/-- over a tuple -/
def iTp (we : WE) : WI := fun δ L Q => we δ L fun x L1 => match x with
  | .da (.tuple ds) => Q ds.length (fun i => .da (ds.getD i .none)) (fun _ => True) L1
  | _ => False
theorem xi_tup {tg : Expr} (he : XE X e we) : XI X tg e (iTp we) := pi_imp (pi_tup he) fun σ H R ⟨S, H0, δ, L, Qd, g, rs, hw, k⟩ =>
  ⟨S, H0, δ, L, _, g, rs, hw, fun y L1 v H1 q1 g1 t1 rv => by
    split at q1
    · rename_i ds
      obtain ⟨p, xs, rfl, s, r⟩ := rv
      refine ⟨p, rfl, ⟨xs, s⟩, k _ _ _ L1 H1 _ q1 g1 t1 ⟨fun H => SqT X.K H p xs, YAt xs, by rw [← r.length]; exact walk_tup, fun L2 H2 g2 t2 _ => SqT.tx t2 s, fun i H2 x H3 hi hy hg => ?_⟩⟩
      obtain ⟨rfl, hx⟩ := hy
      refine ⟨Ext.refl _, fun L2 g2 t2 _ => ?_⟩
      obtain ⟨d, hd, rd⟩ := r.at' hx
      show Rp X.K H3 (ds.getD i .none) x
      rw [List.getD_eq_getElem?_getD, hd]
      exact Rp.tx t2 _ _ rd
    · exact q1.elim⟩
/-- over a list at place k -/
def iLs (we : WE) : WI := fun δ L Q => we δ L fun x L1 => match x with
  | .rf p => ∃ (k : Nat) (o : DO) (xs : List SV), L1[k]? = some (p, o) ∧ o.list? = some xs ∧ Q xs.length (fun i => xs.getD i .un) (fun L' => ∃ o', L'[k]? = some (p, o') ∧ o'.list? = some xs) L1
  | _ => False
theorem xi_list {tg : Expr} (he : XE X e we) : XI X tg e (iLs we) := pi_imp (pi_list he) fun σ H R ⟨S, H0, δ, L, Qd, g, rs, hw, k⟩ =>
  ⟨S, H0, δ, L, _, g, rs, hw, fun y L1 v H1 q1 g1 t1 rv => by
    split at q1
    · rename_i p
      obtain ⟨m, o, xs, hm, ho, q⟩ := q1
      cases (rv : v = .ref p)
      obtain ⟨vs, sq, r⟩ := g1.sql hm ho
      refine ⟨p, rfl, ⟨vs, sq⟩, k _ _ _ L1 H1 _ q g1 t1 ?_⟩
      refine ⟨fun H => ∃ ws, SqL X.K H p ws ∧ ws.length = xs.length, fun i H x H' => H' = H ∧ ∀ ws, SqL X.K H p ws → ws[i]? = some x, ?_, fun L2 H2 g2 t2 ⟨o', hk, hl⟩ => ?_, fun i H2 x H3 hi hy hg => ?_⟩
      · exact ⟨fun i H hi ⟨ws, hs, hl⟩ => ⟨ws, ws[i]'(by omega), hs, by simp⟩, fun H ⟨ws, hs, hl⟩ => ⟨ws, hs, by omega⟩, fun i H x H' hi hg hy => hy⟩
      · obtain ⟨ws, h1, r2⟩ := g2.sql hk hl
        exact ⟨ws, h1, r2.length⟩
      · obtain ⟨rfl, hx⟩ := hy
        refine ⟨Ext.refl _, fun L2 g2 t2 ⟨o', hk, hl⟩ => ?_⟩
        obtain ⟨ws, h1, r2⟩ := g2.sql hk hl
        obtain ⟨d, hd, rd⟩ := r2.at' (hx ws h1)
        show RpV X.K H3 (xs.getD i .un) x
        rw [List.getD_eq_getElem?_getD, hd]
        exact rd
    · exact q1.elim⟩
/-- over range(n), range(a, b) -/
def iRg1 (wa : WA) : WI := fun δ L Q => wa δ L fun xs L1 => match xs with
  | [.da (.int j)] => (-(2 ^ 62) ≤ j ∧ j < 2 ^ 62) ∧ Q j.toNat (fun i => .da (.int i)) (fun _ => True) L1
  | _ => False
def iRg2 (wa : WA) : WI := fun δ L Q => wa δ L fun xs L1 => match xs with
  | [.da (.int a), .da (.int b)] => (-(2 ^ 62) ≤ a ∧ a < 2 ^ 62 ∧ -(2 ^ 62) ≤ b ∧ b < 2 ^ 62) ∧ Q (b - a).toNat (fun i => .da (.int (a + i))) (fun _ => True) L1
  | _ => False
theorem itd_range {K : PySem.W.Frag} {S : List Addr} {H0 H' : Hp} {lo : Int} {n : Nat} : ItD K S H0 H' (Itr lo n) n (fun i => .da (.int (lo + i))) (fun _ => True) :=
  ⟨fun _ => True, YFn fun i => .int (lo + i), walk_range, fun _ _ _ _ _ => trivial, fun i H2 x H3 hi hy hg => by
    obtain ⟨rfl, rfl⟩ := hy
    exact ⟨Ext.refl _, fun _ _ _ _ => rfl⟩⟩
theorem xi_range1 {tg a : Expr} {wa : WA} {p : Pos} (hg : Gl X "range") (hm : X.mg "range" = none) (ha : XA X [a] wa) (hs : starEach [a] X.env = [(false, eval a X.env)] := by rfl) : XI X tg (.Call (.Name "range" p) [a] [] pos) (iRg1 wa) :=
  pi_imp (pi_range1 hg hm ha hs) fun σ H R ⟨S, H0, δ, L, Qd, g, rs, hw, k⟩ => ⟨S, H0, δ, L, _, g, rs, hw, fun xs L1 vs H1 q1 g1 t1 rv => by
    split at q1
    · rename_i j
      obtain ⟨v, rfl, r⟩ := rv.one
      cases (r : v = .int j)
      refine ⟨j, rfl, q1.1.1, q1.1.2, k _ _ _ L1 H1 _ q1.2 g1 t1 ?_⟩
      have := itd_range (K := X.K) (S := S) (H0 := H0) (H' := H1) (lo := 0) (n := j.toNat)
      simp only [Int.zero_add] at this
      exact this
    · exact q1.elim⟩
theorem xi_range2 {tg a b : Expr} {wa : WA} {p : Pos} (hg : Gl X "range") (hm : X.mg "range" = none) (ha : XA X [a, b] wa) (hs : starEach [a, b] X.env = [(false, eval a X.env), (false, eval b X.env)] := by rfl) (hs2 : starEach [b] X.env = [(false, eval b X.env)] := by rfl) :
    XI X tg (.Call (.Name "range" p) [a, b] [] pos) (iRg2 wa) :=
  pi_imp (pi_range2 hg hm ha hs hs2) fun σ H R ⟨S, H0, δ, L, Qd, g, rs, hw, k⟩ => ⟨S, H0, δ, L, _, g, rs, hw, fun xs L1 vs H1 q1 g1 t1 rv => by
    split at q1
    · rename_i i j
      obtain ⟨v, u, rfl, r1, r2⟩ := rv.two
      cases (r1 : v = .int i)
      cases (r2 : u = .int j)
      exact ⟨i, j, rfl, q1.1, k _ _ _ L1 H1 _ q1.2 g1 t1 itd_range⟩
    · exact q1.elim⟩
/-- for target in iter: body; the turns by an invariant -/
def ForB (wg : WG) (wb : WS) (D : DE) (δ : List SV) (n : Nat) (item : Nat → SV) (G : LS → Prop) (L1 : LS) : Prop := ∃ Pv : Nat → List SV → LS → Prop, Pv 0 δ L1 ∧ (∀ i δ' L', i ≤ n → Pv i δ' L' → G L') ∧
  (∀ i δ' L', i < n → Pv i δ' L' → wg (item i) δ' L' fun δ2 => wb { D with nx := Pv (i + 1), ct := Pv (i + 1), bk := D.nx } δ2 L') ∧ ∀ δ' L', Pv n δ' L' → D.nx δ' L'
def wFor (wi : WI) (wg : WG) (wb : WS) : WS := fun D δ L => wi δ L fun n item G L1 => ForB wg wb D δ n item G L1
theorem xs_for {tg iter : Expr} {body : List Stmt} {wi : WI} {js : List Nat} {wg : WG} {wb : WS} (hp : PassesOwn (model X.prog X.w) X.A X.env X.xe) (hc : X.calm = true) (hi : XI X tg iter wi) (hg : XG X tg js wg) (hb : XSs X Wx body wb)
    (hs : ∀ x, foldedSetIterable iter X.env x = pure x := by intro _; rfl) : XS X Wx (.For tg iter body [] pos) (wFor wi wg wb) :=
  ps_imp (ps_for hp hc hi hg hb hs) fun D σ H ⟨S, H0, δ, L, DD, g, rs, hw, E⟩ => ⟨S, H0, δ, L, _, g, rs, hw, fun n item G L1 H1 J q1 g1 t1 it => by
    obtain ⟨Pv, h0, hG, hst, hd⟩ := q1
    obtain ⟨GH, Y, wk, hgh, hy⟩ := it
    refine for_it wk (fun i σ' H' => ∃ δ' L', Sg X.K S H0 L' H' ∧ RpS X.K H' δ' σ' ∧ Pv i δ' L' ∧ Tx H1 H') ⟨δ, L1, g1, rs.tx t1, h0, Tx.refl H1⟩ (fun i σ' H' hi ⟨δ', L', g', r', p', t'⟩ => hgh L' H' g' t' (hG i δ' L' hi p')) (fun i x σ' H' H2 hi ⟨δ', L', g', r', p', t'⟩ hY => ?_) (fun σ' H' ⟨δ', L', g', r', p', t'⟩ => E.nx δ' L' σ' H' (hd δ' L' p') g' r' (t1.trans t'))
    have gl := hG i δ' L' (Nat.le_of_lt hi) p'
    obtain ⟨ex, rv⟩ := hy i H' x H2 hi hY (hgh L' H' g' t' gl)
    have rx := rv L' g' t' gl
    have g2 := g'.ext ex
    have t2 := t'.trans ex.tx
    refine ⟨S, H0, δ', L', item i, _, g2, r'.tx ex.tx, rx, hst i δ' L' hi p', fun δ3 σ3 q3 r3 _ => ?_⟩
    have tt := t1.trans t2
    exact ⟨S, H0, δ3, L', { DD with nx := fun δ' L' => Pv (i + 1) δ' L', ct := fun δ' L' => Pv (i + 1) δ' L', bk := DD.nx }, g2, r3, q3,
      ⟨fun δ L σ H a b c d => ⟨δ, L, b, c, a, t2.trans d⟩, fun x L v H a b c d => E.rt x L v H a b c (tt.trans d), fun δ L σ H a b c d => E.nx δ L σ H a b c (tt.trans d), fun δ L σ H a b c d => ⟨δ, L, b, c, a, t2.trans d⟩,
        fun cls fs δ L d σ H a b c e f => E.ex cls fs δ L d σ H a b c e (tt.trans f)⟩⟩⟩

end
end Pd
namespace Pd
open PySem PySem.Spec PyProof.Rows L2

section
variable {X : Cx} {Wx : WX} {pos : Pos}
/-! ### while -/
def wWhile (c : WT) (wb : WS) : WS := fun D δ L => ∃ W : Nat → List SV → LS → Prop, (∃ m, W m δ L) ∧ ∀ m δ' L', W m δ' L' → c δ' L' fun b L1 =>
  if b = true then wb { D with nx := fun δ2 L2 => ∃ m', m' < m ∧ W m' δ2 L2, ct := fun δ2 L2 => ∃ m', m' < m ∧ W m' δ2 L2, bk := D.nx } δ' L1 else D.nx δ' L1
theorem xs_while {c : Expr} {body : List Stmt} {wc : WT} {wb : WS} (hp : PassesOwn (model X.prog X.w) X.A X.env X.xe) (hc : XT X c wc) (hb : XSs X Wx body wb) : XS X Wx (.While c body [] pos) (wWhile wc wb) :=
  ps_imp (ps_while hp hc hb) fun D σ H ⟨S, H0, δ, L, DD, g, rs, ⟨W, ⟨m0, w0⟩, hw⟩, E⟩ => by
    refine ⟨fun m σ' H' => ∃ δ' L', Sg X.K S H0 L' H' ∧ RpS X.K H' δ' σ' ∧ W m δ' L' ∧ Tx H H', ⟨m0, δ, L, g, rs, w0, Tx.refl H⟩, fun m σ' H' ⟨δ', L', g', r', w', t'⟩ => ?_⟩
    refine ⟨S, H0, δ', L', _, g', r', hw m δ' L' w', fun b L1 H1 q1 g1 t1 => ?_⟩
    have tt := t'.trans t1
    cases b with
    | false => exact E.nx δ' L1 σ' H1 q1 g1 (r'.tx t1) tt
    | true =>
      refine ⟨_, fun _ _ h => h, S, H0, δ', L1, { DD with nx := fun δ2 L2 => ∃ m', m' < m ∧ W m' δ2 L2, ct := fun δ2 L2 => ∃ m', m' < m ∧ W m' δ2 L2, bk := DD.nx }, g1, r'.tx t1, q1, ?_⟩
      exact ⟨fun δ L σ H ⟨m', hm, a⟩ b c d => ⟨m', hm, δ, L, b, c, a, tt.trans d⟩, fun x L v H a b c d => E.rt x L v H a b c (tt.trans d), fun δ L σ H a b c d => E.nx δ L σ H a b c (tt.trans d), fun δ L σ H ⟨m', hm, a⟩ b c d => ⟨m', hm, δ, L, b, c, a, tt.trans d⟩,
        fun cls fs δ L d σ H a b c e f => E.ex cls fs δ L d σ H a b c e (tt.trans f)⟩

/-! ### list comprehensions -/
/-- the comprehension's own names forgotten, in L2's order -/
def wipeE (δ : List SV) : List Nat → List SV
  | [] => δ
  | v :: vs => (wipeE δ vs).set v .un
theorem RpS.wipe {K : PySem.W.Frag} {H : Hp} {δ : List SV} {σ : L2.St} (r : RpS K H δ σ) : ∀ vs : List Nat, RpS K H (wipeE δ vs) (L2.wipe σ vs)
  | [] => r
  | v :: vs => by
    unfold wipeE L2.wipe
    exact (r.wipe vs).unset v
theorem wipe_sub {σ : L2.St} {ws : List Nat} : ∀ {vs : List Nat}, (∀ v ∈ vs, v ∈ ws) → L2.wipe (L2.wipe σ vs) ws = L2.wipe σ ws
  | [], _ => rfl
  | v :: vs, h => by
    show L2.wipe ((L2.wipe σ vs).set v none) ws = _
    rw [wipe_set (h v List.mem_cons_self), wipe_sub fun x hx => h x (List.mem_cons_of_mem _ hx)]
abbrev XTs (X : Cx) (ifs : List Expr) (W : WT) : Prop := PTs X ifs (canT X.K W)
theorem pts_imp {e : List Expr} {t t' : TT} (h : PTs X e t) (i : ∀ σ H Q, t' σ H Q → t σ H Q) : PTs X e t' := ⟨fun pins s σ H Q I hw => h.run pins s σ H Q I (i σ H Q hw)⟩
def wYes : WT := fun _ L Q => Q true L
theorem xts_nil : XTs X [] wYes := pts_imp pts_nil fun σ H Q ⟨S, H0, δ, L, Qd, g, rs, hw, k⟩ => k true L H hw g (Tx.refl H)
theorem xts_one {c : Expr} {t : WT} (h : XT X c t) : XTs X [c] t := pts_one h
/-- the turns: item by item, the new list at Da within the state -/
structure LcB (wg : WG) (wt : WT) (we : WE) (own : List Nat) (δ : List SV) (Q : SV → LS → Prop) (n : Nat) (item : Nat → SV) (G : LS → Prop) (L1 : LS) : Prop where of ::
  go : ∀ Da, ∃ Pv : Nat → LS → Prop, Pv 0 (L1 ++ [(Da, .lst [])]) ∧ (∀ i L', i ≤ n → Pv i L' → G L') ∧
  (∀ i L', i < n → Pv i L' → wg (item i) (wipeE δ own) L' fun δ2 => wt δ2 L' fun b L3 => if b = true then we δ2 L3 fun y L4 => ∃ (k : Nat) (acc : List SV), L4[k]? = some (Da, .lst acc) ∧ acc.length < sizeLine ∧ Pv (i + 1) (L4.set k (Da, .lst (acc ++ [y]))) else Pv (i + 1) L3) ∧
  ∀ L', Pv n L' → Q (.rf Da) L'
def wLc (wi : WI) (wg : WG) (wt : WT) (we : WE) (own : List Nat) : WE := fun δ L Q => wi δ L fun n item G L1 => LcB wg wt we own δ Q n item G L1
theorem lc_core' {K : PySem.W.Frag} {wi : WI} {js : List Nat} {wg : WG} {wt : WT} {we : WE} {own : List Nat} (hj : ∀ j ∈ js, j ∈ own) (σ : L2.St) (H : Hp) (Q : VK) (h : canE K (wLc wi wg wt we own) σ H Q) :
    tLc (canI K wi) (canG K js wg) (canT K wt) (canE K we) own σ H Q := by
  obtain ⟨S, H0, δ, L, Qd, g, rs, hw, k⟩ := h
  refine ⟨S, H0, δ, L, _, g, rs, hw, fun n item G L1 H1 J q1 g1 t1 it Da hD => ?_⟩
  obtain ⟨Pv, h0, hG, hst, hd⟩ := q1.go Da
  obtain ⟨GH, Y, wk, hgh, hy⟩ := it
  have tD : Tx H1 (upd H1 Da (.lst [])) := (Ext.new hD).tx
  refine lc_it wk (fun i H' => ∃ L', Sg K S H0 L' H' ∧ Pv i L' ∧ Tx H1 H') ⟨_, sg_lst (xs := []) (vs := []) g1 hD rfl, h0, tD⟩ (fun i H' hi ⟨L', g', p', t'⟩ => hgh L' H' g' t' (hG i L' hi p')) (fun i x H' H2 hi ⟨L', g', p', t'⟩ hY => ?_) (fun H' ⟨L', g', p', t'⟩ => k _ L' _ H' (hd L' p') g' (t1.trans t') rfl)
  have gl := hG i L' (Nat.le_of_lt hi) p'
  obtain ⟨ex, rv⟩ := hy i H' x H2 hi hY (hgh L' H' g' t' gl)
  have rx := rv L' g' t' gl
  have g2 := g'.ext ex
  have t2 := t'.trans ex.tx
  refine ⟨S, H0, _, L', item i, _, g2, (rs.tx (t1.trans t2)).wipe own, rx, hst i L' hi p', fun δ3 σ3 q3 r3 w3 => ⟨?_, ?_⟩⟩
  · rw [w3 own hj, wipe_sub fun v h => h]
  · refine ⟨S, H0, δ3, L', _, g2, r3, q3, fun b L3 H3 q4 g4 t4 => ?_⟩
    cases b with
    | false => exact ⟨L3, g4, q4, t2.trans t4⟩
    | true =>
      refine ⟨S, H0, δ3, L3, _, g4, r3.tx t4, q4, fun y L5 v H5 q5 g5 t5 rv5 => ?_⟩
      obtain ⟨m, acc, hm, hl, p5⟩ := q5
      obtain ⟨vs, hv, r⟩ := g5.at hm
      obtain ⟨g6, t6⟩ := g5.put (o' := .lst (acc ++ [y])) (u := .lst (vs ++ [v])) hm rfl rfl rfl fun t => ⟨_, upd_same, (RpVs.append r (ys := [y]) (ws := [v]) ⟨v, [], rfl, rv5, rfl⟩).tx t⟩
      exact ⟨vs, hv, by rw [r.length]; exact hl, _, g6, p5, ((t2.trans t4).trans t5).trans t6⟩
variable {elt tg iter : Expr} {ifs : List Expr} {scope : Scope} {own : List (Str × Nat)} {wi : WI} {js : List Nat} {wg : WG} {wt : WT} {we : WE}
theorem xe_lc (hc : X.calm = true) (hN : X.N.Nodup) (hi : XI X tg iter wi) (ok : BlkOk X.N X.env.scope scope own) (hj : ∀ j ∈ js, j ∈ own.map (·.2))
    (hg : ∀ (s : Shared) (H : Hp) (C : Addr) (cl : List (Str × Addr)) (fp : List Addr), PG (X.blk s H scope (compEnvC scope cl C X.env) fp) tg (canG X.K js wg)) (ht : ∀ (s : Shared) (H : Hp) (C : Addr) (cl : List (Str × Addr)) (fp : List Addr), PTs (X.blk s H scope (compEnvC scope cl C X.env) fp) ifs (canT X.K wt))
    (he : ∀ (s : Shared) (H : Hp) (C : Addr) (cl : List (Str × Addr)) (fp : List Addr), PE (X.blk s H scope (compEnvC scope cl C X.env) fp) elt (canE X.K we)) (hs : ∀ x, foldedSetIterable iter X.env x = pure x := by intro _; rfl) :
    XE X (.ListComp elt [⟨tg, iter, ifs, 0⟩] scope pos) (wLc wi wg wt we (own.map (·.2))) := pe_imp (pe_lc hc hN hi ok hg ht he hs) (lc_core' hj)
theorem xs_setLc {i : Nat} {y : Str} {py spos : Pos} (hc : X.calm = true) (hN : X.N.Nodup) (hy : X.N[i]? = some y) (hyl : X.env.scope.names.lookup y = some .local)
    (hsw : swapsWith (.ListComp elt [⟨tg, iter, ifs, 0⟩] scope pos) (some (.Name y py)) spos.line X.env = pure true) (hi : XI X tg iter wi) (ok : BlkOk X.N X.env.scope scope own) (hj : ∀ j ∈ js, j ∈ own.map (·.2))
    (hg : ∀ (s : Shared) (H : Hp) (C : Addr) (cl : List (Str × Addr)) (fp : List Addr), PG (X.blk s H scope (compEnvC scope cl C X.env) fp) tg (canG X.K js wg)) (ht : ∀ (s : Shared) (H : Hp) (C : Addr) (cl : List (Str × Addr)) (fp : List Addr), PTs (X.blk s H scope (compEnvC scope cl C X.env) fp) ifs (canT X.K wt))
    (he : ∀ (s : Shared) (H : Hp) (C : Addr) (cl : List (Str × Addr)) (fp : List Addr), PE (X.blk s H scope (compEnvC scope cl C X.env) fp) elt (canE X.K we)) (hs : ∀ x, foldedSetIterable iter X.env x = pure x := by intro _; rfl) :
    XS X Wx (.Assign [.Name y py] (.ListComp elt [⟨tg, iter, ifs, 0⟩] scope pos) spos) (wSet i (wLc wi wg wt we (own.map (·.2)))) :=
  ps_imp (ps_setLc hc hN hy hyl hsw hi ok hg ht he hs) fun D σ H ⟨S, H0, δ, L, DD, g, rs, hw, E⟩ => by
    refine lc_core' hj σ H _ ⟨S, H0, δ, L, _, g, rs, hw, fun x L1 v H1 q1 g1 t1 rv => ?_⟩
    exact E.nx _ L1 _ H1 q1 g1 (RpS.set rv i (rs.tx t1)) t1
/-- every element told, nothing else done -/
theorem lc_map {n : Nat} {item : Nat → SV} {G : LS → Prop} {L1 : LS} {δ : List SV} {own : List Nat} {Q : SV → LS → Prop} (f : Nat → SV) (hn : n ≤ 10000000) (hG : ∀ (Da : Addr) (acc : List SV), G (L1 ++ [(Da, .lst acc)]))
    (h : ∀ i, i < n → ∀ L' (Q' : SV → LS → Prop), Q' (f i) L' → wg (item i) (wipeE δ own) L' fun δ2 => we δ2 L' Q') (hQ : ∀ Da, Q (.rf Da) (L1 ++ [(Da, .lst ((List.range n).map f))])) :
    LcB wg wYes we own δ Q n item G L1 := by
  refine .of fun Da => ?_
  refine ⟨fun i L' => L' = L1 ++ [(Da, .lst ((List.range i).map f))], rfl, fun i L' _ e => by rw [e]; exact hG _ _, fun i L' hi e => ?_, fun L' e => by rw [e]; exact hQ Da⟩
  have := h i hi L' (fun y L4 => ∃ (k : Nat) (acc : List SV), L4[k]? = some (Da, .lst acc) ∧ acc.length < sizeLine ∧ L4.set k (Da, .lst (acc ++ [y])) = L1 ++ [(Da, .lst ((List.range (i + 1)).map f))]) ?_
  · exact this
  · subst e
    refine ⟨L1.length, (List.range i).map f, List.getElem?_concat_length, ?_, ?_⟩
    · rw [List.length_map, List.length_range]
      exact Nat.lt_of_lt_of_le (Nat.lt_of_lt_of_le hi hn) (by decide)
    · rw [List.set_append_right _ _ (Nat.le_refl _), Nat.sub_self, List.range_succ, List.map_append]
      rfl

/-! ### methods of lists -/
variable {o e : Expr} {wo : WE} {apos : Pos}
def wApp (wo we : WE) : WE := fun δ L Q => wo δ L fun x L1 => match x with
  | .rf p => ∃ (k : Nat) (xs0 : List SV), L1[k]? = some (p, .lst xs0) ∧ we δ L1 fun y L2 => ∃ xs, L2[k]? = some (p, .lst xs) ∧ xs.length < sizeLine ∧ Q (.da .none) (L2.set k (p, .lst (xs ++ [y])))
  | _ => False
theorem xe_append (ho : XE X o wo) (he : XE X e we) (hbase : attributeBase o "append" X.env (eval o X.env) = eval o X.env := by rfl)
    (hfew : ((backTo pos (starEach [e] X.env)).all (fun x => !x.1) && (backToKw pos (keywordEach [] X.env)).all (fun x => x.1.isSome)
      && decide (([e] : List Expr).length + ([] : List Keyword).length + (if ([] : List Keyword).isEmpty then 0 else 1) < 30)) = true := by rfl)
    (hline : (apos.endLine == pos.line) = true := by rfl) (hs : starEach [e] X.env = (false, eval e X.env) :: starEach [] X.env := by rfl) : XE X (.Call (.Attribute o "append" apos) [e] [] pos) (wApp wo we) :=
  pe_imp (pe_bm PySem.F.plainAttrs_list PySem.F.slot_list_append PySem.F.type_list_append mt_append ho (pa_cons he pa_nil hs) hbase hfew hline hs) fun σ H Q ⟨S, H0, δ, L, Qd, g, rs, hw, k⟩ => ⟨S, H0, δ, L, _, g, rs, hw, fun x L1 v H1 q1 g1 t1 rv => by
    split at q1
    · rename_i p
      obtain ⟨m, xs0, hm, q⟩ := q1
      cases (rv : v = .ref p)
      obtain ⟨vs0, hv0, _⟩ := g1.at hm
      refine ⟨.inl ⟨rfl, _, .inl (.inl hv0)⟩, S, H0, δ, L1, _, g1, rs.tx t1, q, fun y L2 u H2 q2 g2 t2 ru => ?_⟩
      obtain ⟨xs, hx, hl, q3⟩ := q2
      obtain ⟨vs, hv, r⟩ := g2.at hx
      obtain ⟨g3, t3⟩ := g2.put (o' := .lst (xs ++ [y])) (u := .lst (vs ++ [u])) hx rfl rfl rfl fun t => ⟨_, upd_same, (RpVs.append r (ys := [y]) (ws := [u]) ⟨u, [], rfl, ru, rfl⟩).tx t⟩
      exact ⟨p, vs, u, rfl, rfl, hv, by rw [r.length]; exact hl, k _ _ _ _ q3 g3 ((t1.trans t2).trans t3) rfl⟩
    · exact q1.elim⟩
def wPop (wo : WE) : WE := fun δ L Q => wo δ L fun x L1 => match x with
  | .rf p => ∃ (k : Nat) (xs : List SV) (y : SV), L1[k]? = some (p, .lst (xs ++ [y])) ∧ Q y (L1.set k (p, .lst xs))
  | _ => False
theorem xe_pop (ho : XE X o wo) (hbase : attributeBase o "pop" X.env (eval o X.env) = eval o X.env := by rfl) (hline : (apos.endLine == pos.line) = true := by rfl) : XE X (.Call (.Attribute o "pop" apos) [] [] pos) (wPop wo) :=
  pe_imp (pe_bm0 PySem.F.plainAttrs_list PySem.F.slot_list_pop PySem.F.type_list_pop mt_pop ho hbase hline) fun σ H Q ⟨S, H0, δ, L, Qd, g, rs, hw, k⟩ => ⟨S, H0, δ, L, _, g, rs, hw, fun x L1 v H1 q1 g1 t1 rv => by
    split at q1
    · rename_i p
      obtain ⟨m, xs, y, hm, q⟩ := q1
      cases (rv : v = .ref p)
      obtain ⟨vs, hv, r⟩ := g1.at hm
      refine ⟨.inl ⟨rfl, _, .inl (.inl hv)⟩, ?_⟩
      have hlen := r.length
      rw [List.length_append, List.length_singleton] at hlen
      obtain ⟨w, hw, rw'⟩ := r.at (i := xs.length) (x := y) (by simp)
      obtain ⟨g2, t2⟩ := g1.put (o' := .lst xs) (u := .lst vs.dropLast) hm rfl rfl rfl fun t => ⟨_, upd_same, by have := r.dropLast; rw [List.dropLast_concat] at this; exact this.tx t⟩
      exact ⟨p, vs, w, rfl, rfl, hv, by rw [hlen, Nat.add_sub_cancel]; exact hw, k _ _ _ _ q g2 (t1.trans t2) (rw'.tx t2)⟩
    · exact q1.elim⟩
def wRev (wo : WE) : WE := fun δ L Q => wo δ L fun x L1 => match x with
  | .rf p => ∃ (k : Nat) (xs : List SV), L1[k]? = some (p, .lst xs) ∧ Q (.da .none) (L1.set k (p, .lst xs.reverse))
  | _ => False
theorem xe_reverse (ho : XE X o wo) (hbase : attributeBase o "reverse" X.env (eval o X.env) = eval o X.env := by rfl) (hline : (apos.endLine == pos.line) = true := by rfl) : XE X (.Call (.Attribute o "reverse" apos) [] [] pos) (wRev wo) :=
  pe_imp (pe_bm0 PySem.F.plainAttrs_list PySem.F.slot_list_reverse PySem.F.type_list_reverse mt_reverse ho hbase hline) fun σ H Q ⟨S, H0, δ, L, Qd, g, rs, hw, k⟩ => ⟨S, H0, δ, L, _, g, rs, hw, fun x L1 v H1 q1 g1 t1 rv => by
    split at q1
    · rename_i p
      obtain ⟨m, xs, hm, q⟩ := q1
      cases (rv : v = .ref p)
      obtain ⟨vs, hv, r⟩ := g1.at hm
      obtain ⟨g2, t2⟩ := g1.put (o' := .lst xs.reverse) (u := .lst vs.reverse) hm rfl rfl rfl fun t => ⟨_, upd_same, r.reverse.tx t⟩
      exact ⟨.inl ⟨rfl, _, .inl (.inl hv)⟩, p, vs, rfl, rfl, hv, k _ _ _ _ q g2 (t1.trans t2) rfl⟩
    · exact q1.elim⟩

/-! ### dicts whose keys are ints and texts -/
def keyD : PyData → Option Key
  | .int i => some (.inl i)
  | .str s => some (.inr s)
  | _ => none
theorem keyD_of {K : PySem.W.Frag} {H : Hp} {d : PyData} {k : Key} {v : V} (h : keyD d = some k) (r : Rp K H d v) : v = kV k := by
  cases d with
  | int i =>
    cases (Option.some.inj h : Sum.inl i = k)
    exact r
  | str i =>
    cases (Option.some.inj h : Sum.inr i = k)
    exact r
  | _ => cases h
theorem RpKs.at {κ : Type} {K : PySem.W.Frag} {H : Hp} : ∀ {xs : List (κ × SV)} {vs : List (κ × V)}, RpKs K H xs vs → ∀ {i : Nat} {k : κ} {x : SV}, xs[i]? = some (k, x) → ∃ v, vs[i]? = some (k, v) ∧ RpV K H x v
  | [], _, h, i, k, d, e => by simp at e
  | y :: xs, _, h, i, k, x, e => by
    obtain ⟨v, vs, rfl, r, rs⟩ := h
    cases i with
    | zero =>
      have e : y = (k, x) := Option.some.inj e
      subst e
      exact ⟨v, rfl, r⟩
    | succ i => exact RpKs.at rs (i := i) e
theorem RpKs.keys {κ : Type} {K : PySem.W.Frag} {H : Hp} : ∀ {xs : List (κ × SV)} {vs : List (κ × V)}, RpKs K H xs vs → vs.map (·.1) = xs.map (·.1)
  | [], _, h => by
    have h : _ = [] := h
    subst h
    rfl
  | y :: xs, _, h => by
    obtain ⟨v, vs, rfl, r, rs⟩ := h
    rw [List.map_cons, List.map_cons, RpKs.keys rs]
theorem RpKs.length {κ : Type} {K : PySem.W.Frag} {H : Hp} {xs : List (κ × SV)} {vs : List (κ × V)} (h : RpKs K H xs vs) : vs.length = xs.length := by
  have := congrArg List.length h.keys
  rw [List.length_map, List.length_map] at this
  exact this
theorem RpKs.set {κ : Type} {K : PySem.W.Frag} {H : Hp} {x : SV} {v : V} {k : κ} (r : RpV K H x v) : ∀ {xs : List (κ × SV)} {vs : List (κ × V)} (i : Nat), RpKs K H xs vs → RpKs K H (xs.set i (k, x)) (vs.set i (k, v))
  | [], _, _, h => by
    have h : _ = [] := h
    subst h
    rfl
  | y :: xs, _, 0, h => by
    obtain ⟨w, vs, rfl, q, rs⟩ := h
    exact ⟨v, vs, rfl, r, rs⟩
  | y :: xs, _, i + 1, h => by
    obtain ⟨w, vs, rfl, q, rs⟩ := h
    exact ⟨w, _, rfl, q, RpKs.set r i rs⟩
theorem RpKs.snoc {κ : Type} {K : PySem.W.Frag} {H : Hp} {x : SV} {v : V} {k : κ} (r : RpV K H x v) : ∀ {xs : List (κ × SV)} {vs : List (κ × V)}, RpKs K H xs vs → RpKs K H (xs ++ [(k, x)]) (vs ++ [(k, v)])
  | [], _, h => by
    have h : _ = [] := h
    subst h
    exact ⟨v, [], rfl, r, rfl⟩
  | y :: xs, _, h => by
    obtain ⟨w, vs, rfl, q, rs⟩ := h
    exact ⟨w, _, rfl, q, RpKs.snoc r rs⟩
theorem valV_at : ∀ {vs : List (Key × V)} {j : Nat} {k : Key} {v : V}, vs[j]? = some (k, v) → (vs.map (·.1)).Nodup → valV vs k = some v
  | [], j, k, v, h, _ => by simp at h
  | p :: vs, 0, k, v, h, _ => by
    have e : p = (k, v) := Option.some.inj h
    subst e
    exact valV_pos rfl
  | p :: vs, j + 1, k, v, h, n => by
    have h : vs[j]? = some (k, v) := h
    rw [List.map_cons, List.nodup_cons] at n
    have ne : ¬ p.1 = k := fun z => n.1 (by
      rw [z]
      exact List.mem_map.mpr ⟨(k, v), List.mem_of_getElem? h, rfl⟩)
    rw [valV_neg ne]
    exact valV_at h n.2
theorem putK_at : ∀ {vs : List (Key × V)} {j : Nat} {k : Key} {v u : V}, vs[j]? = some (k, v) → (vs.map (·.1)).Nodup → putK vs k u = vs.set j (k, u) := fun {vs j k v u} h n => by
  have ha : (vs.any fun kv => decide (kv.1 = k)) = true := List.any_eq_true.mpr ⟨(k, v), List.mem_of_getElem? h, by simp⟩
  unfold putK
  rw [if_pos ha]
  clear ha
  induction vs generalizing j with
  | nil => simp at h
  | cons p vs ih =>
    rw [List.map_cons, List.nodup_cons] at n
    cases j with
    | zero =>
      have e : p = (k, v) := Option.some.inj h
      subst e
      rw [List.map_cons, if_pos rfl, List.set_cons_zero]
      congr 1
      have : ∀ q ∈ vs, (if q.1 = k then (q.1, u) else q) = q := fun q hq => if_neg fun z => n.1 (by
        show k ∈ _
        rw [← z]
        exact List.mem_map.mpr ⟨q, hq, rfl⟩)
      exact (List.map_congr_left this).trans (List.map_id _)
    | succ j =>
      have h : vs[j]? = some (k, v) := h
      have ne : ¬ p.1 = k := fun z => n.1 (by
        rw [z]
        exact List.mem_map.mpr ⟨(k, v), List.mem_of_getElem? h, rfl⟩)
      rw [List.map_cons, if_neg ne, List.set_cons_succ, ih h n.2]
theorem putK_new {vs : List (Key × V)} {k : Key} {u : V} (h : k ∉ vs.map (·.1)) : putK vs k u = vs ++ [(k, u)] := by
  unfold putK
  rw [if_neg fun z => ?_]
  obtain ⟨q, hq, e⟩ := List.any_eq_true.mp z
  exact h (List.mem_map.mpr ⟨q, hq, of_decide_eq_true e⟩)
/-- d[k], k at place j -/
def wDget (wd wk : WE) : WE := fun δ L Q => wd δ L fun x L1 => wk δ L1 fun y L2 => match x, y with
  | .rf p, .da d => ∃ (i j : Nat) (kvs : List (Key × SV)) (k : Key) (z : SV), L2[i]? = some (p, .dic kvs) ∧ keyD d = some k ∧ kvs[j]? = some (k, z) ∧ (kvs.map (·.1)).Nodup ∧ Q z L2
  | _, _ => False
variable {i : Expr} {wd wk wv : WE}
theorem xe_dget (hu : X.A.units + 1 < cLine) (ho : XE X o wd) (hi : XE X i wk) (hs : NoSl i) : XE X (.Subscript o i pos) (wDget wd wk) := pe_imp (pe_dget hu ho hi hs) fun σ H Q ⟨S, H0, δ, L, Qd, g, rs, hw, k⟩ =>
  ⟨S, H0, δ, L, _, g, rs, hw, fun x L1 v H1 q1 g1 t1 rv => ⟨S, H0, δ, L1, _, g1, rs.tx t1, q1, fun y L2 u H2 q2 g2 t2 ru => by
    split at q2
    · rename_i p d
      obtain ⟨a, j, kvs, key, z, ha, hk, hj, hn, q⟩ := q2
      cases (rv : v = .ref p)
      cases keyD_of hk ru
      obtain ⟨ws, hw2, r⟩ := g2.at ha
      obtain ⟨w, hwj, rz⟩ := r.at hj
      refine ⟨p, w, rfl, ?_, k z L2 w H2 q g2 (t1.trans t2) rz⟩
      rw [← valV_at hwj (by rw [r.keys]; exact hn)]
      exact DGet.k hw2
    · exact q2.elim⟩⟩
/-- d[k] = v: at its place j, or new -/
def wDput (wd wk wv : WE) : WS := fun D δ L => wv δ L fun v L1 => wd δ L1 fun x L2 => wk δ L2 fun y L3 => match x, y with
  | .rf p, .da d => ∃ (i : Nat) (kvs : List (Key × SV)) (k : Key), L3[i]? = some (p, .dic kvs) ∧ keyD d = some k ∧ kvs.length < sizeLine ∧
      ((∃ (j : Nat) (z : SV), kvs[j]? = some (k, z) ∧ (kvs.map (·.1)).Nodup ∧ D.nx δ (L3.set i (p, .dic (kvs.set j (k, v))))) ∨ (k ∉ kvs.map (·.1) ∧ D.nx δ (L3.set i (p, .dic (kvs ++ [(k, v)])))))
  | _, _ => False
theorem xs_dput {value : Expr} {pos' : Pos} (hu : X.A.units + 1 < cLine) (ho : XE X o wd) (hi : XE X i wk) (hv : XE X value wv) (hs : swapsWith value (some (.Subscript o i pos')) pos.line X.env = pure false := by rfl) :
    XS X Wx (.Assign [.Subscript o i pos'] value pos) (wDput wd wk wv) := ps_imp (ps_dput hu ho hi hv hs) fun D σ H ⟨S, H0, δ, L, DD, g, rs, hw, E⟩ =>
  ⟨S, H0, δ, L, _, g, rs, hw, fun z L1 w H1 q1 g1 t1 rw' => ⟨S, H0, δ, L1, _, g1, rs.tx t1, q1, fun x L2 v H2 q2 g2 t2 rv => ⟨S, H0, δ, L2, _, g2, rs.tx (t1.trans t2), q2, fun y L3 u H3 q3 g3 t3 ru => by
    split at q3
    · rename_i p d
      obtain ⟨a, kvs, key, ha, hk, hl, q⟩ := q3
      cases (rv : v = .ref p)
      cases keyD_of hk ru
      obtain ⟨ws, hw2, r⟩ := g3.at ha
      have rw3 := rw'.tx (t2.trans t3)
      rcases q with ⟨j, z0, hj, hn, q⟩ | ⟨hn, q⟩
      · obtain ⟨w0, hwj, rz⟩ := r.at hj
        obtain ⟨g4, t4⟩ := g3.put (o' := .dic (kvs.set j (key, z))) (u := .dK (ws.set j (key, w))) ha rfl rfl rfl fun t => ⟨_, upd_same, RpKs.tx t (RpKs.set rw3 j r)⟩
        have e := putK_at (u := w) hwj (by rw [r.keys]; exact hn)
        have P := DPut.k (H := H3) (a := p) (kvs := ws) (k := key) (v := w) hw2 (by rw [r.length]; exact hl)
        rw [e] at P
        exact ⟨p, _, rfl, P, E.nx _ _ _ _ q g4 (rs.tx (((t1.trans t2).trans t3).trans t4)) (((t1.trans t2).trans t3).trans t4)⟩
      · obtain ⟨g4, t4⟩ := g3.put (o' := .dic (kvs ++ [(key, z)])) (u := .dK (ws ++ [(key, w)])) ha rfl rfl rfl fun t => ⟨_, upd_same, RpKs.tx t (RpKs.snoc rw3 r)⟩
        have e := putK_new (u := w) (show key ∉ ws.map (·.1) by rw [r.keys]; exact hn)
        have P := DPut.k (H := H3) (a := p) (kvs := ws) (k := key) (v := w) hw2 (by rw [r.length]; exact hl)
        rw [e] at P
        exact ⟨p, _, rfl, P, E.nx _ _ _ _ q g4 (rs.tx (((t1.trans t2).trans t3).trans t4)) (((t1.trans t2).trans t3).trans t4)⟩
    · exact q3.elim⟩⟩⟩
/-- {k: v, ..}, the keys apart -/
def wPairs : List (WE × WE) → List SV → LS → (List (SV × SV) → LS → Prop) → Prop
  | [], _, L, Q => Q [] L
  | (wk, wv) :: r, δ, L, Q => wk δ L fun x L1 => wv δ L1 fun y L2 => wPairs r δ L2 fun ps L3 => Q ((x, y) :: ps) L3
def keysD : List (SV × SV) → Option (List (Key × SV))
  | [] => some []
  | (.da d, y) :: r => match keyD d, keysD r with
    | some k, some ks => some ((k, y) :: ks)
    | _, _ => none
  | _ => none
def wDisp (ws : List (WE × WE)) : WE := fun δ L Q => ∀ p, wPairs ws δ (L ++ [(p, .dic [])]) fun ps L1 => ∃ (i : Nat) (kvs : List (Key × SV)), L1[i]? = some (p, .dic []) ∧ keysD ps = some kvs ∧ kvs.length ≤ 15 ∧ (kvs.map (·.1)).Nodup ∧ Q (.rf p) (L1.set i (p, .dic kvs))
def tPs (K : PySem.W.Frag) (ws : List (WE × WE)) : List (TE × TE) := ws.map fun p => (canE K p.1, canE K p.2)
theorem merge_nodup : ∀ (more kvs : List (Key × V)), ((kvs ++ more).map (·.1)).Nodup → mergeK kvs more = kvs ++ more
  | [], kvs, _ => by rw [List.append_nil]; rfl
  | (k, v) :: more, kvs, h => by
    have h' : k ∉ kvs.map (·.1) := fun z => by
      rw [List.map_append, List.map_cons, List.nodup_append] at h
      exact h.2.2 k z k List.mem_cons_self rfl
    show mergeK (putK kvs k v) more = _
    rw [putK_new h', merge_nodup more _ (by rw [List.append_assoc]; exact h), List.append_assoc]
    rfl
/-- pairs of what represents -/
def RpPs (K : PySem.W.Frag) (H : Hp) : List (SV × SV) → List (V × V) → Prop
  | [], vs => vs = []
  | x :: xs, vs => ∃ u v ws, vs = (u, v) :: ws ∧ RpV K H x.1 u ∧ RpV K H x.2 v ∧ RpPs K H xs ws
theorem RpPs.tx {K : PySem.W.Frag} {H H' : Hp} (t : Tx H H') : ∀ {xs : List (SV × SV)} {vs : List (V × V)}, RpPs K H xs vs → RpPs K H' xs vs
  | [], _, h => h
  | x :: xs, _, h => by
    obtain ⟨u, v, ws, e, r1, r2, rs⟩ := h
    exact ⟨u, v, ws, e, r1.tx t, r2.tx t, RpPs.tx t rs⟩
theorem keysD_of {K : PySem.W.Frag} {H : Hp} : ∀ {ps : List (SV × SV)} {kvs : List (Key × SV)} {vs : List (V × V)}, keysD ps = some kvs → RpPs K H ps vs → ∃ ws, vs = ws.map (fun kv => (kV kv.1, kv.2)) ∧ RpKs K H kvs ws
  | [], kvs, vs, h, r => by
    cases (Option.some.inj h : [] = kvs)
    have r : vs = [] := r
    subst r
    exact ⟨[], rfl, rfl⟩
  | (.da d, y) :: ps, kvs, vs, h, r => by
    unfold keysD at h
    split at h
    · rename_i k ks e1 e2
      cases h
      obtain ⟨u, v, ws, rfl, r1, r2, r3⟩ := r
      obtain ⟨ws', rfl, r4⟩ := keysD_of e2 r3
      cases keyD_of e1 r1
      exact ⟨(k, v) :: ws', rfl, v, ws', rfl, r2, r4⟩
    · cases h
  | (.un, _) :: _, _, _, h, _ => by cases h
  | (.rf _, _) :: _, _, _, h, _ => by cases h
theorem pairs_core {K : PySem.W.Frag} {S : List Addr} {H0 : Hp} {δ : List SV} {σ : L2.St} : ∀ (ws : List (WE × WE)) (L : LS) (H : Hp) (Q2 : List (V × V) → Hp → Prop) (Qd : List (SV × SV) → LS → Prop), Sg K S H0 L H → RpS K H δ σ → wPairs ws δ L Qd →
    (∀ ps L' vs H', Qd ps L' → Sg K S H0 L' H' → Tx H H' → RpPs K H' ps vs → Q2 vs H') → tPairs (tPs K ws) σ H Q2
  | [], L, H, Q2, Qd, g, rs, hw, k => k [] L [] H hw g (Tx.refl H) rfl
  | (wk, wv) :: r, L, H, Q2, Qd, g, rs, hw, k => ⟨S, H0, δ, L, _, g, rs, hw, fun x L1 u H1 q1 g1 t1 ru => ⟨S, H0, δ, L1, _, g1, rs.tx t1, q1, fun y L2 v H2 q2 g2 t2 rv =>
      pairs_core r L2 H2 _ _ g2 (rs.tx (t1.trans t2)) q2 fun ps L3 vs H3 q3 g3 t3 r3 => k _ L3 _ H3 q3 g3 ((t1.trans t2).trans t3) ⟨u, v, vs, rfl, ru.tx (t2.trans t3), rv.tx t3, r3⟩⟩⟩
abbrev XPs (X : Cx) (pos : Pos) (keys : List (Option Expr)) (values : List Expr) (ws : List (WE × WE)) : Prop := PPs X pos keys values (tPs X.K ws)
theorem xps_nil : XPs X pos [] [] [] := pps_nil
theorem xps_cons {k v : Expr} {ks : List (Option Expr)} {vs : List Expr} {wk wv : WE} {ws : List (WE × WE)} (hk : XE X k wk) (hv : XE X v wv) (hr : XPs X pos ks vs ws) : XPs X pos (some k :: ks) (v :: vs) ((wk, wv) :: ws) := pps_cons hk hv hr
theorem xe_disp {keys : List (Option Expr)} {values : List Expr} {ws : List (WE × WE)} (h : XPs X pos keys values ws) (hall : keys.all (·.isSome) = true) (hl : keys.length = values.length) (h0 : keys ≠ []) (h15 : keys.length ≤ 15) : XE X (.Dict keys values pos) (wDisp ws) :=
  pe_imp (pe_disp h hall hl h0 h15) fun σ H Q ⟨S, H0, δ, L, Qd, g, rs, hw, k⟩ p hp => by
    have g1 : Sg X.K S H0 (L ++ [(p, .dic [])]) (upd H p (.dK [])) := g.new hp ⟨[], upd_same, rfl⟩
    have t1 : Tx H (upd H p (.dK [])) := (Ext.new hp).tx
    refine pairs_core ws _ _ _ _ g1 (rs.tx t1) (hw p) fun ps L2 vs H2 q2 g2 t2 r2 => ?_
    obtain ⟨i, kvs, hi, hk, hl, hn, q⟩ := q2
    obtain ⟨us, hu, ru⟩ := g2.at hi
    have ru : us = [] := ru
    subst ru
    obtain ⟨ws', rfl, r4⟩ := keysD_of hk r2
    have e : mergeK [] ws' = ws' := merge_nodup ws' [] (by show (ws'.map (·.1)).Nodup; rw [r4.keys]; exact hn)
    refine ⟨hu, ws', rfl, by rw [r4.length]; exact hl, ?_⟩
    rw [e]
    obtain ⟨g4, t4⟩ := g2.put (o' := .dic kvs) (u := .dK ws') hi rfl rfl rfl fun t => ⟨_, upd_same, RpKs.tx t r4⟩
    exact k _ _ _ _ q g4 ((t1.trans t2).trans t4) rfl
end

/-! ### a def's promise from its body -/
section
variable {P : Program} {w : World} {K : PySem.W.Frag} {mg : Str → Option Value} {base : Heap}
theorem fn_data {x qual : Str} {st : Stmt} {f : Addr} {fd : FuncData} {N ps : List Str} {n : Nat} {dsp : DSp} (F : Fun K x qual st f fd) (S : FnScope N ps (defScope st)) (len : ∀ xs L Q, dsp xs L Q → xs.length = ps.length)
    (body : ∀ (cdv : Value) (A : Around) (outer : List Env) (s : Shared) (H : Hp) (E : XK), Room n (A.deeper (envOfC qual (defScope st) s.heap.objs.size f cdv)) →
      ∃ W : WS, XSs (cxOf CX0 P w K mg base N qual (defScope st) f cdv A outer s H E).nox (fun _ _ _ _ => False) (defBody st) W ∧
        ∀ xs L Q, dsp xs L Q → W { nx := fun _ L' => Q (.da .none) L', rt := Q } (xs ++ List.replicate (N.length - xs.length) .un) L) : FnOk P w K mg base CX0 (n + 1) f fd ps (spD K dsp) := by
  refine F.ok S (fun vs H Q E h => ?_) (fun cdv A outer s H vs Q E hr h => ?_)
  · obtain ⟨xs, S', L, Qd, rv, g, hd, k⟩ := h
    rw [rv.length]
    exact len _ _ _ hd
  · obtain ⟨xs, S', L, Qd, rv, g, hd, k⟩ := h
    obtain ⟨W, hW, hw⟩ := body cdv A outer s H E hr
    refine ⟨_, hW, S', H, _, L, _, g, RpS.start rv, hw xs L Qd hd, ?_⟩
    exact ⟨fun δ L σ H1 a b c d => k _ L _ H1 a b rfl, fun x L v H1 a b c d => k x L v H1 a b c, fun δ L σ H a b c d => a.elim, fun δ L σ H a b c d => a.elim, fun cls fs δ L d σ H a b c e f => a.elim⟩
/-- the law's own promise, from what stands at the script -/
def dspLaw : DSp := fun xs L Q => ∃ (a : Addr) (ns : List Int), xs = [.rf a] ∧ L = [(a, .rol (ns.map fun n => SV.da (.int n)))] ∧ ns.length ≤ 63 ∧ ∀ L', Q (.da (.bool true)) L'
theorem law_sp {H : Hp} {a : Addr} {ns : List Int} (hl : ns.length ≤ 63) (hO : Only H) (hS : SqL K H a (ns.map V.int)) : spD K dspLaw [.ref a] H (fun v _ => v = .bl true) fun _ _ _ => False := by
  have r : ∀ ms : List Int, RpVs K H (ms.map fun n => SV.da (.int n)) (ms.map V.int) := fun ms => by
    induction ms with
    | nil => rfl
    | cons m ms ih => exact ⟨.int m, _, rfl, rfl, ih⟩
  refine ⟨[.rf a], [], [(a, .rol (ns.map fun n => SV.da (.int n)))], fun x _ => x = .da (.bool true), ⟨.ref a, [], rfl, rfl, rfl⟩, ⟨fun _ _ _ h => h, Tx.refl H, fun p o h => ?_, fun p o h e => ?_, fun i j p o o' h h' e e' => ?_⟩, ⟨a, ns, rfl, rfl, hl, fun _ => rfl⟩, fun x L' v H' q g r => ?_⟩
  · cases List.mem_singleton.mp h
    refine ⟨ns.map V.int, ?_, r ns⟩
    rcases hS with (h | h) | h
    · rcases hO a with z | ⟨o, xs, z⟩
      · rw [z] at h
        cases h
      · rw [z] at h
        cases h
    · exact .inl h
    · exact .inr h
  · cases List.mem_singleton.mp h
    cases e
  · have := List.mem_of_getElem? h
    cases List.mem_singleton.mp this
    cases e
  · subst q
    exact r
end
end Pd
namespace Pd
open PySem PySem.Spec PyProof.Rows L2
section
variable {X : Cx}
theorem op_sub_bb : OpR X (binaryOp .Sub) (fun x y H Q => ∃ i j, x = .bl i ∧ y = .bl j ∧ Q (.int (PyProof.Rows.b2i i - PyProof.Rows.b2i j)) H) := by
  intro pins s σ H x y v u Q I rx ry h
  obtain ⟨i, k, rfl, rfl, q⟩ := h
  cases rx
  cases ry
  exact PyProof.Rows.sub_bool ⟨.int _, H, I.tok _, ⟨_, rfl⟩, q⟩
theorem o_sub : DOpR X (binaryOp .Sub) dSub := by
  have hb : DOpR X (binaryOp .Sub) (fun x y L Q => ∃ i j, x = .da (.bool i) ∧ y = .da (.bool j) ∧ Q (.da (.int ((if i then 1 else 0) - (if j then 1 else 0)))) L) :=
    ⟨_, op_sub_bb, fun S H0 L H x y v u Q2 Qd g rv ru ⟨i, j, h1, h2, q⟩ k => by
      subst h1 h2
      exact ⟨i, j, rv, ru, k _ L _ H q g (Tx.refl H) (by cases i <;> cases j <;> rfl)⟩⟩
  refine (o_sub_i.or hb).imp fun x y L Q h => ?_
  unfold dSub at h
  split at h
  · exact .inl ⟨_, _, rfl, rfl, h⟩
  · exact .inr ⟨_, _, rfl, rfl, h⟩
  · exact h.elim
/-- targets = a list of that length -/
def gLl (n : Nat) (ws : WGs) : WG := fun x δ L Q => match x with
  | .rf p => ∃ (k : Nat) (o : DO) (xs : List SV), L[k]? = some (p, o) ∧ o.list? = some xs ∧ xs.length = n ∧ ws xs δ L Q
  | _ => False
theorem xg_unl {pos : Pos} {es : List Expr} {k : Nat} {js : List Nat} {ws : WGs} {n : Nat} (hc : X.calm = true) (h : XGs X es js ws)
    (hn : (assignEach es X.env).length = n := by rfl) (hst : (assignEach es X.env).findIdx? (·.1) = none := by rfl) : XG X (.Tuple es k pos) js (gLl n ws) :=
  pg_imp (pg_unl hc h hn hst) fun v σ H Q ⟨S, H0, δ, L, y, Qd, g, rs, rv, hw, k⟩ => by
    unfold gLl at hw
    split at hw
    · rename_i p
      obtain ⟨m, o, xs, hm, ho, hl, q⟩ := hw
      cases (rv : v = .ref p)
      obtain ⟨vs, sq, r⟩ := g.sql hm ho
      exact ⟨p, vs, rfl, sq, by rw [r.length]; exact hl, S, H0, δ, L, _, Qd, g, rs, r, q, k⟩
    · exact hw.elim
end
/-! ### sizes -/
def Sz (k : Nat) (x : Int) : Prop := x.natAbs < 2 ^ k
theorem Sz.mono {a b : Nat} {x : Int} (h : Sz a x) (l : a ≤ b) : Sz b x := Nat.lt_of_lt_of_le h (Nat.pow_le_pow_right (by decide) l)
theorem Sz.mul {a b : Nat} {x y : Int} (h : Sz a x) (h2 : Sz b y) : Sz (a + b) (x * y) := wide_lt h h2
theorem Sz.add {a : Nat} {x y : Int} (h : Sz a x) (h2 : Sz a y) : Sz (a + 1) (x + y) := by
  have h : x.natAbs < 2 ^ a := h
  have h2 : y.natAbs < 2 ^ a := h2
  show (x + y).natAbs < 2 ^ (a + 1)
  rw [Nat.pow_succ]
  omega
theorem Sz.neg {a : Nat} {x : Int} (h : Sz a x) : Sz a (-x) := by
  have h : x.natAbs < 2 ^ a := h
  show (-x).natAbs < 2 ^ a
  omega
theorem Sz.sub {a : Nat} {x y : Int} (h : Sz a x) (h2 : Sz a y) : Sz (a + 1) (x - y) := by
  have h : x.natAbs < 2 ^ a := h
  have h2 : y.natAbs < 2 ^ a := h2
  show (x - y).natAbs < 2 ^ (a + 1)
  rw [Nat.pow_succ]
  omega
theorem Sz.le {a : Nat} {x y : Int} (h : Sz a x) (l : y.natAbs ≤ x.natAbs) : Sz a y := Nat.lt_of_le_of_lt l h
theorem Sz.log {a b : Nat} {x : Int} (h : Sz a x) (l : a ≤ b) (h0 : 0 < b) : x.natAbs.log2 < b := PySem.Flt.log2_lt_of h0 (h.mono l)
theorem Sz.cmul {a b : Nat} {x y : Int} (h : Sz a x) (h2 : Sz b y) (l : a + b ≤ 999998 := by decide) : CMulW x y :=
  wide_mul (a := a + 1) (b := b + 1) (h.mono (Nat.le_succ a)) (h2.mono (Nat.le_succ b)) (Nat.succ_pos _) (Nat.succ_pos _) (by omega)
/-! ### answers of tests -/
theorem ne_of_t {α : Type} [DecidableEq α] {x y : α} (h : (!decide (x = y)) = true) : x ≠ y := by simpa using h
theorem eq_of_t {α : Type} [DecidableEq α] {x y : α} (h : ¬ (!decide (x = y)) = true) : x = y := by simpa using h
theorem t_of {p : Prop} [Decidable p] (h : decide p = true) : p := of_decide_eq_true h
theorem f_of {p : Prop} [Decidable p] (h : ¬ decide p = true) : ¬ p := fun z => h (decide_eq_true z)
theorem bt_len : bootBuiltins "len" = some (.builtin "len") := PySem.boot_len
theorem bt_abs : bootBuiltins "abs" = some (.builtin "abs") := by decide +kernel
theorem bt_int : bootBuiltins "int" = some (.type "int") := by decide +kernel
theorem bt_bool : bootBuiltins "bool" = some (.type "bool") := by decide +kernel
theorem bt_str : bootBuiltins "str" = some (.type "str") := by decide +kernel
theorem bt_tuple : bootBuiltins "tuple" = some (.type "tuple") := by decide +kernel
theorem bt_list : bootBuiltins "list" = some (.type "list") := by decide +kernel
theorem bt_sum : bootBuiltins "sum" = some (.builtin "sum") := by decide +kernel
theorem bt_max : bootBuiltins "max" = some (.builtin "max") := by decide +kernel
theorem bt_min : bootBuiltins "min" = some (.builtin "min") := by decide +kernel
theorem bt_all : bootBuiltins "all" = some (.builtin "all") := by decide +kernel
theorem bt_any : bootBuiltins "any" = some (.builtin "any") := by decide +kernel
theorem bt_sorted : bootBuiltins "sorted" = some (.builtin "sorted") := by decide +kernel
theorem in_tys (T : String) (h : (["bool", "int", "str", "tuple", "list"] : List String).contains T = true := by decide) : T ∈ ["bool", "int", "str", "tuple", "list"] := by
  simpa using h
end Pd
namespace Pd
open PySem PySem.Spec PyProof.Rows L2
/-! ### tests whose answer is known -/
theorem iteV {b : Bool} {A B : Prop} (h : b = true) (q : A) : if b = true then A else B := by
  rw [if_pos h]
  exact q
theorem iteW {b : Bool} {A B : Prop} (h : b = false) (q : B) : if b = true then A else B := by
  rw [if_neg (by rw [h]; exact Bool.false_ne_true)]
  exact q
/-- the test of x == y within ifs, where it holds; and of x != y -/
theorem iteEq {p : Prop} [Decidable p] {A B : Prop} (h : p) (q : A) : if decide p = true then A else B := iteV (decide_eq_true h) q
theorem iteNq {p : Prop} [Decidable p] {A B : Prop} (h : ¬ p) (q : B) : if decide p = true then A else B := iteW (decide_eq_false h) q
theorem iteNe {p : Prop} [Decidable p] {A B : Prop} (h : p) (q : B) : if (!decide p) = true then A else B := iteW (by rw [decide_eq_true h]; rfl) q
theorem iteNn {p : Prop} [Decidable p] {A B : Prop} (h : ¬ p) (q : A) : if (!decide p) = true then A else B := iteV (by rw [decide_eq_false h]; rfl) q
/-- behind a call that made nothing -/
theorem nilq {x : SV} {L : LS} {Q : SV → LS → Prop} (h : Q x L) : Q x (L ++ []) := by
  rw [List.append_nil]
  exact h
/-- the item of a turn, known -/
theorem wgAt {wg : WG} {x y : SV} {δ : List SV} {L : LS} {Q : List SV → Prop} (e : x = y) (h : wg y δ L Q) : wg x δ L Q := by
  rw [e]
  exact h
/-- of a not, known -/
theorem iteX {b : Bool} {A B : Prop} (h : b = true) (q : B) : if (!b) = true then A else B := iteW (by rw [h]; rfl) q
theorem iteY {b : Bool} {A B : Prop} (h : b = false) (q : A) : if (!b) = true then A else B := iteV (by rw [h]; rfl) q
/-- a promise about nothing -/
theorem FnOk.never {P : Program} {w : World} {K : PySem.W.Frag} {mg : Str → Option Value} {base : Heap} {n : Nat} {f : Addr} {fd : FuncData} {ps : List Str} : FnOk P w K mg base CX0 n f fd ps (spD K fun _ _ _ => False) :=
  ⟨fun _ _ _ _ ⟨_, _, _, _, _, _, h, _⟩ => h.elim, fun _ _ _ _ _ _ _ _ _ _ _ _ _ ⟨_, _, _, _, _, _, h, _⟩ => h.elim⟩
end Pd
namespace Pd
open PySem PySem.Spec PyProof.Rows L2 RZ
/-! ### zip, enumerate; all, any -/
section
variable {X : Cx} {Wx : WX}
theorem walk_zipT {K : PySem.W.Frag} {a b : Addr} {xs ys : List V} {n : Nat} (hn : n = min xs.length ys.length) : Walk (ItzT K a b) n (fun H => SqT K H a xs ∧ SqT K H b ys) (YPair (fun i => xs[i]?) (fun i => ys[i]?)) := by
  subst hn
  refine ⟨fun i _ hi q => ?_, fun _ q => ⟨xs, ys, q.1, q.2, by omega⟩, fun i H v H' _ q y => ?_⟩
  · have h1 : i < xs.length := by omega
    have h2 : i < ys.length := by omega
    exact ⟨xs, ys, xs[i], ys[i], q.1, q.2, by simp [h1], by simp [h2]⟩
  · obtain ⟨T, x, z, h1, h2, h3, h4, h5⟩ := y
    exact ⟨T, x, z, h1, h2, h3, h4 xs q.1, h5 ys q.2⟩
/-- over zip(xs, ys), both lists at their places, or both tuples -/
def iZp (wa : WA) : WI := fun δ L Q => wa δ L fun xs L1 => match xs with
  | [.rf p, .rf q] => ∃ (i j : Nat) (o o' : DO) (xs ys : List SV), L1[i]? = some (p, o) ∧ o.list? = some xs ∧ L1[j]? = some (q, o') ∧ o'.list? = some ys ∧
      Q (min xs.length ys.length) (fun n => .tp [xs.getD n .un, ys.getD n .un]) (fun L' => (∃ o, L'[i]? = some (p, o) ∧ o.list? = some xs) ∧ ∃ o, L'[j]? = some (q, o) ∧ o.list? = some ys) L1
  | [.da (.tuple a), .da (.tuple b)] => Q (min a.length b.length) (fun n => .da (.tuple [a.getD n .none, b.getD n .none])) (fun _ => True) L1
  | _ => False
theorem getD_of {α : Type} {xs : List α} {i : Nat} {x d : α} (h : xs[i]? = some x) : xs.getD i d = x := by
  rw [List.getD_eq_getElem?_getD, h]
  rfl
theorem xi_zip {tpos p pos : Pos} {elts : List Expr} {kk : Nat} {e e2 : Expr} {wa : WA} (hg : Gl X "zip") (hm : X.mg "zip" = none) (ha : XA X [e, e2] wa)
    (hs : starEach [e, e2] X.env = (false, eval e X.env) :: starEach [e2] X.env := by rfl) (hpl : (backTo pos (starEach [e2] X.env)).any (·.1) = false := by rfl) :
    XI X (.Tuple elts kk tpos) (.Call (.Name "zip" p) [e, e2] [] pos) (iZp wa) := pi_imp (pi_zipA hg hm ha hs hpl) fun σ H R ⟨S, H0, δ, L, Qd, g, rs, hw, k⟩ =>
  ⟨S, H0, δ, L, _, g, rs, hw, fun xs L1 vs H1 q1 g1 t1 rv => by
    split at q1
    · rename_i p q
      obtain ⟨i, j, o, o', xs, ys, h1, h2, h3, h4, q1⟩ := q1
      obtain ⟨v1, v2, rfl, r1, r2⟩ := rv.two
      cases (r1 : v1 = .ref p)
      cases (r2 : v2 = .ref q)
      obtain ⟨us, s1, rr1⟩ := g1.sql h1 h2
      obtain ⟨ws, s2, rr2⟩ := g1.sql h3 h4
      refine ⟨p, q, us, ws, rfl, .inl ⟨s1, s2, k _ _ _ L1 H1 _ q1 g1 t1 ?_⟩⟩
      have e1 := rr1.length
      have e2 := rr2.length
      refine ⟨fun H => ∃ us ws, SqL X.K H p us ∧ SqL X.K H q ws ∧ us.length = xs.length ∧ ws.length = ys.length, fun i H v H' => ∃ T x y, v = .ref T ∧ H T = none ∧ H' = upd H T (.tup [x, y]) ∧ (∀ us, SqL X.K H p us → us[i]? = some x) ∧ (∀ ws, SqL X.K H q ws → ws[i]? = some y), ?_, fun L2 H2 g2 t2 ⟨⟨o1, hk1, hl1⟩, o2, hk2, hl2⟩ => ?_, fun i H2 x H3 hi hy hg => ?_⟩
      · refine ⟨fun i H hi ⟨us, ws, s1, s2, l1, l2⟩ => ?_, fun H ⟨us, ws, s1, s2, l1, l2⟩ => ⟨us, ws, s1, s2, by omega⟩, fun i H x H' hi hg hy => hy⟩
        have a1 : i < us.length := by omega
        have a2 : i < ws.length := by omega
        exact ⟨us, ws, us[i], ws[i], s1, s2, by simp [a1], by simp [a2]⟩
      · obtain ⟨us, s1, r1⟩ := g2.sql hk1 hl1
        obtain ⟨ws, s2, r2⟩ := g2.sql hk2 hl2
        exact ⟨us, ws, s1, s2, r1.length, r2.length⟩
      · obtain ⟨T, x0, y0, rfl, hT, rfl, hx, hz⟩ := hy
        refine ⟨Ext.new hT, fun L2 g2 t2 ⟨⟨o1, hk1, hl1⟩, o2, hk2, hl2⟩ => ?_⟩
        obtain ⟨us, s1, r1⟩ := g2.sql hk1 hl1
        obtain ⟨ws, s2, r2⟩ := g2.sql hk2 hl2
        obtain ⟨d1, hd1, rd1⟩ := r1.at' (hx us s1)
        obtain ⟨d2, hd2, rd2⟩ := r2.at' (hz ws s2)
        have tx := (Ext.new (o := .tup [x0, y0]) hT).tx
        refine ⟨T, [x0, y0], rfl, SqT.of upd_same, x0, [y0], rfl, ?_, y0, [], rfl, ?_, rfl⟩
        · rw [getD_of hd1]
          exact rd1.tx tx
        · rw [getD_of hd2]
          exact rd2.tx tx
    · rename_i a b
      obtain ⟨v1, v2, rfl, r1, r2⟩ := rv.two
      obtain ⟨p, us, rfl, s1, rr1⟩ := r1
      obtain ⟨q, ws, rfl, s2, rr2⟩ := r2
      refine ⟨p, q, us, ws, rfl, .inr ⟨s1, s2, k _ _ _ L1 H1 _ q1 g1 t1 ?_⟩⟩
      refine ⟨_, _, walk_zipT (by rw [rr1.length, rr2.length]), fun L2 H2 g2 t2 _ => ⟨SqT.tx t2 s1, SqT.tx t2 s2⟩, fun i H2 x H3 hi hy hg => ?_⟩
      obtain ⟨T, x0, y0, rfl, hT, rfl, hx, hz⟩ := hy
      refine ⟨Ext.new hT, fun L2 g2 t2 _ => ?_⟩
      obtain ⟨d1, hd1, rd1⟩ := rr1.at' hx
      obtain ⟨d2, hd2, rd2⟩ := rr2.at' hz
      have tx := (t2.trans (Ext.new (o := .tup [x0, y0]) hT).tx)
      refine ⟨T, [x0, y0], rfl, SqT.of upd_same, x0, [y0], rfl, ?_, y0, [], rfl, ?_, rfl⟩
      · rw [getD_of hd1]
        exact Rp.tx tx _ _ rd1
      · rw [getD_of hd2]
        exact Rp.tx tx _ _ rd2
    · exact q1.elim⟩
/-- over enumerate(xs), xs a list at its place -/
def iEn (wa : WA) : WI := fun δ L Q => wa δ L fun xs L1 => match xs with
  | [.rf p] => ∃ (i : Nat) (o : DO) (xs : List SV), L1[i]? = some (p, o) ∧ o.list? = some xs ∧
      Q xs.length (fun n => .tp [.da (.int n), xs.getD n .un]) (fun L' => ∃ o, L'[i]? = some (p, o) ∧ o.list? = some xs) L1
  | _ => False
theorem xi_enum {tpos p pos : Pos} {elts : List Expr} {kk : Nat} {e : Expr} {wa : WA} (hg : Gl X "enumerate") (hm : X.mg "enumerate" = none) (ha : XA X [e] wa)
    (hs : starEach [e] X.env = [(false, eval e X.env)] := by rfl) :
    XI X (.Tuple elts kk tpos) (.Call (.Name "enumerate" p) [e] [] pos) (iEn wa) := pi_imp (pi_enum hg hm ha hs) fun σ H R ⟨S, H0, δ, L, Qd, g, rs, hw, k⟩ =>
  ⟨S, H0, δ, L, _, g, rs, hw, fun xs L1 vs H1 q1 g1 t1 rv => by
    split at q1
    · rename_i p
      obtain ⟨i, o, xs, h1, h2, q1⟩ := q1
      obtain ⟨v1, rfl, r1⟩ := rv.one
      cases (r1 : v1 = .ref p)
      obtain ⟨us, s1, rr1⟩ := g1.sql h1 h2
      refine ⟨p, us, rfl, s1, k _ _ _ L1 H1 _ q1 g1 t1 ?_⟩
      refine ⟨fun H => ∃ us, SqL X.K H p us ∧ us.length = xs.length, fun i H v H' => ∃ T x, v = .ref T ∧ H T = none ∧ H' = upd H T (.tup [.int (i : Nat), x]) ∧ (∀ us, SqL X.K H p us → us[i]? = some x), ?_, fun L2 H2 g2 t2 ⟨o1, hk1, hl1⟩ => ?_, fun i H2 x H3 hi hy hg => ?_⟩
      · refine ⟨fun i H hi ⟨us, s1, l1⟩ => ⟨us, us[i], s1, by simp [show i < us.length by omega]⟩, fun H ⟨us, s1, l1⟩ => ⟨us, s1, by omega⟩, fun i H x H' hi hg hy => hy⟩
      · obtain ⟨us, s1, r1⟩ := g2.sql hk1 hl1
        exact ⟨us, s1, r1.length⟩
      · obtain ⟨T, x0, rfl, hT, rfl, hx⟩ := hy
        refine ⟨Ext.new hT, fun L2 g2 t2 ⟨o1, hk1, hl1⟩ => ?_⟩
        obtain ⟨us, s1, r1⟩ := g2.sql hk1 hl1
        obtain ⟨d1, hd1, rd1⟩ := r1.at' (hx us s1)
        refine ⟨T, _, rfl, SqT.of upd_same, _, [x0], rfl, rfl, x0, [], rfl, ?_, rfl⟩
        rw [getD_of hd1]
        exact rd1.tx (Ext.new hT).tx
    · exact q1.elim⟩
/-- a list of bools -/
def boolsD : List SV → Option (List Bool)
  | [] => some []
  | .da (.bool i) :: xs => (boolsD xs).map (i :: ·)
  | _ => none
theorem boolsD_of {K : PySem.W.Frag} {H : Hp} : ∀ {xs : List SV} {ns : List Bool} {vs : List V}, boolsD xs = some ns → RpVs K H xs vs → vs = ns.map V.bl
  | [], ns, vs, h, r => by
    cases (Option.some.inj h : [] = ns)
    exact r
  | .da (.bool i) :: xs, ns, vs, h, r => by
    obtain ⟨v, ws, rfl, r1, r2⟩ := r
    cases e : boolsD xs with
    | none => simp [boolsD, e] at h
    | some es =>
      simp [boolsD, e] at h
      subst h
      cases (r1 : v = .bl i)
      rw [boolsD_of e r2]
      rfl
theorem boolsD_map (f : Nat → Bool) : ∀ l : List Nat, boolsD (l.map fun i => .da (.bool (f i))) = some (l.map f)
  | [] => rfl
  | i :: l => by
    show (boolsD (l.map _)).map _ = _
    rw [boolsD_map f l]
    rfl
def dAll : WC
  | [.rf p], L, Q => ∃ (k : Nat) (o : DO) (xs : List SV) (bs : List Bool), L[k]? = some (p, o) ∧ o.list? = some xs ∧ boolsD xs = some bs ∧ Q (.da (.bool (bs.all id))) L
  | _, _, _ => False
def dAny : WC
  | [.rf p], L, Q => ∃ (k : Nat) (o : DO) (xs : List SV) (bs : List Bool), L[k]? = some (p, o) ∧ o.list? = some xs ∧ boolsD xs = some bs ∧ Q (.da (.bool (bs.any id))) L
  | _, _, _ => False
theorem b_all (hc : X.calm = true) : DCallR X (.builtin "all") dAll := ⟨_, cr_all hc, fun S H0 L H xs vs Q2 Qd g rv hw k => by
  unfold dAll at hw
  split at hw
  · obtain ⟨v, rfl, r⟩ := rv.one
    cases (r : v = .ref _)
    obtain ⟨m, o, xs, ns, hm, ho, hd, q⟩ := hw
    obtain ⟨vs, sq, r⟩ := g.sql hm ho
    have e := boolsD_of hd r
    subst e
    exact ⟨_, ns, rfl, sq, k _ L _ H q g (Tx.refl H) rfl⟩
  · exact hw.elim⟩
theorem b_any (hc : X.calm = true) : DCallR X (.builtin "any") dAny := ⟨_, cr_any hc, fun S H0 L H xs vs Q2 Qd g rv hw k => by
  unfold dAny at hw
  split at hw
  · obtain ⟨v, rfl, r⟩ := rv.one
    cases (r : v = .ref _)
    obtain ⟨m, o, xs, ns, hm, ho, hd, q⟩ := hw
    obtain ⟨vs, sq, r⟩ := g.sql hm ho
    have e := boolsD_of hd r
    subst e
    exact ⟨_, ns, rfl, sq, k _ L _ H q g (Tx.refl H) rfl⟩
  · exact hw.elim⟩
end
/-- every element told, the list so far at the state's end -/
theorem lc_mapL {n : Nat} {item : Nat → SV} {G : LS → Prop} {L1 : LS} {wg : WG} {we : WE} {δ : List SV} {own : List Nat} {Q : SV → LS → Prop} (f : Nat → SV) (hn : n ≤ 10000000) (hG : ∀ (Da : Addr) (acc : List SV), G (L1 ++ [(Da, .lst acc)]))
    (h : ∀ i, i < n → ∀ (Da : Addr) (acc : List SV) (Q' : SV → LS → Prop), Q' (f i) (L1 ++ [(Da, .lst acc)]) → wg (item i) (wipeE δ own) (L1 ++ [(Da, .lst acc)]) fun δ2 => we δ2 (L1 ++ [(Da, .lst acc)]) Q') (hQ : ∀ Da, Q (.rf Da) (L1 ++ [(Da, .lst ((List.range n).map f))])) :
    LcB wg wYes we own δ Q n item G L1 := by
  refine .of fun Da => ?_
  refine ⟨fun i L' => L' = L1 ++ [(Da, .lst ((List.range i).map f))], rfl, fun i L' _ e => by rw [e]; exact hG _ _, fun i L' hi e => ?_, fun L' e => by rw [e]; exact hQ Da⟩
  subst e
  refine h i hi Da _ (fun y L4 => ∃ (k : Nat) (acc : List SV), L4[k]? = some (Da, .lst acc) ∧ acc.length < sizeLine ∧ L4.set k (Da, .lst (acc ++ [y])) = L1 ++ [(Da, .lst ((List.range (i + 1)).map f))]) ?_
  refine ⟨L1.length, (List.range i).map f, List.getElem?_concat_length, ?_, ?_⟩
  · rw [List.length_map, List.length_range]
    exact Nat.lt_of_lt_of_le (Nat.lt_of_lt_of_le hi hn) (by decide)
  · rw [List.set_append_right _ _ (Nat.le_refl _), Nat.sub_self, List.range_succ, List.map_append]
    rfl
end Pd
namespace Pd
open PySem PySem.Spec PyProof.Rows L2
/-! ### data of ints and tuples: equal by Python, equal -/
mutual
def inD : PyData → Bool
  | .int _ => true
  | .tuple ds => inDs ds
  | _ => false
def inDs : List PyData → Bool
  | [] => true
  | d :: ds => inD d && inDs ds
end
mutual
theorem eqv_in : ∀ d e : PyData, inD d = true → inD e = true → PyData.eqv d e = true → d = e
  | .int i, .int j, _, _, h => by
    have h : (i == j) = true := by simpa [PyData.eqv] using h
    rw [eq_of_beq h]
  | .tuple ds, .tuple es, h1, h2, h => by
    have h1 : inDs ds = true := by simpa [inD] using h1
    have h2 : inDs es = true := by simpa [inD] using h2
    have h : PyData.eqvAll ds es = true := by simpa [PyData.eqv] using h
    rw [eqvs_in ds es h1 h2 h]
  | .int _, .tuple _, _, _, h => by simp [PyData.eqv] at h
  | .tuple _, .int _, _, _, h => by simp [PyData.eqv] at h
  | .none, _, h, _, _ => by simp [inD] at h
  | .bool _, _, h, _, _ => by simp [inD] at h
  | .str _, _, h, _, _ => by simp [inD] at h
  | .list _, _, h, _, _ => by simp [inD] at h
  | .dict _, _, h, _, _ => by simp [inD] at h
  | _, .none, _, h, _ => by simp [inD] at h
  | _, .bool _, _, h, _ => by simp [inD] at h
  | _, .str _, _, h, _ => by simp [inD] at h
  | _, .list _, _, h, _ => by simp [inD] at h
  | _, .dict _, _, h, _ => by simp [inD] at h
theorem eqvs_in : ∀ ds es : List PyData, inDs ds = true → inDs es = true → PyData.eqvAll ds es = true → ds = es
  | [], [], _, _, _ => rfl
  | d :: ds, e :: es, h1, h2, h => by
    simp only [inDs, Bool.and_eq_true] at h1 h2
    simp only [PyData.eqvAll, Bool.and_eq_true] at h
    rw [eqv_in d e h1.1 h2.1 h.1, eqvs_in ds es h1.2 h2.2 h.2]
  | [], _ :: _, _, _, h => by simp [PyData.eqvAll] at h
  | _ :: _, [], _, _, h => by simp [PyData.eqvAll] at h
end
mutual
theorem lay_in : ∀ d : PyData, inD d = true → d.canLay0 = true
  | .int _, _ => rfl
  | .tuple ds, h => by
    have h : inDs ds = true := by simpa [inD] using h
    show PyData.canLayAll0 ds = true
    exact lays_in ds h
  | .none, h => by simp [inD] at h
  | .bool _, h => by simp [inD] at h
  | .str _, h => by simp [inD] at h
  | .list _, h => by simp [inD] at h
  | .dict _, h => by simp [inD] at h
theorem lays_in : ∀ ds : List PyData, inDs ds = true → PyData.canLayAll0 ds = true
  | [], _ => rfl
  | d :: ds, h => by
    simp only [inDs, Bool.and_eq_true] at h
    show (d.canLay0 && PyData.canLayAll0 ds) = true
    rw [lay_in d h.1, lays_in ds h.2]
    rfl
end
/-- int data of a known depth -/
structure Ind (k : Nat) (d : PyData) : Prop where
  i : inD d = true
  h : d.depth ≤ k
theorem Ind.sh {k : Nat} {d : PyData} (h : Ind k d) (l : k ≤ 64 := by decide) : SeqAt.shaped d = true := by
  unfold SeqAt.shaped
  rw [lay_in d h.i, decide_eq_true (Nat.le_trans h.h l)]
  rfl
theorem Ind.mono {k j : Nat} {d : PyData} (h : Ind k d) (l : k ≤ j) : Ind j d := ⟨h.i, Nat.le_trans h.h l⟩
theorem Ind.refl {k : Nat} {d : PyData} (h : Ind k d) : PyData.eqv d d = true := SeqAt.eqv_refl d (lay_in d h.i)
theorem Ind.iff {k j : Nat} {d e : PyData} (h : Ind k d) (h' : Ind j e) : PyData.eqv d e = true ↔ d = e := ⟨eqv_in d e h.i h'.i, fun z => z ▸ h.refl⟩
theorem Ind.int {k : Nat} (i : Int) : Ind k (.int i) := ⟨rfl, Nat.zero_le _⟩
theorem inDs_of {ds : List PyData} (h : ∀ d ∈ ds, inD d = true) : inDs ds = true := by
  induction ds with
  | nil => rfl
  | cons d ds ih =>
    show (inD d && inDs ds) = true
    rw [h d List.mem_cons_self, ih fun x hx => h x (List.mem_cons_of_mem _ hx)]
    rfl
theorem depths_of {k : Nat} {ds : List PyData} (h : ∀ d ∈ ds, d.depth ≤ k) : PyData.depthAll ds ≤ k := by
  induction ds with
  | nil => exact Nat.zero_le _
  | cons d ds ih =>
    show max d.depth (PyData.depthAll ds) ≤ k
    have h1 := h d List.mem_cons_self
    have h2 := ih fun x hx => h x (List.mem_cons_of_mem _ hx)
    omega
theorem Ind.tup {k : Nat} {ds : List PyData} (h : ∀ d ∈ ds, Ind k d) : Ind (k + 1) (.tuple ds) :=
  ⟨by show inDs ds = true; exact inDs_of fun d hd => (h d hd).i, by show PyData.depthAll ds + 1 ≤ k + 1; exact Nat.succ_le_succ (depths_of fun d hd => (h d hd).h)⟩
/-! ### rows told by a function -/
def tab {α : Type} (n : Nat) (f : Nat → α) : List α := (List.range n).map f
theorem tab_len {α : Type} (n : Nat) (f : Nat → α) : (tab n f).length = n := by
  unfold tab
  rw [List.length_map, List.length_range]
theorem tab_at {α : Type} {n i : Nat} {f : Nat → α} (h : i < n) : (tab n f)[i]? = some (f i) := by
  unfold tab
  rw [List.getElem?_map, List.getElem?_range h]
  rfl
theorem tab_getD {α : Type} {n i : Nat} {f : Nat → α} {d : α} (h : i < n) : (tab n f).getD i d = f i := by
  rw [List.getD_eq_getElem?_getD, tab_at h]
  rfl
theorem tab_ext {α : Type} {n : Nat} {f g : Nat → α} (h : ∀ i, i < n → f i = g i) : tab n f = tab n g := by
  unfold tab
  exact List.map_congr_left fun i hi => h i (List.mem_range.mp hi)
theorem tab_succ {α : Type} (n : Nat) (f : Nat → α) : tab (n + 1) f = tab n f ++ [f n] := by
  unfold tab
  rw [List.range_succ, List.map_append]
  rfl
theorem tab_map {α β : Type} (n : Nat) (f : Nat → α) (g : α → β) : (tab n f).map g = tab n fun i => g (f i) := by
  unfold tab
  rw [List.map_map]
  rfl
theorem tab_mem {α : Type} {n : Nat} {f : Nat → α} {x : α} (h : x ∈ tab n f) : ∃ i, i < n ∧ f i = x := by
  obtain ⟨i, hi, e⟩ := List.mem_map.mp h
  exact ⟨i, List.mem_range.mp hi, e⟩
theorem tab_of {α : Type} {xs : List α} {n : Nat} {f : Nat → α} (hl : xs.length = n) (h : ∀ i, i < n → xs[i]? = some (f i)) : xs = tab n f := by
  refine List.ext_getElem? fun i => ?_
  by_cases hi : i < n
  · rw [h i hi, tab_at hi]
  · rw [List.getElem?_eq_none (by omega), List.getElem?_eq_none (by rw [tab_len]; omega)]
theorem tab_append {α : Type} (m n : Nat) (f g : Nat → α) : tab m f ++ tab n g = tab (m + n) fun i => if i < m then f i else g (i - m) := by
  refine tab_of (by rw [List.length_append, tab_len, tab_len]) fun i hi => ?_
  by_cases h : i < m
  · rw [List.getElem?_append_left (by rw [tab_len]; exact h), tab_at h, if_pos h]
  · rw [List.getElem?_append_right (by rw [tab_len]; omega), tab_len, tab_at (by omega), if_neg h]
theorem das_tab (g : Nat → PyData) (n : Nat) : das (tab n fun i => .da (g i)) = some (tab n g) := by
  have h : ∀ l : List Nat, das (l.map fun i => SV.da (g i)) = some (l.map g) := fun l => by
    induction l with
    | nil => rfl
    | cons x l ih =>
      show (das (l.map _)).map _ = _
      rw [ih]
      rfl
  exact h _
theorem sIx_nat {n d h : Nat} (hh : h ≤ n) : HT.sIx n d (some (h : Int)) = h := by
  rw [HT.sIx_nat]
  omega
theorem tab_cutL {α : Type} {n h : Nat} {f : Nat → α} (hh : h ≤ n) : cutD (tab n f) none (some (h : Int)) = tab h f := by
  unfold cutD
  rw [tab_len, sIx_nat hh]
  show ((tab n f).drop 0).take (h - 0) = _
  rw [List.drop_zero, Nat.sub_zero]
  refine tab_of (by rw [List.length_take, tab_len]; omega) fun i hi => ?_
  rw [List.getElem?_take_of_lt hi, tab_at (by omega)]
theorem tab_cutR {α : Type} {n h : Nat} {f : Nat → α} (hh : h ≤ n) : cutD (tab n f) (some (h : Int)) none = tab (n - h) fun i => f (i + h) := by
  unfold cutD
  rw [tab_len, sIx_nat hh]
  show ((tab n f).drop h).take (n - h) = _
  refine tab_of (by rw [List.length_take, List.length_drop, tab_len]; omega) fun i hi => ?_
  rw [List.getElem?_take_of_lt hi, List.getElem?_drop, tab_at (by omega), Nat.add_comm]
/-! ### a call about a stretch of the state -/
theorem pick_mid : ∀ (A B C : LS), pick (A ++ B ++ C) (List.range' A.length B.length) = some B
  | A, [], C => rfl
  | A, b :: B, C => by
    have e : A ++ b :: B ++ C = (A ++ [b]) ++ B ++ C := by simp
    have ih := pick_mid (A ++ [b]) B C
    rw [← e, List.length_append] at ih
    show (match (A ++ b :: B ++ C)[A.length]?, pick (A ++ b :: B ++ C) (List.range' (A.length + 1) B.length) with
      | some o, some os => some (o :: os)
      | _, _ => none) = _
    have e2 : pick (A ++ b :: B ++ C) (List.range' (A.length + 1) B.length) = some B := ih
    have e3 : (A ++ b :: B ++ C)[A.length]? = some b := by
      rw [List.append_assoc, List.getElem?_append_right (Nat.le_refl _), Nat.sub_self]
      rfl
    rw [e2, e3]
theorem place_mid : ∀ (A B B' C : LS), B'.length = B.length → place (A ++ B ++ C) (List.range' A.length B.length) B' = A ++ B' ++ C
  | A, [], [], C, _ => rfl
  | A, b :: B, b' :: B', C, h => by
    show place ((A ++ b :: B ++ C).set A.length b') (List.range' (A.length + 1) B.length) B' = _
    have e3 : (A ++ b :: B ++ C).set A.length b' = (A ++ [b']) ++ B ++ C := by
      rw [List.append_assoc, List.set_append_right _ _ (Nat.le_refl _), Nat.sub_self]
      simp
    rw [e3]
    have ih := place_mid (A ++ [b']) B B' C (by simpa using h)
    rw [List.length_append] at ih
    have ih : place (A ++ [b'] ++ B ++ C) (List.range' (A.length + 1) B.length) B' = A ++ [b'] ++ B' ++ C := ih
    rw [ih]
    simp
theorem callN_mid {dsp : DSp} {Q : SV → LS → Prop} {xs : List SV} {L1 : LS} (A B C : LS) (e : L1 = A ++ B ++ C)
    (h : dsp xs B fun x L2 => ∃ os' L3, L2 = os' ++ L3 ∧ pat os' = pat B ∧ Q x (place L1 (List.range' A.length B.length) os' ++ L3)) :
    CallB dsp xs L1 Q :=
  ⟨_, B, List.nodup_range', by rw [e]; exact pick_mid A B C, h⟩
theorem mid_q {Q : SV → LS → Prop} {x : SV} {L1 L3 A B B' C : LS} (e : L1 = A ++ B ++ C) (hp : pat B' = pat B) (h : Q x (A ++ B' ++ C ++ L3)) : Q x (place L1 (List.range' A.length B.length) B' ++ L3) := by
  have hl : B'.length = B.length := by
    have := congrArg List.length hp
    simpa [pat] using this
  rw [e, place_mid A B B' C hl]
  exact h
end Pd
/-! ### an own exception's __init__: super().__init__(text); self.code = code -/
namespace Pd
open PySem PySem.Spec PyProof.Rows L2
/-- the built-in __init__ bound to an exception, called -/
theorem call_mw {prog : Program} {w : World} {A : Around} {E : Value → Shared → Prop} {h : Heap} {g : Array GenState} {d : Drawn} {t : Nat} {os : OsState} {nm q : Str} {C N : Addr} {bs bm : List Value} {hdct : Bool} {sn : List Str} {sub : List Value} {ab : Bool} {col : Option Bool} {dd : Option Addr} {k0 k1 k2 k3 k5 : Option Value}
    {u e t0 : Addr} {rest : List Value} {Q : Value → Shared → Prop}
    (hC : h.get? C = some (excClassObj nm q C N bs bm hdct sn sub ab col dd k0 k1 k2 k3 k5 "ValueError.__new__")) (he : h.get? e = some (PySem.HandSPX.excO C t0)) (hu : h.get? u = some (PySem.W.kxs_mw "ValueError.__init__" e)) (hrest : rest.length ≤ sizeLine)
    (hq : ∀ h' t1, (∀ b o, b ≠ e → h.get? b = some o → h'.get? b = some o) → h'.get? e = some (PySem.HandSPX.excO C t1) → Q .none ⟨h', g, d, t, os⟩) :
    wpAny (model prog w) A (call (.ref u) rest) Q E ⟨h, g, d, t, os⟩ := by
  refine wpAny_call (codeAny_of_tree ?_)
  show wpAny _ A.in1 (callAny (.ref u) ⟨rest, []⟩) _ _ _
  simp only [callAny]
  refine wpAny_bind (wpAny_load hu ?_)
  simp only [PySem.W.kxs_mw, show (Value.type "method-wrapper" == Value.type "method" || Value.type "method-wrapper" == Value.type "builtin_function_or_method" || Value.type "method-wrapper" == Value.type "method-wrapper") = true by decide, if_true]
  refine PySem.W.KFB.if_so (by decide) ?_
  refine wpAny_bind (PySem.W.check_bound_init PySem.F.excBase_ValueError.toExcCallFacts hC he rfl ?_)
  refine wpAny_bind (wpAny_pure (wpAny_pure ?_))
  refine ⟨Code.quiet_builtin _ (by decide +kernel), codeAny_builtin PySem.F.excBase_ValueError.initEntry ?_⟩
  rw [Around.under_plainId PySem.F.excBase_ValueError.init.plain _]
  wp_walk
  refine hq _ h.objs.size (fun b o hb ho => ?_) ?_
  · rw [Heap.get?_update_other _ _ (Ne.symm hb)]
    exact Heap.get?_push_of_some _ ho
  · rw [Heap.get?_update_self _ (Heap.get?_push_of_some _ he) rfl]
    rfl
/-- what the written part says of the class at C and of its __init__ at f -/
structure InitC (P : Program) (K : PySem.W.Frag) (C f : Addr) (qual : Str) (st : Stmt) (fd : FuncData) (cc : Addr) : Prop where
  oex : OexC K C
  fn : ∃ (oc : Value) (od an : Option Addr) (osl : Array (Option Value)) (dV kV doc pm ct : Value) (kc : Addr) (occ : Obj) (vs : Array Value) (file : Str) (tf : Tok), fd = PySem.W.ksFn "__init__" qual (defArgs st) (defBody st) (defScope st) dV kV doc pm an (.ref kc) ct cc ∧
    K.lookup f = some ⟨oc, od, .func fd, osl⟩ ∧ PySem.W.codeIn K (.ref kc) qual = true ∧ K.lookup kc = some occ ∧ occ.data = .fields vs ∧ vs[2]? = some (.str file tf) ∧ ((P.main.file : Str) == file) = true
  cell : ∃ oc : Obj, K.lookup cc = some oc ∧ oc.data = .cell (some (.ref C))
  sup : PySem.W.ks_superIn K C C "__init__" = some (some (.builtin "ValueError.__init__"))
  ve : PySem.W.subIn K (.ref C) (.type "ValueError") = some true
  self : PySem.W.subIn K (.ref C) (.ref C) = some true
  stat : PySem.W.nsIn K cStatics "thirdparty.any" = some none
  noc : PySem.W.findIn K (.ref C) "code" = some none
  iC : PySem.W.findIn K (.ref C) "__init__" = some (some (.ref f))
  tI : PySem.W.typeIn K (.ref f) = some (.type "function")
/-- the context of such a body -/
def cxX (P : Program) (w : World) (K : PySem.W.Frag) (mg : Str → Option Value) (base : Heap) (N : List Str) (qual : Str) (scope : Scope) (f cc : Addr) (cd : Value) (A : Around) (outer : List Env) (s : Shared) (H : Hp) (E : XK) : Cx where
  prog := P
  w := w
  K := K
  mg := mg
  base := base
  A := A.deeper (PySem.W.ksEnv qual scope s.heap.objs.size f cd cc)
  N := N
  s_0 := s
  H_0 := H
  env := PySem.W.ksEnv qual scope s.heap.objs.size f cd cc
  outer := outer
  stack := PySem.W.ksEnv qual scope s.heap.objs.size f cd cc :: outer
  ex := []
  calm := true
  fn := fun _ => false
  pn := []
  xe := fun e s' => wpAny (model P w) (A.deeper (PySem.W.ksEnv qual scope s.heap.objs.size f cd cc)) (leaving (PySem.W.ksEnv qual scope s.heap.objs.size f cd cc) e) (fun _ s'' => CX0 outer H s E e s'') (fun e' s'' => CX0 outer H s E e' s'') s'
section
variable {P : Program} {w : World} {K : PySem.W.Frag} {mg : Str → Option Value} {base : Heap}
theorem inv_startX {qual : Str} {scope : Scope} {f cc C : Addr} {cd : Value} {A : Around} {outer : List Env} {s : Shared} {H : Hp} {E : XK} {u1 u2 : Value} {v1 v2 : V} {h0 : Heap} {tk : Nat}
    (hd : A.handled = none) (e0 : Env0 P w K mg base A outer s H) (hkind : scope.kind = .function) (nocell : ∀ y ∈ scope.names, y.2 ≠ .cell) (free : ∀ y ∈ scope.names, y.2 = .free → y.1 = "__class__")
    (l1 : scope.names.lookup ("self" : Str) = some NameKind.local) (l2 : scope.names.lookup ("code" : Str) = some NameKind.local) (hc : ∃ oc : Obj, K.lookup cc = some oc ∧ oc.data = .cell (some (.ref C)))
    (r1 : RelV v1 u1) (r2 : RelV v2 u2) (hns : h0.Ns s.heap.objs.size (fun x => ([(("self" : Str), u1), (("code" : Str), u2)] : List (Str × Value)).reverse.lookup x)) (hk : ∀ b o, s.heap.get? b = some o → h0.get? b = some o) :
    Inv (cxX P w K mg base ["self", "code"] qual scope f cc cd A outer s H E) [] (start ["self", "code"] [v1, v2]) H { s with heap := h0, toks := tk } := by
  obtain ⟨oc, hoc, hod⟩ := hc
  have bC : base.get? cc = some oc := e0.mod.kin _ _ hoc
  have noA : ∀ b : Addr, b ∉ (cxX P w K mg base ["self", "code"] qual scope f cc cd A outer s H E).ex := fun b z => absurd (show b ∈ ([] : List Addr) from z) (by simp)
  have lk : ∀ {x : Str} {c : Addr}, (([(("__class__" : Str), cc)] : List (Str × Addr)).lookup x) = some c → x = "__class__" ∧ c = cc := fun {x c} h => by
    simp only [List.lookup] at h
    split at h
    · rename_i e
      exact ⟨eq_of_beq e, (Option.some.inj h).symm⟩
    · cases h
  refine ⟨⟨e0.mod, hkind, rfl, rfl, Nat.le_refl _, fun y z c h1 h2 => ?_, fun y hy => ?_, fun y c h => ?_, fun _ => hd, Around.frames_deeper e0.frames, .inr ⟨rfl, rfl⟩, fun b z => absurd z (noA b), e0.bs, e0.bsz, fun b _ _ => noA b, fun b z => absurd z (noA b), e0.funs, e0.frf⟩,
    rfl, e0.bare, Un.kept hk, ⟨_, hns, fun i y v h1 h2 h3 => ?_⟩, fun y c h => ?_, e0.hok.fresh (Nat.le_refl _), fun y c h => ?_, fun p hp => absurd (show p ∈ ([] : List (Addr × Obj)) from hp) (by simp), e0.hok.kept hk, rfl⟩
  · rw [(lk h1).1, (lk h2).1]
  · have hy : scope.names.lookup y = some .cell ∨ scope.names.lookup y = some .free := hy
    rcases hy with hy | hy
    · exact absurd rfl (nocell _ (PySem.mem_of_lookup hy))
    · have e := free _ (PySem.mem_of_lookup hy) rfl
      have e : y = "__class__" := e
      subst e
      exact ⟨cc, by rfl⟩
  · cases h
  · match i, h1, h2 with
    | 0, h1, h2 =>
      have h1 : ("self" : Str) = y := Option.some.inj h1
      have h2 : v1 = v := Option.some.inj (Option.some.inj h2)
      subst h1 h2
      exact ⟨u1, r1, .inl ⟨l1, by rfl⟩⟩
    | 1, h1, h2 =>
      have h1 : ("code" : Str) = y := Option.some.inj h1
      have h2 : v2 = v := Option.some.inj (Option.some.inj h2)
      subst h1 h2
      exact ⟨u2, r2, .inl ⟨l2, by rfl⟩⟩
  · obtain ⟨-, rfl⟩ := lk h
    exact ⟨_, oc, hk _ _ (e0.bs _ _ bC).1, hod⟩
  · obtain ⟨-, rfl⟩ := lk h
    exact (e0.bs _ _ bC).2
/-- what it does -/
def spInit (K : PySem.W.Frag) (C : Addr) : Sp := fun vs H Q _ => ∃ (a : Addr) (c : V), vs = [.ref a, c] ∧ H a = some (exo a C none) ∧ ∀ d, H d = none → d ≠ a → Q .non (upd (upd H d (exd d [("code", c)])) a (exo a C (some d)))
theorem init_ok {C f cc : Addr} {qual : Str} {st : Stmt} {fd : FuncData} {txt : Str} {j : Nat} {p0 p1 p2 p3 p4 p5 p6 p7 p8 p9 : Pos} {ar : Arg} (T : InitC P K C f qual st fd cc)
    (hbd : defBody st = [.Expr (.Call (.Attribute (.Call (.Name "super" p0) [] [] p1) "__init__" p2) [.Constant (.str txt) j p3] [] p4) p5, .Assign [.Attribute (.Name "self" p6) "code" p7] (.Name "code" p8) p9])
    (hkind : (defScope st).kind = .function) (hco : (defScope st).isCoroutine = false) (hgen : (defScope st).isGenerator = false) (nocell : ∀ y ∈ (defScope st).names, y.2 ≠ .cell) (free : ∀ y ∈ (defScope st).names, y.2 = .free → y.1 = "__class__")
    (l1 : (defScope st).names.lookup ("self" : Str) = some NameKind.local) (l2 : (defScope st).names.lookup ("code" : Str) = some NameKind.local)
    (ks : (defScope st).names.lookup ("super" : Str) = some NameKind.globalImplicit) (kc : (defScope st).names.lookup ("__class__" : Str) = some NameKind.free)
    (hpar : ((defArgs st).posonlyargs ++ (defArgs st).args).head? = some ar) (har : ar.arg = "self") {pl : Env → Sem Bool}
    (hev : ∀ env : Env, eval (.Call (.Attribute (.Call (.Name "super" p0) [] [] p1) "__init__" p2) [.Constant (.str txt) j p3] [] p4) env = (do
      let ov ← attributeBase (.Call (.Name "super" p0) [] [] p1) "__init__" env (eval (.Call (.Name "super" p0) [] [] p1) env)
      standAt p2.atName
      let (f, first) ← holding [ov] (getMethod ov "__init__" (pl env))
      callWith p4 f first (backTo p4 (starEach [.Constant (.str txt) j p3] env)) [])) (htop : (P.main.scope.names.lookup ("super" : Str)).isSome = false) (hsup : mg "super" = none) :
    FnOk P w K mg base CX0 1 f fd ["self", "code"] (spInit K C) := by
  refine ⟨fun vs H Q E ⟨a, c, e, _⟩ => by rw [e]; rfl, fun A outer s H args us vs Q E hr e0 hb r hsp => ?_⟩
  obtain ⟨a, c, rfl, ha, hq⟩ := hsp
  cases r with
  | @cons _ u1 _ ur r1 rr =>
    cases rr with
    | @cons _ u2 _ ur2 r2 rr2 =>
      cases rr2
      obtain rfl : u1 = Value.ref a := r1
      obtain ⟨oc, od, an, osl, dV, kV, doc, pm, ct, kcd, occ, vs', file, tf, rfl, lk, hcd, lkc, hocd, hv2, hfile⟩ := T.fn
      have KX : K.In s.heap := e0.mod.kin.keeps fun b o e => (e0.bs b o e).1
      have lim : s.heap.NoLimit := e0.mod.nolimit.keeps fun b o e => (e0.bs b o e).1
      refine PySem.ks_codeAny_call_defAt (body := defBody st) (binds := [(("self" : Str), .ref a), (("code" : Str), u2)]) hr.depth (KX _ _ lk) rfl lim (PySem.W.codeRec_of KX hcd) rfl hb nocell (fun y hy => ?_) (fun h0 hns hk0 => ?_) hco hgen hkind
      · simp only [List.mem_cons, List.not_mem_nil, or_false] at hy
        rcases hy with rfl | rfl
        · exact l1
        · exact l2
      have I : Inv (cxX P w K mg base ["self", "code"] qual (defScope st) f cc (.ref kcd) A outer s H E) [] (start ["self", "code"] [.ref a, c]) H { s with heap := h0, toks := s.toks + 2 } :=
        inv_startX hr.hd e0 hkind nocell free l1 l2 T.cell (rfl : RelV (.ref a) (.ref a)) r2 hns hk0
      show PySem.wpAt (model P w) (A.deeper (PySem.W.ksEnv qual (defScope st) s.heap.objs.size f (.ref kcd) cc)) (.func (defBody st) (PySem.W.ksEnv qual (defScope st) s.heap.objs.size f (.ref kcd) cc)) (execs (defBody st) (PySem.W.ksEnv qual (defScope st) s.heap.objs.size f (.ref kcd) cc)) _ _ { s with heap := h0, toks := s.toks + 2 }
      have hpost : ∀ (fl : Flow) (s' : Shared), SP (cxX P w K mg base ["self", "code"] qual (defScope st) f cc (.ref kcd) A outer s H E) [] { nx := fun _ H' => Q .non H', rt := Q } fl s' →
          CR CX0 outer P w H s Q E (.ok (.ret (match fl with | .ret v => v | _ => .none))) s' := fun fl s' hs => by
        cases fl with
        | ret u =>
          obtain ⟨v, σ', H', J, rv, q⟩ := hs
          exact ⟨v, H', J.os, J.bare, J.base, J.hok, rv, q⟩
        | next =>
          obtain ⟨σ', H', J, q⟩ := hs
          exact ⟨V.non, H', J.os, J.bare, J.base, J.hok, rfl, q⟩
        | brk =>
          obtain ⟨_, _, _, q⟩ := hs
          exact False.elim q
        | cont =>
          obtain ⟨_, _, _, q⟩ := hs
          exact False.elim q
      generalize ({ s with heap := h0, toks := s.toks + 2 } : Shared) = s1 at I ⊢
      rw [hbd]
      refine ks_wpAt_execs_cons (ks_wpAt_Expr_any ?_ I.quiet rfl)
      refine ks_wpAt_MethodCall (pl := pl _) ?_ (hev _)
      have KX1 : K.In s1.heap := I.kIn
      have fk : ∃ of : Obj, s1.heap.get? f = some of ∧ of.data = .func (PySem.W.ksFn "__init__" qual (defArgs st) (defBody st) (defScope st) dV kV doc pm an (.ref kcd) ct cc) := ⟨_, KX1 _ _ lk, rfl⟩
      obtain ⟨of, hof, hofd⟩ := fk
      refine ks_wpAt_super_base (env := PySem.W.ksEnv qual (defScope st) s.heap.objs.size f (.ref kcd) cc) ks kc (by decide) rfl hof hofd hpar rfl (KX1 _ _ lkc) hocd hv2 hfile htop ?_
      obtain ⟨mb, g1, g2⟩ := I.mod.blt
      refine PySem.W.ks_loadName_global hkind ks (Calls.loadGlobal_builtin (I.mod.glob.keeps I.bk) hsup (g1.keeps I.bk) ((g2 _ (by decide)).trans PyProof.Rows.Boot.«super») ⟨rfl, ?_⟩)
      obtain ⟨occ2, hoc2, hod2⟩ := T.cell
      refine wpAny_loadName_free hkind kc rfl ⟨_, KX1 _ _ hoc2, hod2⟩ ?_
      obtain ⟨mm, hnsm, hlook⟩ := I.loc
      obtain ⟨us, rus, lks⟩ := hlook 0 "self" (.ref a) rfl rfl (.inl l1)
      obtain rfl : us = Value.ref a := rus
      have hself : mm "self" = some (.ref a) := by
        rcases lks with ⟨_, z⟩ | ⟨z, _⟩
        · exact z
        · have z : (defScope st).names.lookup ("self" : Str) = some .cell ∨ (defScope st).names.lookup ("self" : Str) = some .free := z
          rw [l1] at z
          rcases z with z | z <;> cases z
      rw [har]
      refine wpAny_loadName_local hkind l1 hnsm hself ?_
      obtain ⟨nm, qn, N, bs, bm, sn, sub, ab, col, dd, k0, k1, k2, k3, k5, hC, hbm⟩ := T.oex.cls
      have hcl : PySem.W.clsIn K C = some { name := nm, bases := bs, mro := .ref C :: bm, ns := N, qualname := qn, hasDict := true, slotNames := sn, subclasses := sub, abstract := ab, collection := col, hasDel := false } := by unfold PySem.W.clsIn; rw [hC] <;> rfl
      obtain ⟨t1, ho⟩ := exo_at I.hok ha
      obtain ⟨hp, g, d, t, os⟩ := s1
      refine ks_wpAny_isType_cls (KX1 _ _ hC) rfl ⟨rfl, ?_⟩
      refine ks_wpAny_call_super (KX1 _ _ hC) rfl ho rfl (fun _ e => by cases e) (PySem.W.looks_subIn KX1 T.self) (fun h2 hso k2' => ?_)
      have I2 : Inv (cxX P w K mg base ["self", "code"] qual (defScope st) f cc (.ref kcd) A outer s H E) [] (start ["self", "code"] [.ref a, c]) H ⟨h2, g, d, t, os⟩ := I.kept (t' := t) k2'
      have KX2 : K.In h2 := I2.kIn
      have IA : PySem.W.InstAt h2 a ({ cls := .ref C, dict := none, data := .fields #[.ref t1, .none, .none, .none, .bool false, .none] } : Obj) C none := ⟨k2' _ _ ho, rfl, rfl, trivial⟩
      have hsp := T.sup
      unfold PySem.W.ks_superIn at hsp
      rw [hcl] at hsp
      refine PySem.W.kxs_getMethod PySem.W.kxs_ValueError hso (PySem.W.looks_opaque KX2 T.stat) (l₀ := .ref C :: bm) (fun A Q E s k q => wpAny_bind ((PySem.W.looks_clsIn KX2 hcl) A _ E s k (wpAny_pure q))) rfl KX2 hsp (IA.type.andThen (PySem.W.looks_subIn KX2 T.ve)) (PySem.W.ks_ne KX2 IA hcl) (by decide) ?_
      have k3' : ∀ b o, h2.get? b = some o → (h2.push (PySem.W.kxs_mw "ValueError.__init__" a)).get? b = some o := fun b o e => Heap.get?_push_of_some _ e
      have I3 : Inv (cxX P w K mg base ["self", "code"] qual (defScope st) f cc (.ref kcd) A outer s H E) [(h2.objs.size, PySem.W.kxs_mw "ValueError.__init__" a)] (start ["self", "code"] [.ref a, c]) H ⟨h2.push (PySem.W.kxs_mw "ValueError.__init__" a), g, d, t + 1, os⟩ := by
        have J : Inv (cxX P w K mg base ["self", "code"] qual (defScope st) f cc (.ref kcd) A outer s H E) [] (start ["self", "code"] [.ref a, c]) H ⟨h2.push (PySem.W.kxs_mw "ValueError.__init__" a), g, d, t + 1, os⟩ := I2.kept (t' := t + 1) k3'
        refine J.pins_of fun p hp => ?_
        cases List.mem_singleton.mp hp
        refine ⟨Heap.get?_push_at rfl rfl, I2.hok.fresh (Nat.le_refl _), Nat.ne_of_gt I2.lt, I2.nofs (Nat.le_refl _), fun v e => by cases e⟩
      show wpAny _ _ (callWith p4 (.ref h2.objs.size) [] (backTo p4 (starEach [.Constant (.str txt) j p3] _)) []) _ _ _
      have hargs := (pa_cons (X := cxX P w K mg base ["self", "code"] qual (defScope st) f cc (.ref kcd) A outer s H E) (pe_str (x := txt) (j := j) (pos := p3)) pa_nil).run p4 _ _ _ H (fun vs H1 => vs.length = 1 ∧ H1 = H) I3 ⟨rfl, rfl⟩
      refine PySem.W.kxs_callWith (i := "ValueError.__init__") (x := a) rfl (PySem.Calls.evalArgs_plain (thn hargs fun us4 s4 ⟨vs4, H4, I4, r4, hl4, eH⟩ => ?_))
      subst eH
      have hu4 : s4.heap.get? h2.objs.size = some (PySem.W.kxs_mw "ValueError.__init__" a) := (I4.pin (h2.objs.size, PySem.W.kxs_mw "ValueError.__init__" a) (by simp)).1
      refine ⟨hu4, ?_⟩
      obtain ⟨t4, ho4⟩ := exo_at I4.hok ha
      have hus : us4.length = 1 := by rw [← Paired.length r4]; exact hl4
      have hC4 := I4.kIn _ _ hC
      obtain ⟨hp4, g4, d4, tk4, os4⟩ := s4
      show wpAny _ _ (call (.ref h2.objs.size) us4) _ _ _
      refine call_mw hC4 ho4 hu4 (by rw [hus]; decide) fun h5 t5 k5 hx5 => ?_
      have J5 := I4.write (t' := tk4) (x := a) (e := a) (o := exo a C none) (by rw [ha]; exact True.intro) (.inl rfl) k5 ⟨_, hx5⟩ (exo_ok hx5)
      have eu : upd H4 a (exo a C none) = H4 := by
        funext b
        by_cases hb : b = a
        · rw [hb, upd_same, ha]
        · rw [upd_ne hb]
      rw [eu] at J5
      have I5 : Inv (cxX P w K mg base ["self", "code"] qual (defScope st) f cc (.ref kcd) A outer s H4 E) [] (start ["self", "code"] [.ref a, c]) H4 ⟨h5, g4, d4, tk4, os4⟩ := J5.pins_of (pins' := []) fun p hp => absurd hp (by simp)
      refine wpAt_of_wpAny (wpAny_mono ((pss_one (ps_ost (X := cxX P w K mg base ["self", "code"] qual (defScope st) f cc (.ref kcd) A outer s H4 E) (f := "code") (p' := p7) (pos := p9) (pv 0 rfl (.inl l1)) (pv 1 rfl (.inl l2)))).run [] _ _ H4 _ I5 ?_) (fun fl s' hs => hpost fl s' hs) fun e s' hs => hs)
      exact ⟨c, rfl, .ref a, rfl, a, C, rfl, T.oex, T.noc, .inl ⟨ha, fun dx n ne => hq dx n ne⟩⟩
end
end Pd
/-! ### raise, try, calls that may raise -/
namespace Pd
open PySem PySem.Spec PyProof.Rows L2
abbrev DSpX := List SV → LS → (SV → LS → Prop) → (Value → List (Str × SV) → LS → Prop) → Prop
def spDX (K : PySem.W.Frag) (dsp : DSpX) : Sp := fun vs H Q E => ∃ xs S L Qd Ed, RpVs K H xs vs ∧ Sg K S H L H ∧ dsp xs L Qd Ed ∧ (∀ x L' v H', Qd x L' → Sg K S H L' H' → RpV K H' x v → Q v H') ∧
  ∀ cls fs L' d H', Ed cls fs L' → Sg K S H L' H' → ExD K H' d fs → E cls d H'
section
variable {P : Program} {w : World} {K : PySem.W.Frag} {mg : Str → Option Value} {base : Heap}
theorem fn_dataX {x qual : Str} {st : Stmt} {f : Addr} {fd : FuncData} {N ps : List Str} {n : Nat} {dsp : DSpX} (F : Fun K x qual st f fd) (S : FnScope N ps (defScope st)) (len : ∀ xs L Q E, dsp xs L Q E → xs.length = ps.length)
    (body : ∀ (cdv : Value) (A : Around) (outer : List Env) (s : Shared) (H : Hp) (E : XK), Room n (A.deeper (envOfC qual (defScope st) s.heap.objs.size f cdv)) →
      ∃ W : WS, XSs (cxOf (L2.CX P w) P w K mg base N qual (defScope st) f cdv A outer s H E) (fun cls d _ H' => E cls d H') (defBody st) W ∧
        ∀ xs L Q Ed, dsp xs L Q Ed → W { nx := fun _ L' => Q (.da .none) L', rt := Q, ex := fun cls fs _ L' => Ed cls fs L' } (xs ++ List.replicate (N.length - xs.length) .un) L) : FnOk P w K mg base (L2.CX P w) (n + 1) f fd ps (spDX K dsp) := by
  refine F.okX S (fun vs H Q E h => ?_) (fun cdv A outer s H vs Q E hr h => ?_)
  · obtain ⟨xs, S', L, Qd, Ed, rv, g, hd, k, kx⟩ := h
    rw [rv.length]
    exact len _ _ _ _ hd
  · obtain ⟨xs, S', L, Qd, Ed, rv, g, hd, k, kx⟩ := h
    obtain ⟨W, hW, hw⟩ := body cdv A outer s H E hr
    refine ⟨_, hW, S', H, _, L, _, g, RpS.start rv, hw xs L Qd Ed hd, ?_⟩
    exact ⟨fun δ L σ H1 a b c d => k _ L _ H1 a b rfl, fun x L v H1 a b c d => k x L v H1 a b c, fun δ L σ H a b c d => a.elim, fun δ L σ H a b c d => a.elim, fun cls fs δ L d σ H a b c e f => kx cls fs L d H a b e⟩
end
section
variable {X : Cx} {Wx : WX} {pos pos' : Pos}
/-- raise C(text) -/
def wRaise (C : Addr) (wa : WA) : WS := fun D δ L => wa δ L fun xs L1 => match xs with
  | [.da (.str z)] => D.ex (.ref C) [("code", .da (.str z))] δ L1
  | _ => False
theorem xs_raise {C fI cc : Addr} {qual : Str} {st : Stmt} {fd : FuncData} {x : Str} {p : Pos} {e : Expr} {wa : WA} (T : InitC X.prog X.K C fI qual st fd cc) (F1 : FnOk X.prog X.w X.K X.mg X.base CX0 1 fI fd ["self", "code"] (spInit X.K C)) (hr : Room 2 X.A) (hb : Binds X.K fd ["self", "code"] [])
    (hg : Gl X x) (hm : X.mg x = some (.ref C)) (ha : XA X [e] wa) (tk : Takes X Wx) (hc : X.calm = true) (hdb : (x == ("__debug__" : Str)) = false := by decide) (he : starEach [e] X.env = (false, eval e X.env) :: starEach [] X.env := by rfl) :
    XS X Wx (.Raise (some (.Call (.Name x p) [e] [] pos)) none pos') (wRaise C wa) :=
  ps_imp (ps_raise hc tk (pmk_oex T.oex T.iC T.tI F1 hr hb .nil pass0 hg hm ha hdb he rfl)) fun D σ H ⟨S, H0, δ, L, DD, g, rs, hw, E⟩ => ⟨S, H0, δ, L, _, g, rs, hw, fun xs L1 vs H1 q1 g1 t1 rv => by
    split at q1
    · rename_i z
      obtain ⟨v, ws, rfl, r1, r2⟩ := rv
      have r2 : ws = [] := r2
      subst r2
      cases (r1 : v = .str z)
      refine ⟨show 1 ≤ 1000 by decide, fun a ha => ⟨a, .str z, rfl, upd_same, fun d hd ne => ⟨rfl, d, [("code", .str z)], upd_same, ?_, ?_, ?_⟩⟩⟩
      · rw [upd_ne ne, upd_same]
      · rw [upd_ne ne] at hd
        exact hd
      · have hd1 : H1 d = none := by
          rw [upd_ne ne] at hd
          exact hd
        have e : upd (del (upd (upd (upd H1 a (exo a C none)) d (exd d [("code", V.str z)])) a (exo a C (some d))) a) d (.xd [("code", V.str z)]) = upd H1 d (.xd [("code", V.str z)]) := by
          funext b
          by_cases hb : b = d
          · rw [hb, upd_same, upd_same]
          · rw [upd_ne hb, upd_ne hb]
            by_cases hba : b = a
            · rw [hba, del_same, ha]
            · rw [del_ne hba, upd_ne hba, upd_ne hb, upd_ne hba]
        rw [e]
        have ex := Ext.new (o := HO.xd [("code", V.str z)]) hd1
        exact E.ex _ _ δ L1 (some d) σ _ q1 (g1.ext ex) (rs.tx (t1.trans ex.tx)) (.inr ⟨d, _, rfl, upd_same, .str z, [], rfl, rfl, rfl⟩) (t1.trans ex.tx)
    · exact q1.elim⟩
/-! ### a call that may raise -/
variable {f : Addr} {fd : FuncData} {ps : List Str} {n : Nat} {dsp : DSpX} {x : Str} {p : Pos} {e : Expr} {es : List Expr} {ws : WA}
theorem Sg.none {K : PySem.W.Frag} {H : Hp} : Sg K [] H [] H := ⟨fun _ _ _ h => h, Tx.refl H, fun _ _ h => by simp at h, fun _ _ h => by simp at h, fun i j p o o' h => by simp at h⟩
/-- here it does not -/
def wCallX (dsp : DSpX) (ws : WA) : WE := fun δ L Q => ws δ L fun xs L1 => dsp xs [] (fun x L2 => Q x (L1 ++ L2)) fun _ _ _ => False
theorem xe_callX (F : FnOk X.prog X.w X.K X.mg X.base (L2.CX X.prog X.w) n f fd ps (spDX X.K dsp)) (hr : Room n X.A) (hg : Gl X x) (hm : X.mg x = some (.ref f)) (hk : PySem.W.keepIn X.K (.ref f) = true) (hb : Binds X.K fd ps [])
    (ha : XA X (e :: es) ws) (hdb : (x == ("__debug__" : Str)) = false := by decide) (he : starEach (e :: es) X.env = (false, eval e X.env) :: starEach es X.env := by rfl) (hpl : (backTo pos (starEach es X.env)).any (·.1) = false := by rfl) :
    XE X (.Call (.Name x p) (e :: es) [] pos) (wCallX dsp ws) :=
  pe_imp (pe_call F hr hg hm hk hb .nil passL ha hdb he hpl) fun σ H Q ⟨S, H0, δ, L, Qd, g, rs, hw, k⟩ => ⟨S, H0, δ, L, _, g, rs, hw, fun xs L1 vs H1 q1 g1 t1 rv => by
    show spDX X.K dsp (vs ++ []) H1 Q E0
    rw [List.append_nil]
    refine ⟨xs, [], [], _, _, rv, Sg.none, q1, fun z L2 v H2 q2 g2 rz => ?_, fun _ _ _ _ _ z => z.elim⟩
    obtain ⟨g3, t3⟩ := g1.back g2
    exact k z _ v H2 q2 g3 (t1.trans t3) rz⟩
/-- as a statement, it may -/
def wExprX (dsp : DSpX) (ws : WA) : WS := fun D δ L => ws δ L fun xs L1 => dsp xs [] (fun _ L2 => D.nx δ (L1 ++ L2)) fun cls fs L2 => D.ex cls fs δ (L1 ++ L2)
theorem xs_exprX (F : FnOk X.prog X.w X.K X.mg X.base (L2.CX X.prog X.w) n f fd ps (spDX X.K dsp)) (hr : Room n X.A) (hg : Gl X x) (hm : X.mg x = some (.ref f)) (hk : PySem.W.keepIn X.K (.ref f) = true) (hb : Binds X.K fd ps []) (tk : Takes X Wx)
    (ha : XA X (e :: es) ws) (hs : swapsWith (.Call (.Name x p) (e :: es) [] pos) none pos'.line X.env = pure false := by rfl) (hdb : (x == ("__debug__" : Str)) = false := by decide) (he : starEach (e :: es) X.env = (false, eval e X.env) :: starEach es X.env := by rfl) (hpl : (backTo pos (starEach es X.env)).any (·.1) = false := by rfl) :
    XS X Wx (.Expr (.Call (.Name x p) (e :: es) [] pos) pos') (wExprX dsp ws) :=
  ps_imp (ps_expr (pe_callS F hr hg hm hk hb (fun σ => passAt tk σ) ha hdb he hpl) hs) fun D σ H ⟨S, H0, δ, L, DD, g, rs, hw, E⟩ => ⟨S, H0, δ, L, _, g, rs, hw, fun xs L1 vs H1 q1 g1 t1 rv => by
    refine ⟨xs, [], [], _, _, rv, Sg.none, q1, fun z L2 v H2 q2 g2 rz => ?_, fun cls fs L2 d H2 q2 g2 ed => ?_⟩
    · obtain ⟨g3, t3⟩ := g1.back g2
      exact E.nx δ _ σ H2 q2 g3 (rs.tx (t1.trans t3)) (t1.trans t3)
    · obtain ⟨g3, t3⟩ := g1.back g2
      exact E.ex cls fs δ _ d σ H2 q2 g3 (rs.tx (t1.trans t3)) ed (t1.trans t3)⟩
/-! ### try: .. except C as n: .. -/
def exS (zs : List (Str × Str)) : List (Str × SV) := zs.map fun p => (p.1, .da (.str p.2))
theorem exS_of {K : PySem.W.Frag} {H : Hp} : ∀ {zs : List (Str × Str)} {gs : List (Str × V)}, RpKs K H (exS zs) gs → gs = exF zs
  | [], _, h => h
  | (k, z) :: zs, _, h => by
    obtain ⟨v, ws, rfl, r, rs⟩ := h
    cases (r : v = .str z)
    rw [exS_of (zs := zs) rs]
    rfl
def dTry (C : Addr) (i : Nat) (wsu : Addr → Value → Option Addr → WS) (D : DE) : DE :=
  ⟨D.nx, D.rt, D.bk, D.ct, fun cls fs δ' L' => ∃ zs, fs = exS zs ∧ zs ≠ [] ∧ cls = .ref C ∧ ∀ a d, wsu a (.ref C) (some d) ⟨fun δ2 L2 => D.nx (δ2.set i .un) L2, D.rt, fun δ2 L2 => D.bk (δ2.set i .un) L2, fun δ2 L2 => D.ct (δ2.set i .un) L2, fun _ _ _ _ => False⟩ (δ'.set i (.ex a d zs)) L'⟩
def wTryAs (C : Addr) (i : Nat) (wb : WS) (wsu : Addr → Value → Option Addr → WS) : WS := fun D δ L => wb (dTry C i wsu D) δ L
theorem xs_tryAs {C : Addr} {i : Nat} {nm : Str} {body suite : List Stmt} {b₀ : Stmt} {np pos2 : Pos} {wb : WS} {wsu : Addr → Value → Option Addr → WS} (hs : X.stack = X.env :: X.outer) (hf : X.env.frame = some X.env.locals) (hN : X.N.Nodup) (hi : X.N[i]? = some nm) (hln : X.env.kindOf nm = some .local) (hc : Names X x (.ref C)) (hex : PySem.W.exmOne X.K (.ref C) (.ref C) = some true)
    (hb : ∀ (W : WX) (pn : List (Addr × Obj)) (xe : Value → Shared → Prop), Takes (X.tr pn xe) W → PassesOwn (model X.prog X.w) X.A X.env xe → XSs (X.tr pn xe) W body wb)
    (hsu : ∀ (a : Addr) (oe : Obj) (cls : Value) (d : Option Addr) (pn : List (Addr × Obj)), Zc cls d oe → (∃ vs, oe.data = .fields vs) → XSs (X.suite a ((a, oe) :: pn)) (fun _ _ _ _ => False) (b₀ :: suite) (wsu a cls d)) :
    XS X Wx (.Try body [.ExceptHandler (some (.Name x np)) (some nm) (b₀ :: suite) pos2] [] [] pos) (wTryAs C i wb wsu) :=
  ps_imp (ps_try_as (tb := fun W => canS X.K W wb) (ts := fun a cls d => canS X.K (fun _ _ _ _ => False) (wsu a cls d)) (Wout := fun _ _ _ _ => False) hs hf hN hi hln hc takes0 hb hsu) fun D σ H ⟨S, H0, δ, L, DD, g, rs, hw, E⟩ => by
    refine ⟨S, H0, δ, L, dTry C i wsu DD, g, rs, hw, ⟨E.nx, E.rt, E.bk, E.ct, fun cls fs δ' L' d σ' H' q g' rs' ed t' => ?_⟩⟩
    obtain ⟨zs, rfl, nz, rfl, hq⟩ := q
    refine ⟨true, hex, fun _ a ha => ?_, fun z => nomatch z⟩
    rcases ed with ⟨rfl, e0⟩ | ⟨dd, gs, rfl, hd, rk⟩
    · cases zs with
      | nil => exact absurd rfl nz
      | cons z zs => cases e0
    · rw [exS_of rk] at hd
      refine ⟨S, H0, δ'.set i (.ex a dd zs), L', _, g', RpS.set (x := .ex a dd zs) (v := .ref a) ⟨rfl, hd⟩ i rs', hq a dd, ?_⟩
      exact ⟨fun δ2 L2 σ2 H2 q2 g2 r2 t2 => E.nx _ L2 _ H2 q2 g2 (RpS.unset i r2) (t'.trans t2), fun x L2 v H2 q2 g2 r2 t2 => E.rt x L2 v H2 q2 g2 r2 (t'.trans t2), fun δ2 L2 σ2 H2 q2 g2 r2 t2 => E.bk _ L2 _ H2 q2 g2 (RpS.unset i r2) (t'.trans t2), fun δ2 L2 σ2 H2 q2 g2 r2 t2 => E.ct _ L2 _ H2 q2 g2 (RpS.unset i r2) (t'.trans t2), fun _ _ _ _ _ _ _ z => z.elim⟩
/-- n.f of a caught exception -/
def wXf (a : Addr) (cls : Value) (d : Option Addr) (C : Addr) (f : Str) (we : WE) : WE := fun δ L Q => we δ L fun x L1 => match x with
  | .ex a' d' zs => a' = a ∧ cls = .ref C ∧ d = some d' ∧ ∃ z, (exF zs).lookup f = some (.str z) ∧ Q (.da (.str z)) L1
  | _ => False
theorem xe_xf {a C : Addr} {oe : Obj} {cls : Value} {d : Option Addr} {pn : List (Addr × Obj)} {we : WE} {nm : Str} (T : XfC X.K C) (hno : PySem.W.findIn X.K (.ref C) nm = some none) (hz : Zc cls d oe) (hf : ∃ vs, oe.data = .fields vs) (he : XE (X.suite a ((a, oe) :: pn)) e we)
    (hb : attributeBase e nm X.env (eval e X.env) = eval e X.env := by rfl) : XE (X.suite a ((a, oe) :: pn)) (.Attribute e nm pos) (wXf a cls d C nm we) :=
  pe_imp (pe_xf T hno hz hf he hb) fun σ H Q ⟨S, H0, δ, L, Qd, g, rs, hw, k⟩ => ⟨S, H0, δ, L, _, g, rs, hw, fun x L1 v H1 q1 g1 t1 rv => by
    split at q1
    · rename_i a' d' zs
      obtain ⟨rfl, rfl, rfl, z, hl, q⟩ := q1
      obtain ⟨rfl, hd⟩ := rv
      exact ⟨rfl, rfl, d', _, _, rfl, hd, hl, k _ L1 _ H1 q g1 t1 rfl⟩
    · exact q1.elim⟩
end
end Pd
/-! ### t[::-1], xs.extend(t), a <= b <= c -/
namespace Pd
open PySem PySem.Spec PyProof.Rows L2
section
variable {prog : Program} {w : World} {A : Around} {E : Value → Shared → Prop} {s : Shared}
theorem sliceApplied_rev {sl : Addr} {u : Tok} {n : Nat} {Q : Int × Int × Nat → Shared → Prop} (hs : s.heap.IsSliceOf sl .none .none (.int (-1) u))
    (h : Q ((n : Int) - 1, -1, n) s) : wpAny (model prog w) A (Builtin.Slice.sliceApplied (.ref sl) (pure (n : Int))) Q E s := by
  obtain ⟨os, hos, hcs, hds⟩ := id hs
  unfold Builtin.Slice.sliceApplied Builtin.Slice.sliceFields
  refine wpAny_bind (wpAny_bind (wpAny_field hos hds (x := .none) rfl (wpAny_bind (wpAny_field hos hds (x := .none) rfl (wpAny_bind (wpAny_field hos hds (x := .int (-1) u) rfl (wpAny_pure ?_)))))))
  refine wpAny_bind (slicePart_int ?_)
  show wpAny _ _ (if ((-1 : Int) == 0) = true then _ else _) _ _ s
  rw [if_neg (by decide)]
  refine wpAny_bind (slicePart_none (wpAny_bind (slicePart_none (wpAny_bind (wpAny_pure ?_)))))
  show wpAny _ _ (pure ((n : Int) - 1, (-1 : Int), Builtin.Slice.slicePlaces ((n : Int) - 1) (-1) (-1))) _ _ s
  have e : Builtin.Slice.slicePlaces ((n : Int) - 1) (-1) (-1) = n := by
    unfold Builtin.Slice.slicePlaces
    rw [if_neg (by decide)]
    split <;> simp <;> omega
  rw [e]
  exact wpAny_pure h
theorem fm_one {α : Type} {l : List α} {g : Nat → Option α} {k : Nat} (h : g k = l[k]?) (hk : k < l.length) : [k].filterMap g = l[k]?.toList := by
  rw [List.getElem?_eq_getElem hk] at h ⊢
  rw [List.filterMap_cons_some h]
  rfl
theorem fm_range {α : Type} (l : List α) (g : Nat → Option α) (h : ∀ m, m < l.length → g m = l[m]?) : ∀ k, k ≤ l.length → (List.range k).filterMap g = l.take k
  | 0, _ => by simp
  | k + 1, hk => by
    have hk' : k < l.length := hk
    rw [List.range_succ, List.filterMap_append, fm_range l g h k (Nat.le_of_lt hk'), List.take_add_one, fm_one (h k hk') hk']
theorem pick_rev (xs : Array Value) : ((List.range xs.size).filterMap fun (m : Nat) => xs[(((xs.size : Int) - 1) + (m : Int) * (-1)).toNat]?).toArray = xs.toList.reverse.toArray := by
  congr 1
  have hl : xs.toList.reverse.length = xs.size := by simp
  have := fm_range xs.toList.reverse (fun (m : Nat) => xs[(((xs.size : Int) - 1) + (m : Int) * (-1)).toNat]?) (fun m hm => by
    rw [hl] at hm
    show xs[(((xs.size : Int) - 1) + (m : Int) * (-1)).toNat]? = xs.toList.reverse[m]?
    rw [List.getElem?_reverse (by simpa using hm), show (((xs.size : Int) - 1) + (m : Int) * (-1)).toNat = xs.size - 1 - m by omega]
    simp) xs.size (by rw [hl]; exact Nat.le_refl _)
  rw [this, ← hl, List.take_length]
theorem getItem_tuple_rev {t sl : Addr} {u : Tok} {items : Array Value} {Q : Value → Shared → Prop} (ht : IsTup s.heap t items) (hs : s.heap.IsSliceOf sl .none .none (.int (-1) u))
    (h : Q (.ref s.heap.objs.size) { s with heap := s.heap.push { cls := .type "tuple", data := .seq items.toList.reverse.toArray } }) (hsz : items.size ≤ sizeLine) : wpAny (model prog w) A (getItem (.ref t) (.ref sl)) Q E s := by
  have htake : sizeOk (.seq items.toList.reverse.toArray) := by
    show items.toList.reverse.toArray.size ≤ sizeLine
    simpa using hsz
  obtain ⟨os, hos, hcs, hds⟩ := id hs
  have hTs : s.TypeIs (.ref sl) "slice" := ⟨os, hos, hcs⟩
  unfold getItem
  try with_reducible refine wpAny_holding ?_
  first | refine wpAny_bind (wpAny_pure ?_) | skip
  refine wpAny_bind (wpAny_sequenceKey ht.typeIs (by decide) ?_)
  refine wpAny_bind (wpAny_callSpecial?_slot (name := Str.ofString "__getitem__") ht.typeIs PyProof.Rows.slot_tuple_getitem
    (wpAny_call_entry PyProof.Rows.slot_tuple_getitem ht.typeIs entry_tuple_getitem ?_ (args_tuple_getitem _ _)))
  show wpAny _ _ (Builtin.Tuple.tupleItemsOf (.ref t) >>= _) _ _ s
  refine wpAny_bind (tupleItemsOf_ ht ?_)
  refine wpAny_bind (wpAny_typeOf hTs ?_)
  rw [if_pos (by decide)]
  refine wpAny_bind (sliceApplied_rev hs ?_)
  show wpAny _ _ (if (((items.size : Int) - 1) == 0 && (-1 : Int) == 1 && items.size == items.size) = true then _ else _) _ _ s
  rw [if_neg (by simp), pick_rev]
  first
    | exact wpAny_bind (m := Builtin.Tuple.tupleExact _) (wpAny_newObj_type (wpAny_pure ⟨_, rfl, wpAny_pure h⟩) htake)
    | exact wpAny_bind (m := Builtin.Tuple.tupleExact _) (wpAny_newObj_type (wpAny_bind (wpAny_pure (wpAny_pure ⟨_, rfl, wpAny_pure h⟩))) htake)
    | exact wpAny_bind (wpAny_bind (m := Builtin.Tuple.tupleExact _) (wpAny_newObj_type (wpAny_pure (wpAny_pure ⟨_, rfl, wpAny_pure h⟩)) htake))
    | exact wpAny_bind (wpAny_bind (m := Builtin.Tuple.tupleExact _) (wpAny_newObj_type (wpAny_pure ⟨_, rfl, wpAny_pure h⟩) htake))
end
section
variable {X : Cx} {Wx : WX} {pos p2 : Pos}
def tRvT (K : PySem.W.Frag) (te ts : TE) : TE := fun σ H Q => te σ H fun x H1 => tPart ts σ H1 fun o H' => o = some (-1) ∧ ∃ a xs, x = .ref a ∧ SqT K H' a xs ∧ ∀ p, H' p = none → Q (.ref p) (upd H' p (.tup xs.reverse))
theorem pe_revT {e se : Expr} {te ts : TE} (he : PE X e te) (hs : PE X se ts) : PE X (.Subscript e (.Slice none none (some se) p2) pos) (tRvT X.K te ts) := by
  refine ⟨fun pins s σ H Q I h => ?_⟩
  refine Subscript_ (thn (he.run pins s σ H _ I h) fun v s1 ⟨x, H1, I1, r1, q1⟩ => ?_)
  refine wpAny_Slice (thn ((po_none (X := X)).run pins s1 σ H1 (fun o H' => o = none ∧ H' = H1) I1 ⟨rfl, rfl⟩) fun vl s2 ⟨l, H2, I2, pl, el, eH⟩ => thn ((po_none (X := X)).run pins s2 σ H2 (fun o H' => o = none ∧ H' = H2) I2 ⟨rfl, rfl⟩) fun vu s3 ⟨u, H3, I3, pu, eu, eH3⟩ => ?_)
  subst el eH eu eH3
  cases pl
  cases pu
  refine thn ((po_some hs).run pins s3 σ H3 _ I3 q1) fun vs s4 ⟨o, H4, I4, po, eo, a, xs, ex, ht, q4⟩ => ?_
  subst eo ex
  cases r1
  cases po with
  | int i t =>
    have I5 : Inv X pins σ H4 { s4 with heap := s4.heap.push { cls := .type "slice", data := .fields #[.none, .none, .int (-1) t] } } := I4.kept (t' := s4.toks) fun b ob q => Heap.get?_push_of_some _ q
    obtain ⟨its, r, hit, hz⟩ := I5.tuple ht
    have hsz : its.toArray.size ≤ sizeLine := by
      rw [List.size_toArray, ← r.length]
      exact hz
    show wpAny (model X.prog X.w) X.A (subscriptTail e (.Slice none none (some se) p2) (.ref a) (.ref s4.heap.objs.size)) (EP X pins σ Q) X.xe { s4 with heap := s4.heap.push { cls := .type "slice", data := .fields #[.none, .none, .int (-1) t] } }
    refine tail_any (ops := [.ref a, .ref s4.heap.objs.size]) hit.typeIs PyProof.Rows.slot_tuple_getitem.lookup (getItem_tuple_rev hit (Heap.IsSliceOf.new ..) ?_ hsz) (by with_unfolding_all rfl)
    refine ⟨.ref _, _, I5.laid (t' := s4.toks) (o := .tup xs.reverse) (fun b ob q => Heap.get?_push_of_some _ q) (Nat.le_refl _) ?_, rfl, q4 _ (I5.hok.fresh (Nat.le_refl _))⟩
    exact ⟨by rw [List.length_reverse]; exact hz, _, r.reverse, IsTup.new _ _⟩
/-- t[::-1] -/
def wRvT (we ws : WE) : WE := fun δ L Q => we δ L fun x L1 => ws δ L1 fun y L2 => match x with
  | .da (.tuple ds) => y = .da (.int (-1)) ∧ Q (.da (.tuple ds.reverse)) L2
  | _ => False
theorem xe_revT {e se : Expr} {we ws : WE} (he : XE X e we) (hs : XE X se ws) : XE X (.Subscript e (.Slice none none (some se) p2) pos) (wRvT we ws) :=
  pe_imp (pe_revT he hs) fun σ H Q ⟨S, H0, δ, L, Qd, g, rs, hw, k⟩ => ⟨S, H0, δ, L, _, g, rs, hw, fun x L1 v H1 q1 g1 t1 rv => ⟨S, H0, δ, L1, _, g1, rs.tx t1, q1, fun y L2 u H2 q2 g2 t2 ru => by
    split at q2
    · rename_i ds
      obtain ⟨rfl, q⟩ := q2
      cases (ru : u = .int (-1))
      obtain ⟨a, xs, rfl, ht, r⟩ := rv.tx t2
      refine ⟨-1, rfl, rfl, a, xs, rfl, ht, fun p hp => ?_⟩
      have ex := Ext.new (o := .tup xs.reverse) hp
      exact k _ L2 _ _ q (g2.ext ex) ((t1.trans t2).trans ex.tx) ⟨p, xs.reverse, rfl, SqT.of upd_same, RpL.tx ex.tx _ _ r.reverse⟩
    · exact q2.elim⟩⟩
/-! ### xs.extend(t) -/
def rExtT (K : PySem.W.Frag) : V → List V → Hp → VK → Prop := fun x vs H Q => ∃ l b xs zs, x = .ref l ∧ vs = [.ref b] ∧ H l = some (.lst xs) ∧ SqT K H b zs ∧ xs.length + zs.length ≤ sizeLine ∧ Q .non (upd H l (.lst (xs ++ zs)))
set_option maxRecDepth 8000 in
theorem ext_tup (l : Addr) (items : Array Value) (n : Nat) (b : Addr) (items2 : Array Value) (n2 : Nat) (db : Option Addr) (sb : Array (Option Value)) (hs0 : ¬(!items.isEmpty && Builtin.List.listTooLong (items.size + items2.size)) = true) (hs1 : items.size ≤ sizeLine) (hs2 : items.size + items2.size ≤ sizeLine + 1) :
    Meets (Builtin.«list.extend» ⟨[.ref l, .ref b], []⟩) (fun _ R s => s.heap.get? l = some { cls := .type "list", dict := none, data := .seq items n, slots := #[] } ∧ s.heap.get? b = some { cls := .type "tuple", dict := db, data := .seq items2 n2, slots := sb } ∧ R (.ok (.ret Value.none)) { s with heap := s.heap.update l (Obj.mapSeq fun x => x ++ items2), toks := s.toks }) :=
  .of_wp fun prog w A R s h => by
    obtain ⟨hp, g, d, tk, os⟩ := s; obtain ⟨hl, hb, h⟩ := h; have f1 := PySem.AutoSeq1.idx_int; have f2 := PySem.AutoSeq1.sub_tuple_tuple; have f3 := PySem.AutoSeq1.sub_list_list; have f4 := PySem.AutoSeq1.sub_tuple_list; have f5 := PySem.AutoSeq1.sub_list_tuple;
    have hz' : (items ++ items2).size ≤ sizeLine + 1 := by rw [Array.size_append]; exact hs2
    wp_walk using (wpAny_updateSeq hl rfl (hz := hs1) (_hz' := hz')), wpAny_loadPart' hl, wpAny_loadPart' hb; exact ⟨_, rfl, h⟩
theorem mt_extT : MtM X "list.extend" (rExtT X.K) := by
  intro pins s σ H x vs v us Q I rx rv h
  obtain ⟨l, b, xs, zs, rfl, rfl, hH, hB, hz, q⟩ := h
  cases rx
  obtain ⟨u, rfl, ru⟩ := rv.one
  cases ru
  obtain ⟨z, its, n, r, hl, e⟩ := I.lstM hH
  obtain ⟨its2, r2, ⟨⟨cls2, db, data2, sb⟩, e2, hc2, n2, hd2⟩, hl2⟩ := I.tuple hB
  simp only at hc2 hd2
  subst hc2 hd2
  have e1l := r.length
  have e2l := r2.length
  have hsz : its.toArray.size + its2.toArray.size ≤ sizeLine := by rw [List.size_toArray, List.size_toArray]; omega
  have hlong : ¬ (!its.toArray.isEmpty && Builtin.List.listTooLong (its.toArray.size + its2.toArray.size)) = true := by
    rw [notLongL hsz, Bool.and_false]
    exact Bool.false_ne_true
  refine call_meets F.slot_list_extend ⟨_, e, rfl⟩ F.entry_list_extend (F.args_list_extend_2 _ _)
    (ext_tup l its.toArray n b its2.toArray n2 db sb hlong (by rw [List.size_toArray]; omega) (by omega)) ⟨e, e2, ?_⟩
  refine ⟨.non, _, I.lset (its' := its ++ its2) hH e (by simp) (r.append r2) ?_, rfl, q⟩
  rw [List.length_append]
  omega
def wExt (wo we : WE) : WE := fun δ L Q => wo δ L fun x L1 => match x with
  | .rf p => (∃ (k : Nat) (xs0 : List SV), L1[k]? = some (p, .lst xs0)) ∧ we δ L1 fun y L2 => match y with
    | .da (.tuple ds) => ∃ (k : Nat) (xs : List SV), L2[k]? = some (p, .lst xs) ∧ xs.length + ds.length ≤ sizeLine ∧ Q (.da .none) (L2.set k (p, .lst (xs ++ ds.map SV.da)))
    | _ => False
  | _ => False
theorem xe_extend {o e : Expr} {wo we : WE} {apos : Pos} (ho : XE X o wo) (he : XE X e we) (hbase : attributeBase o "extend" X.env (eval o X.env) = eval o X.env := by rfl)
    (hfew : ((backTo pos (starEach [e] X.env)).all (fun x => !x.1) && (backToKw pos (keywordEach [] X.env)).all (fun x => x.1.isSome)
      && decide (([e] : List Expr).length + ([] : List Keyword).length + (if ([] : List Keyword).isEmpty then 0 else 1) < 30)) = true := by rfl)
    (hline : (apos.endLine == pos.line) = true := by rfl) (hs : starEach [e] X.env = (false, eval e X.env) :: starEach [] X.env := by rfl) : XE X (.Call (.Attribute o "extend" apos) [e] [] pos) (wExt wo we) :=
  pe_imp (pe_bm PySem.F.plainAttrs_list PySem.F.slot_list_extend PySem.F.type_list_extend mt_extT ho (pa_cons he pa_nil hs) hbase hfew hline hs) fun σ H Q ⟨S, H0, δ, L, Qd, g, rs, hw, k⟩ => ⟨S, H0, δ, L, _, g, rs, hw, fun x L1 v H1 q1 g1 t1 rv => by
    split at q1
    · rename_i p
      obtain ⟨⟨m, xs0, hm⟩, q⟩ := q1
      cases (rv : v = .ref p)
      obtain ⟨vs0, hv0, _⟩ := g1.at hm
      refine ⟨.inl ⟨rfl, _, .inl (.inl hv0)⟩, S, H0, δ, L1, _, g1, rs.tx t1, q, fun y L2 u H2 q2 g2 t2 ru => ?_⟩
      split at q2
      · rename_i ds
        obtain ⟨j, xs, hx, hl, q3⟩ := q2
        obtain ⟨b, zs, rfl, ht, rz⟩ := ru
        obtain ⟨vs, hv, r⟩ := g2.at hx
        obtain ⟨g3, t3⟩ := g2.put (o' := .lst (xs ++ ds.map SV.da)) (u := .lst (vs ++ zs)) hx rfl rfl rfl fun t => ⟨_, upd_same, (RpVs.append r (RpVs.das.mpr rz)).tx t⟩
        exact ⟨p, b, vs, zs, rfl, rfl, hv, ht, by rw [r.length, rz.length]; exact hl, k _ _ _ _ q3 g3 ((t1.trans t2).trans t3) rfl⟩
      · exact q2.elim
    · exact q1.elim⟩
/-! ### a op b op c -/
def wChain (w w' : W2) (wa wb wc : WE) : WE := fun δ L Q => wa δ L fun x L1 => wb δ L1 fun y L2 => w x y L2 fun z L3 => asB z L3 fun k L4 => if k = true then wc δ L4 fun u L5 => w' y u L5 Q else Q (.da (.bool false)) L4
theorem chain_core {r r' : R2} {w w' : W2} {wa wb wc : WE} {K : PySem.W.Frag} (hd : DOp K r w) (hd' : DOp K r' w') (σ : L2.St) (H : Hp) (Q : VK) (h : canE K (wChain w w' wa wb wc) σ H Q) : tChain r r' (canE K wa) (canE K wb) (canE K wc) σ H Q := by
  obtain ⟨S, H0, δ, L, Qd, g, rs, hw, k⟩ := h
  refine ⟨S, H0, δ, L, _, g, rs, hw, fun x L1 v H1 q1 g1 t1 rv => ⟨S, H0, δ, L1, _, g1, rs.tx t1, q1, fun y L2 u H2 q2 g2 t2 ru => ?_⟩⟩
  refine hd S H0 L2 H2 x y v u _ _ g2 (rv.tx t2) ru q2 fun z L3 z' H3 q3 g3 t3 rz => ?_
  obtain ⟨b, rfl, _, q⟩ := asB_of rz q3
  refine ⟨b, rfl, ?_⟩
  cases b with
  | false =>
    rw [if_neg Bool.false_ne_true] at q ⊢
    exact k _ L3 _ H3 q g3 ((t1.trans t2).trans t3) rfl
  | true =>
    rw [if_pos rfl] at q ⊢
    exact ⟨S, H0, δ, L3, _, g3, ((rs.tx t1).tx t2).tx t3, q, fun c L4 cv H4 q4 g4 t4 rc => hd' S H0 L4 H4 y c u cv _ _ g4 ((ru.tx t3).tx t4) rc q4 fun z2 L5 zv H5 q5 g5 t5 rz2 => k z2 L5 zv H5 q5 g5 ((((t1.trans t2).trans t3).trans t4).trans t5) rz2⟩
theorem xe_chain {a b c : Expr} {wa wb wc : WE} {op op' : CmpOp} {w w' : W2} (ho : DOpR X (compareOp op) w) (ho' : DOpR X (compareOp op') w') (ha : XE X a wa) (hb : XE X b wb) (hc : XE X c wc) (hm : lastMarks [op, op'] [b, c] = false := by with_unfolding_all rfl) :
    XE X (.Compare a [op, op'] [b, c] pos) (wChain w w' wa wb wc) := by
  obtain ⟨r, o, d⟩ := ho
  obtain ⟨r', o', d'⟩ := ho'
  exact pe_imp (pe_chain o o' ha hb hc hm) (chain_core d d')
theorem xt_chain {a b c : Expr} {wa wb wc : WE} {op op' : CmpOp} {w w' : W2} (ho : DOpR X (compareOp op) w) (ho' : DOpR X (compareOp op') w') (ha : XE X a wa) (hb : XE X b wb) (hc : XE X c wc) (hm : lastMarks [op, op'] [b, c] = false := by with_unfolding_all rfl) :
    XT X (.Compare a [op, op'] [b, c] pos) (wTest (wChain w w' wa wb wc)) := by
  obtain ⟨r, o, d⟩ := ho
  obtain ⟨r', o', d'⟩ := ho'
  refine pt_imp (pt_chain o o' ha hb hc hm) fun σ H Q ⟨S, H0, δ, L, Qd, g, rs, hw, k⟩ => ?_
  refine chain_core d d' σ H _ ⟨S, H0, δ, L, _, g, rs, hw, fun x L1 v H1 q1 g1 t1 rv => ?_⟩
  obtain ⟨b, rfl, _, q⟩ := asB_of rv q1
  exact ⟨b, rfl, k b L1 H1 q g1 t1⟩
/-! ### list(range(..)) -/
def rgS (a b : Int) : List SV := tab (b - a).toNat fun i => .da (.int (a + (i : Nat)))
theorem rgS_of {K : PySem.W.Frag} {H : Hp} {a b : Int} : RpVs K H (rgS a b) (rgV a b) := by
  have h : ∀ l : List Nat, RpVs K H (l.map fun i => SV.da (.int (a + (i : Nat)))) (l.map fun i => V.int (a + (i : Nat))) := fun l => by
    induction l with
    | nil => rfl
    | cons x l ih => exact ⟨_, _, rfl, rfl, ih⟩
  exact h _
def wListRg1 (wa : WE) : WE := fun δ L Q => wa δ L fun x L1 => match x with
  | .da (.int j) => RgOk 0 j ∧ ∀ q, Q (.rf q) (L1 ++ [(q, .lst (rgS 0 j))])
  | _ => False
def wListRg2 (wa wb : WE) : WE := fun δ L Q => wa δ L fun x L1 => wb δ L1 fun y L2 => match x, y with
  | .da (.int i), .da (.int j) => RgOk i j ∧ ∀ q, Q (.rf q) (L2 ++ [(q, .lst (rgS i j))])
  | _, _ => False
theorem xe_listRg1 {a : Expr} {wa : WE} {p p2 pos2 : Pos} (hc : X.calm = true) (hg : Gl X "list") (hm : X.mg "list" = none) (hg2 : Gl X "range") (hm2 : X.mg "range" = none) (ha : XE X a wa) (na : starEach [a] X.env = (false, eval a X.env) :: starEach [] X.env := by rfl)
    (nr : starEach [.Call (.Name "range" p2) [a] [] pos2] X.env = (false, eval (.Call (.Name "range" p2) [a] [] pos2) X.env) :: starEach [] X.env := by rfl) : XE X (.Call (.Name "list" p) [.Call (.Name "range" p2) [a] [] pos2] [] pos) (wListRg1 wa) :=
  pe_imp (pe_listRg hc hg hm (prg_1 hg2 hm2 ha na) nr) fun σ H Q ⟨S, H0, δ, L, Qd, g, rs, hw, k⟩ => ⟨S, H0, δ, L, _, g, rs, hw, fun x L1 v H1 q1 g1 t1 rv => by
    split at q1
    · rename_i j
      cases (rv : v = .int j)
      obtain ⟨ok, q⟩ := q1
      exact ⟨j, rfl, ok, fun l hl => k _ _ _ _ (q l) (sg_lst g1 hl rgS_of) (t1.trans (Ext.new hl).tx) rfl⟩
    · exact q1.elim⟩
theorem xe_listRg2 {a b : Expr} {wa wb : WE} {p p2 pos2 : Pos} (hc : X.calm = true) (hg : Gl X "list") (hm : X.mg "list" = none) (hg2 : Gl X "range") (hm2 : X.mg "range" = none) (ha : XE X a wa) (hb : XE X b wb) (na : starEach [a, b] X.env = (false, eval a X.env) :: starEach [b] X.env := by rfl)
    (nb : starEach [b] X.env = (false, eval b X.env) :: starEach [] X.env := by rfl) (hp : (backTo pos2 (starEach [b] X.env)).any (·.1) = false := by rfl)
    (nr : starEach [.Call (.Name "range" p2) [a, b] [] pos2] X.env = (false, eval (.Call (.Name "range" p2) [a, b] [] pos2) X.env) :: starEach [] X.env := by rfl) : XE X (.Call (.Name "list" p) [.Call (.Name "range" p2) [a, b] [] pos2] [] pos) (wListRg2 wa wb) :=
  pe_imp (pe_listRg hc hg hm (prg_2 hg2 hm2 ha hb na nb hp) nr) fun σ H Q ⟨S, H0, δ, L, Qd, g, rs, hw, k⟩ => ⟨S, H0, δ, L, _, g, rs, hw, fun x L1 v H1 q1 g1 t1 rv => ⟨S, H0, δ, L1, _, g1, rs.tx t1, q1, fun y L2 u H2 q2 g2 t2 ru => by
    split at q2
    · rename_i i j
      cases (rv : v = .int i)
      cases (ru : u = .int j)
      obtain ⟨ok, q⟩ := q2
      exact ⟨i, j, rfl, rfl, ok, fun l hl => k _ _ _ _ (q l) (sg_lst g2 hl rgS_of) ((t1.trans t2).trans (Ext.new hl).tx) rfl⟩
    · exact q2.elim⟩⟩
end
end Pd
namespace My
open PySem PySem.Spec PyProof.Rows L2 Pd
def topS (i : Nat) : Stmt := PySem.Challenge.pw_inkworks_k51_booklets.main.body.getD i (.Pass ⟨0, 0, 0, 0⟩)
def si_PressError : Stmt := match topS 2 with
  | .ClassDef _ _ _ b _ _ _ _ _ _ _ => b.getD 0 (.Pass ⟨0, 0, 0, 0⟩)
  | s => s
abbrev s_booklet : Stmt := topS 6
theorem sc_booklet : FnScope ["n", "many", "sheets", "s", "pages", "page"] ["n"] (defScope s_booklet) := ⟨rfl, rfl, rfl, by decide +kernel, rfl, by decide +kernel, by decide +kernel⟩
abbrev s_read_through : Stmt := topS 7
theorem sc_read_through : FnScope ["sheets", "found", "sheet"] ["sheets"] (defScope s_read_through) := ⟨rfl, rfl, rfl, by decide +kernel, rfl, by decide +kernel, by decide +kernel⟩
abbrev s_law_draws : Stmt := topS 9
theorem sc_law_draws : FnScope ["script", "count", "cells", "found", "mixed", "k", "j", "cell", "again"] ["script", "count"] (defScope s_law_draws) := ⟨rfl, rfl, rfl, by decide +kernel, rfl, by decide +kernel, by decide +kernel⟩
abbrev s_law_take : Stmt := topS 10
theorem sc_law_take : FnScope ["draws", "limit"] ["draws", "limit"] (defScope s_law_take) := ⟨rfl, rfl, rfl, by decide +kernel, rfl, by decide +kernel, by decide +kernel⟩
abbrev s_law_same : Stmt := topS 11
theorem sc_law_same : FnScope ["found", "due", "k"] ["found", "due"] (defScope s_law_same) := ⟨rfl, rfl, rfl, by decide +kernel, rfl, by decide +kernel, by decide +kernel⟩
abbrev s_law_sheets : Stmt := topS 12
theorem sc_law_sheets : FnScope ["n", "many", "found", "s", "pages", "page"] ["n"] (defScope s_law_sheets) := ⟨rfl, rfl, rfl, by decide +kernel, rfl, by decide +kernel, by decide +kernel⟩
abbrev s_law_read : Stmt := topS 13
theorem sc_law_read : FnScope ["sheets", "ahead", "behind", "left", "right", "back", "last"] ["sheets"] (defScope s_law_read) := ⟨rfl, rfl, rfl, by decide +kernel, rfl, by decide +kernel, by decide +kernel⟩
abbrev s_law : Stmt := topS 14
theorem sc_law : FnScope ["script", "draws", "n", "found", "pages", "e", "sheets", "k", "s"] ["script"] (defScope s_law) := ⟨rfl, rfl, rfl, by decide +kernel, rfl, by decide +kernel, by decide +kernel⟩
/-- where the module's own things stand -/
structure Tp (K : PySem.W.Frag) (mg : Str → Option Value) where
  a_booklet : Addr
  d_booklet : FuncData
  F_booklet : Fun K "booklet" "booklet" s_booklet a_booklet d_booklet
  b_booklet : Binds K d_booklet ["n"] []
  g_booklet : mg "booklet" = some (.ref a_booklet)
  a_read_through : Addr
  d_read_through : FuncData
  F_read_through : Fun K "read_through" "read_through" s_read_through a_read_through d_read_through
  b_read_through : Binds K d_read_through ["sheets"] []
  g_read_through : mg "read_through" = some (.ref a_read_through)
  a_law_draws : Addr
  d_law_draws : FuncData
  F_law_draws : Fun K "_law_draws" "_law_draws" s_law_draws a_law_draws d_law_draws
  b_law_draws : Binds K d_law_draws ["script", "count"] []
  g_law_draws : mg "_law_draws" = some (.ref a_law_draws)
  a_law_take : Addr
  d_law_take : FuncData
  F_law_take : Fun K "_law_take" "_law_take" s_law_take a_law_take d_law_take
  b_law_take : Binds K d_law_take ["draws", "limit"] []
  g_law_take : mg "_law_take" = some (.ref a_law_take)
  a_law_same : Addr
  d_law_same : FuncData
  F_law_same : Fun K "_law_same" "_law_same" s_law_same a_law_same d_law_same
  b_law_same : Binds K d_law_same ["found", "due"] []
  g_law_same : mg "_law_same" = some (.ref a_law_same)
  a_law_sheets : Addr
  d_law_sheets : FuncData
  F_law_sheets : Fun K "_law_sheets" "_law_sheets" s_law_sheets a_law_sheets d_law_sheets
  b_law_sheets : Binds K d_law_sheets ["n"] []
  g_law_sheets : mg "_law_sheets" = some (.ref a_law_sheets)
  a_law_read : Addr
  d_law_read : FuncData
  F_law_read : Fun K "_law_read" "_law_read" s_law_read a_law_read d_law_read
  b_law_read : Binds K d_law_read ["sheets"] []
  g_law_read : mg "_law_read" = some (.ref a_law_read)
  a_law : Addr
  d_law : FuncData
  F_law : Fun K "law" "law" s_law a_law d_law
  b_law : Binds K d_law ["script"] []
  g_law : mg "law" = some (.ref a_law)
  c_PressError : Addr
  gc_PressError : mg "PressError" = some (.ref c_PressError)
  f_PressError : Addr
  fd_PressError : FuncData
  cc_PressError : Addr
  bi_PressError : Binds K fd_PressError ["self", "code"] []
  ex_PressError : PySem.W.exmOne K (.ref c_PressError) (.ref c_PressError) = some true
  xf_PressError : XfC K c_PressError
  no_PressError : PySem.W.findIn K (.ref c_PressError) "code" = some none
  n_all : mg "all" = none
  n_bool : mg "bool" = none
  n_int : mg "int" = none
  n_isinstance : mg "isinstance" = none
  n_len : mg "len" = none
  n_list : mg "list" = none
  n_range : mg "range" = none
  n_str : mg "str" = none
  n_tuple : mg "tuple" = none
  c_MOST_PAGES : ∃ t, mg "MOST_PAGES" = some (.int 200 t)
  c_ON_A_SHEET : ∃ t, mg "ON_A_SHEET" = some (.int 4 t)
end My
namespace My
open PySem PySem.Spec PyProof.Rows L2 Pd
def pg (n p : Int) : Int := if p ≤ n then p else 0
abbrev F4 := Nat → Int × Int × Int × Int
def shD (q : Int × Int × Int × Int) : PyData := .tuple [.int q.1, .int q.2.1, .int q.2.2.1, .int q.2.2.2]
def shs (k : Nat) (f : F4) : PyData := .tuple (tab k fun s => shD (f s))
def sheetF (n m : Int) : F4 := fun s => (pg n (m - 2 * s), pg n (2 * s + 1), pg n (2 * s + 2), pg n (m - 2 * s - 1))
def mny (n : Int) : Int := -((-n).fdiv 4) * 4
theorem mny_eq {n : Int} : mny n = n + (if 0 < n % 4 then 4 - n % 4 else 0) := by
  unfold mny
  rw [Int.fdiv_eq_ediv_of_nonneg _ (by decide)]
  split <;> omega
theorem mny_4 {n : Int} : ∃ k : Int, mny n = 4 * k := ⟨-((-n).fdiv 4), by unfold mny; rw [Int.mul_comm]⟩
section
variable {P : Program} {w : World} {K : PySem.W.Frag} {mg : Str → Option Value} {base : Heap}
def sp_booklet (c : Addr) : DSpX := fun xs L Q E => ∃ n : Int, xs = [.da (.int n)] ∧ L = [] ∧
  (1 ≤ n ∧ n ≤ 200 → Q (.da (shs (mny n / 4).toNat (sheetF n (mny n)))) []) ∧ (¬ (1 ≤ n ∧ n ≤ 200) → E (.ref c) [("code", .da (.str "size"))] [])
theorem sz_small {x : Int} (h : x.natAbs < 2 ^ 20) : Sz 20 x := h
theorem rows_of {wg : WG} {we : WE} {δ : List SV} {own : List Nat} {Q : SV → LS → Prop} {L1 : LS} {n a b c d : Int} {G : LS → Prop} (hG : ∀ (Da : Addr) (acc : List SV), G (L1 ++ [(Da, .lst acc)]))
    (hs : ∀ (p : Int) (L' : LS) (Q' : SV → LS → Prop), Q' (.da (.int (pg n p))) L' → wg (.da (.int p)) (wipeE δ own) L' fun δ2 => we δ2 L' Q')
    (hQ : ∀ Da, Q (.rf Da) (L1 ++ [(Da, .lst [.da (.int (pg n a)), .da (.int (pg n b)), .da (.int (pg n c)), .da (.int (pg n d))])])) :
    LcB wg wYes we own δ Q 4 (fun i => .da (([.int a, .int b, .int c, .int d] : List PyData).getD i .none)) G L1 := by
  refine lc_mapL (fun i => .da (.int (pg n (([a, b, c, d] : List Int).getD i 0)))) (by decide) hG ?_ fun Da => hQ Da
  intro i hi Da acc Q' hq
  match i, hi with
  | 0, _ => exact hs a _ _ hq
  | 1, _ => exact hs b _ _ hq
  | 2, _ => exact hs c _ _ hq
  | 3, _ => exact hs d _ _ hq
theorem ok_booklet (T : Tp K mg) (IC_PressError : InitC P K T.c_PressError T.f_PressError "PressError.__init__" si_PressError T.fd_PressError T.cc_PressError) (GC_PressError : FnOk P w K mg base CX0 1 T.f_PressError T.fd_PressError ["self", "code"] (spInit K T.c_PressError)) : FnOk P w K mg base (L2.CX P w) 3 T.a_booklet T.d_booklet ["n"] (spDX K (sp_booklet T.c_PressError)) := by
  refine fn_dataX T.F_booklet sc_booklet (by intro xs L Q E h; repeat (first | (obtain ⟨rfl, _⟩ := h; rfl) | (obtain ⟨_, h⟩ := h))) (fun cdv A outer s H E hr => ⟨_, (xss_cons (xs_if (xt_not (xt_chain o_le o_le xe_int (xv 0) (xe_gint (by rfl) T.c_MOST_PAGES))) (xss_one (xs_raise IC_PressError GC_PressError hr T.bi_PressError (by rfl) T.gc_PressError (xa_cons xe_str xa_nil) (takes_of rfl rfl rfl rfl) rfl)) xss_nil)
      (xss_cut (xs_set (i := 1) sc_booklet.nd rfl (.inl rfl) (xe_op o_mul (xe_neg (xe_op o_div (xe_neg (xv 0)) (xe_gint (by rfl) T.c_ON_A_SHEET))) (xe_gint (by rfl) T.c_ON_A_SHEET)))
      (xss_cons (xs_set (i := 2) sc_booklet.nd rfl (.inl rfl) (xe_lst xa_nil))
      (xss_cons (xs_for (passes_of rfl) rfl (xi_range1 (by rfl) T.n_range (xa_cons (xe_op o_div (xv 1) (xe_gint (by rfl) T.c_ON_A_SHEET)) xa_nil)) (xg_name (i := 3) sc_booklet.nd rfl (.inl rfl)) (xss_cons (xs_set (i := 4) sc_booklet.nd rfl (.inl rfl) (xe_tup (xa_cons (xe_op o_sub (xv 1) (xe_op o_mul xe_int (xv 3))) (xa_cons (xe_op o_add (xe_op o_mul xe_int (xv 3)) xe_int) (xa_cons (xe_op o_add (xe_op o_mul xe_int (xv 3)) xe_int) (xa_cons (xe_op o_sub (xe_op o_sub (xv 1) (xe_op o_mul xe_int (xv 3))) xe_int) xa_nil))))))
      (xss_one (xs_expr (xe_append (xv 2) (xe_callTy b_tuple (by rfl) T.n_tuple bt_tuple (xa_cons (xe_lc (own := [("page", 5)]) rfl sc_booklet.nd (xi_tup (xv 4)) (blkOk_by (N := ["n", "many", "sheets", "s", "pages", "page"]) (sc := defScope s_booklet) (by decide +kernel)) (by decide) (fun _ _ _ _ _ => (xg_name (i := 5) sc_booklet.nd rfl (.inl rfl))) (fun _ _ _ _ _ => xts_nil) (fun _ _ _ _ _ => (xe_ifExp (xt_cmp o_le (xv 5) (xv 0) (nomark _)) (xv 5) xe_int))) xa_nil)))))))
      (xss_one (xs_retD (xe_callTy b_tuple (by rfl) T.n_tuple bt_tuple (xa_cons (xv 2) xa_nil)))))))), fun xs L Q Ed h => ?_⟩)
  obtain ⟨n, rfl, rfl, q, qe⟩ := h
  have raise : ¬ (1 ≤ n ∧ n ≤ 200) → Ed (.ref T.c_PressError) [("code", .da (.str "size"))] [] := qe
  refine ite2 (fun h1 => ?_) (fun h1 => ?_)
  · have h1 : (1 : Int) ≤ n := t_of h1
    refine ite2 (fun h2 => ?_) (fun h2 => ?_)
    · have h2 : ¬ n ≤ 200 := by simpa using h2
      exact raise fun z => h2 z.2
    · have h2 : n ≤ 200 := by simpa using h2
      have q := q ⟨h1, h2⟩
      have em := mny_eq (n := n)
      have m0 : 0 ≤ mny n ∧ mny n ≤ 204 := by
        rw [em]
        split <;> omega
      have sm : Sz 20 (-((-n).fdiv 4)) := by
        rw [Int.fdiv_eq_ediv_of_nonneg _ (by decide)]
        exact sz_small (by omega)
      have s4 : Sz 20 4 := sz_small (by decide)
      have s2 : Sz 20 2 := sz_small (by decide)
      refine ⟨fun δ' L' => δ' = [.da (.int n), .da (.int (mny n)), .un, .un, .un, .un] ∧ L' = [], ⟨⟨by decide, by decide⟩, sm.cmul s4, rfl, rfl⟩, ?_⟩
      rintro _ _ ⟨rfl, rfl⟩
      intro pq
      have ed : (mny n).fdiv 4 = mny n / 4 := Int.fdiv_eq_ediv_of_nonneg _ (by decide)
      rw [← ed] at q
      refine ⟨⟨by decide, by decide⟩, ⟨by omega, by omega⟩, fun i δ' L' => ∃ (xs : List SV) (G : LS) (a b c : SV), (tab i fun s => .da (shD (sheetF n (mny n) s))) = xs ∧ δ' = [.da (.int n), .da (.int (mny n)), .rf pq, a, b, c] ∧ L' = (pq, DO.lst xs) :: G, ⟨[], [], .un, .un, .un, rfl, rfl, rfl⟩, fun _ _ _ _ _ => trivial, ?_, ?_⟩
      · rintro i _ _ hi ⟨_, G, a, b, c, rfl, rfl, rfl⟩
        have hi : i < ((mny n).fdiv 4).toNat := hi
        have cm : CMulW 2 (i : Int) := s2.cmul (sz_small (by omega))
        refine ⟨cm, cm, cm, cm, 0, _, rfl, ?_⟩
        refine rows_of (n := n) (fun _ _ => trivial) (fun p L' Q' hq => ?_) fun Da => ?_
        · unfold pg at hq
          refine ite2 (fun h => ?_) (fun h => ?_)
          · rw [if_pos (t_of h)] at hq
            exact hq
          · rw [if_neg (f_of h)] at hq
            exact hq
        · refine ⟨_, _, _, _, List.getElem?_concat_length, rfl, rfl, _, rfl, ?_, _, _, _, _, _, tab_succ i _, rfl, rfl⟩
          · rw [tab_len]
            exact small1000 (by omega)
      · rintro _ _ ⟨_, G, a, b, c, rfl, rfl, rfl⟩
        exact ⟨0, _, _, _, rfl, rfl, das_tab _ _, [], _, rfl, q⟩
  · have h1 : ¬ (1 : Int) ≤ n := f_of h1
    exact raise fun z => h1 z.1
def sp_law_sheets : DSp := fun xs L Q => ∃ n : Int, xs = [.da (.int n)] ∧ L = [] ∧ (1 ≤ n ∧ n ≤ 200) ∧ Q (.da (shs (mny n / 4).toNat (sheetF n (mny n)))) []
theorem ok_law_sheets (T : Tp K mg) : FnOk P w K mg base CX0 1 T.a_law_sheets T.d_law_sheets ["n"] (spD K sp_law_sheets) := by
  refine fn_data T.F_law_sheets sc_law_sheets (by intro xs L Q h; repeat (first | (obtain ⟨rfl, _⟩ := h; rfl) | (obtain ⟨_, h⟩ := h))) (fun cdv A outer s H E hr => ⟨_, (xss_cut (xs_set (i := 1) sc_law_sheets.nd rfl (.inl rfl) (xe_op o_add (xv 0) (xe_ifExp (xt_cmp o_gt (xe_op o_mod (xe_callTy b_int (by rfl) T.n_int bt_int (xa_cons (xv 0) xa_nil)) xe_int) xe_int (nomark _)) (xe_op o_sub xe_int (xe_op o_mod (xe_callTy b_int (by rfl) T.n_int bt_int (xa_cons (xv 0) xa_nil)) xe_int)) xe_int)))
      (xss_cons (xs_set (i := 2) sc_law_sheets.nd rfl (.inl rfl) (xe_lst xa_nil))
      (xss_cons (xs_for PassesOwn.never rfl (xi_range1 (by rfl) T.n_range (xa_cons (xe_op o_div (xv 1) xe_int) xa_nil)) (xg_name (i := 3) sc_law_sheets.nd rfl (.inl rfl)) (xss_cons (xs_set (i := 4) sc_law_sheets.nd rfl (.inl rfl) (xe_tup (xa_cons (xe_op o_sub (xv 1) (xe_op o_mul xe_int (xv 3))) (xa_cons (xe_op o_add (xe_op o_mul xe_int (xv 3)) xe_int) (xa_cons (xe_op o_add (xe_op o_mul xe_int (xv 3)) xe_int) (xa_cons (xe_op o_sub (xe_op o_sub (xv 1) (xe_op o_mul xe_int (xv 3))) xe_int) xa_nil))))))
      (xss_one (xs_expr (xe_append (xv 2) (xe_callTy b_tuple (by rfl) T.n_tuple bt_tuple (xa_cons (xe_lc (own := [("page", 5)]) rfl sc_law_sheets.nd (xi_tup (xv 4)) (blkOk_by (N := ["n", "many", "found", "s", "pages", "page"]) (sc := defScope s_law_sheets) (by decide +kernel)) (by decide) (fun _ _ _ _ _ => (xg_name (i := 5) sc_law_sheets.nd rfl (.inl rfl))) (fun _ _ _ _ _ => xts_nil) (fun _ _ _ _ _ => (xe_ifExp (xt_cmp o_le (xv 5) (xv 0) (nomark _)) (xv 5) xe_int))) xa_nil)))))))
      (xss_one (xs_retD (xe_callTy b_tuple (by rfl) T.n_tuple bt_tuple (xa_cons (xv 2) xa_nil))))))), fun xs L Q h => ?_⟩)
  obtain ⟨n, rfl, rfl, ⟨h1, h2⟩, q⟩ := h
  have em := mny_eq (n := n)
  have m0 : 0 ≤ mny n ∧ mny n ≤ 204 := by
    rw [em]
    split <;> omega
  have s2 : Sz 20 2 := sz_small (by decide)
  have p4 : (0 : Int) < 4 := by decide
  refine ⟨fun δ' L' => δ' = [.da (.int n), .da (.int (mny n)), .un, .un, .un, .un] ∧ L' = [], ⟨p4, ite2 (fun h => ?_) (fun h => ?_)⟩, ?_⟩
  · rw [if_pos (t_of h)] at em
    refine ⟨p4, ?_, rfl⟩
    rw [em]
    rfl
  · rw [if_neg (f_of h)] at em
    refine ⟨?_, rfl⟩
    rw [em]
    rfl
  rintro _ _ ⟨rfl, rfl⟩
  intro pq
  have ed : (mny n).fdiv 4 = mny n / 4 := Int.fdiv_eq_ediv_of_nonneg _ (by decide)
  rw [← ed] at q
  refine ⟨⟨by decide, by decide⟩, ⟨by omega, by omega⟩, fun i δ' L' => ∃ (xs : List SV) (G : LS) (a b c : SV), (tab i fun s => .da (shD (sheetF n (mny n) s))) = xs ∧ δ' = [.da (.int n), .da (.int (mny n)), .rf pq, a, b, c] ∧ L' = (pq, DO.lst xs) :: G, ⟨[], [], .un, .un, .un, rfl, rfl, rfl⟩, fun _ _ _ _ _ => trivial, ?_, ?_⟩
  · rintro i _ _ hi ⟨_, G, a, b, c, rfl, rfl, rfl⟩
    have hi : i < ((mny n).fdiv 4).toNat := hi
    have cm : CMulW 2 (i : Int) := s2.cmul (sz_small (by omega))
    refine ⟨cm, cm, cm, cm, 0, _, rfl, ?_⟩
    refine rows_of (n := n) (fun _ _ => trivial) (fun p L' Q' hq => ?_) fun Da => ?_
    · unfold pg at hq
      refine ite2 (fun h => ?_) (fun h => ?_)
      · rw [if_pos (t_of h)] at hq
        exact hq
      · rw [if_neg (f_of h)] at hq
        exact hq
    · refine ⟨_, _, _, _, List.getElem?_concat_length, rfl, rfl, _, rfl, ?_, _, _, _, _, _, tab_succ i _, rfl, rfl⟩
      · rw [tab_len]
        exact small1000 (by omega)
  · rintro _ _ ⟨_, G, a, b, c, rfl, rfl, rfl⟩
    exact ⟨0, _, _, _, rfl, rfl, das_tab _ _, [], _, rfl, q⟩
/-! ### reading through -/
theorem getL {L M : LS} {m : Nat} {o : Addr × DO} (h : L[m]? = some o) : (L ++ M)[m]? = some o := by
  have hm : m < L.length := (List.getElem?_eq_some_iff.mp h).1
  rw [List.getElem?_append_left hm]
  exact h
theorem das_da : ∀ l : List PyData, das (l.map SV.da) = some l
  | [] => rfl
  | d :: l => by
    show (das (l.map SV.da)).map _ = _
    rw [das_da l]
    rfl
def ahd (f : F4) : Nat → List PyData
  | 0 => []
  | k + 1 => ahd f k ++ [.int (f k).2.1, .int (f k).2.2.1]
/-- the later halves, the last sheet first -/
def beh (f : F4) : Nat → List PyData
  | 0 => []
  | k + 1 => [.int (f k).2.2.2, .int (f k).1] ++ beh f k
/-- the first i of these -/
def bhi (f : F4) (k : Nat) : Nat → List PyData
  | 0 => []
  | i + 1 => bhi f k i ++ [.int (f (k - 1 - i)).2.2.2, .int (f (k - 1 - i)).1]
theorem bhi_beh (f : F4) : ∀ (k i : Nat), bhi f (k + 1) (i + 1) = [.int (f k).2.2.2, .int (f k).1] ++ bhi f k i
  | k, 0 => rfl
  | k, i + 1 => by
    show bhi f (k + 1) (i + 1) ++ _ = [.int (f k).2.2.2, .int (f k).1] ++ (bhi f k i ++ _)
    rw [bhi_beh f k i, List.append_assoc]
    have e : k + 1 - 1 - (i + 1) = k - 1 - i := by omega
    rw [e]
theorem bhi_all (f : F4) : ∀ k, bhi f k k = beh f k
  | 0 => rfl
  | k + 1 => by
    rw [bhi_beh, bhi_all f k]
    rfl
theorem ahd_len (f : F4) : ∀ k, (ahd f k).length = 2 * k
  | 0 => rfl
  | k + 1 => by
    show (ahd f k ++ _).length = _
    rw [List.length_append, ahd_len f k]
    rfl
theorem beh_len (f : F4) : ∀ k, (beh f k).length = 2 * k
  | 0 => rfl
  | k + 1 => by
    show ([_, _] ++ beh f k).length = _
    rw [List.length_append, beh_len f k]
    show 2 + 2 * k = _
    omega
theorem bhi_len (f : F4) (k : Nat) : ∀ i, (bhi f k i).length = 2 * i
  | 0 => rfl
  | i + 1 => by
    show (bhi f k i ++ _).length = _
    rw [List.length_append, bhi_len f k i]
    rfl
theorem rev_at {k i : Nat} {f : F4} (h : i < k) : (tab k fun s => shD (f s)).reverse.getD i .none = shD (f (k - 1 - i)) := by
  rw [List.getD_eq_getElem?_getD, List.getElem?_reverse (by rw [tab_len]; exact h), tab_len, tab_at (by omega)]
  rfl
def sp_read_through : DSp := fun xs L Q => ∃ (k : Nat) (f : F4), xs = [.da (shs k f)] ∧ L = [] ∧ k ≤ 100 ∧ Q (.da (.tuple (ahd f k ++ beh f k))) []
theorem ok_read_through (T : Tp K mg) : FnOk P w K mg base CX0 1 T.a_read_through T.d_read_through ["sheets"] (spD K sp_read_through) := by
  refine fn_data T.F_read_through sc_read_through (by intro xs L Q h; repeat (first | (obtain ⟨rfl, _⟩ := h; rfl) | (obtain ⟨_, h⟩ := h))) (fun cdv A outer s H E hr => ⟨_, (xss_cons (xs_set (i := 1) sc_read_through.nd rfl (.inl rfl) (xe_lst xa_nil))
      (xss_cons (xs_for PassesOwn.never rfl (xi_tup (xv 0)) (xg_name (i := 2) sc_read_through.nd rfl (.inl rfl)) (xss_one (xs_expr (xe_extend (xv 1) (xe_slice (xv 2) (xo_some xe_int) (xo_some xe_int))))))
      (xss_cons (xs_for PassesOwn.never rfl (xi_tup (xe_revT (xv 0) (xe_neg xe_int))) (xg_name (i := 2) sc_read_through.nd rfl (.inl rfl)) (xss_one (xs_expr (xe_extend (xv 1) (xe_tup (xa_cons (xe_ix (xv 2) xe_int (fun _ _ => rfl)) (xa_cons (xe_ix (xv 2) xe_int (fun _ _ => rfl)) xa_nil)))))))
      (xss_one (xs_retD (xe_callTy b_tuple (by rfl) T.n_tuple bt_tuple (xa_cons (xv 1) xa_nil))))))), fun xs L Q h => ?_⟩)
  obtain ⟨k, f, rfl, rfl, hk, q⟩ := h
  intro pq
  refine ⟨fun i δ' L' => ∃ a : SV, δ' = [.da (shs k f), .rf pq, a] ∧ L' = [(pq, DO.lst ((ahd f i).map SV.da))], ⟨.un, rfl, rfl⟩, fun _ _ _ _ _ => trivial, ?_, ?_⟩
  · rintro i _ _ hi ⟨a, rfl, rfl⟩
    have hi : i < (tab k fun s => shD (f s)).length := hi
    rw [tab_len] at hi
    refine wgAt (congrArg SV.da (tab_getD hi)) ?_
    refine ⟨⟨0, _, rfl⟩, 0, _, rfl, ?_, _, rfl, ?_⟩
    · rw [List.length_map, ahd_len]
      show 2 * i + 2 ≤ _
      exact Nat.le_trans (show 2 * i + 2 ≤ 300 by omega) (by decide)
    · show [(pq, DO.lst ((ahd f i).map SV.da ++ _))] = [(pq, DO.lst ((ahd f i ++ _).map SV.da))]
      rw [List.map_append]
      rfl
  · rintro _ _ ⟨a, rfl, rfl⟩
    refine ⟨rfl, fun i δ' L' => ∃ a : SV, δ' = [.da (shs k f), .rf pq, a] ∧ L' = [(pq, DO.lst ((ahd f k ++ bhi f k i).map SV.da))], ⟨a, rfl, ?_⟩, fun _ _ _ _ _ => trivial, ?_, ?_⟩
    · show [(pq, DO.lst ((ahd f _).map SV.da))] = [(pq, DO.lst ((ahd f k ++ []).map SV.da))]
      rw [tab_len, List.append_nil]
    · rintro i _ _ hi ⟨a, rfl, rfl⟩
      have hi : i < (tab k fun s => shD (f s)).reverse.length := hi
      rw [List.length_reverse, tab_len] at hi
      refine wgAt (congrArg SV.da (rev_at hi)) ?_
      refine ⟨⟨0, _, rfl⟩, 0, _, rfl, ?_, _, rfl, ?_⟩
      · rw [List.length_map, List.length_append, ahd_len, bhi_len]
        exact Nat.le_trans (show 2 * k + 2 * i + 2 ≤ 600 by omega) (by decide)
      · show [(pq, DO.lst ((ahd f k ++ bhi f k i).map SV.da ++ _))] = [(pq, DO.lst ((ahd f k ++ (bhi f k i ++ _)).map SV.da))]
        rw [← List.append_assoc, List.map_append (l₁ := ahd f k ++ bhi f k i)]
    · rintro _ _ ⟨a, rfl, rfl⟩
      rw [List.length_reverse, tab_len, bhi_all]
      exact ⟨0, _, _, _, rfl, rfl, das_da _, [], _, rfl, q⟩
def sp_law_read : DSp := fun xs L Q => ∃ (k : Nat) (f : F4), xs = [.da (shs k f)] ∧ L = [] ∧ k ≤ 100 ∧ Q (.da (.tuple (ahd f k ++ beh f k))) []
theorem ok_law_read (T : Tp K mg) : FnOk P w K mg base CX0 1 T.a_law_read T.d_law_read ["sheets"] (spD K sp_law_read) := by
  refine fn_data T.F_law_read sc_law_read (by intro xs L Q h; repeat (first | (obtain ⟨rfl, _⟩ := h; rfl) | (obtain ⟨_, h⟩ := h))) (fun cdv A outer s H E hr => ⟨_, (xss_cons (xs_par (i := 1) (j := 2) rfl sc_law_read.nd rfl rfl (by decide) rfl rfl (xa_cons (xe_lst xa_nil) (xa_cons (xe_lst xa_nil) xa_nil)) rfl)
      (xss_cons (xs_for PassesOwn.never rfl (xi_tup (xv 0)) (xg_tup (n := 4) rfl (xgs_cons (xg_name (i := 3) sc_law_read.nd rfl (.inl rfl)) (xgs_cons (xg_name (i := 4) sc_law_read.nd rfl (.inl rfl)) (xgs_cons (xg_name (i := 5) sc_law_read.nd rfl (.inl rfl)) (xgs_cons (xg_name (i := 6) sc_law_read.nd rfl (.inl rfl)) xgs_nil))))) (xss_cons (xs_set (i := 1) sc_law_read.nd rfl (.inl rfl) (xe_op o_add (xv 1) (xe_lst (xa_cons (xv 4) (xa_cons (xv 5) xa_nil)))))
      (xss_one (xs_set (i := 2) sc_law_read.nd rfl (.inl rfl) (xe_op o_add (xe_lst (xa_cons (xv 6) (xa_cons (xv 3) xa_nil))) (xv 2))))))
      (xss_one (xs_retD (xe_callTy b_tuple (by rfl) T.n_tuple bt_tuple (xa_cons (xe_op o_add (xv 1) (xv 2)) xa_nil)))))), fun xs L Q h => ?_⟩)
  obtain ⟨k, f, rfl, rfl, hk, q⟩ := h
  intro pa pb
  refine ⟨fun i δ' L' => ∃ (a b c d : SV) (p1 p2 : Addr) (G : LS) (j1 j2 : Nat), δ' = [.da (shs k f), .rf p1, .rf p2, a, b, c, d] ∧ L' = G ∧ G[j1]? = some (p1, DO.lst ((ahd f i).map SV.da)) ∧ G[j2]? = some (p2, DO.lst ((beh f i).map SV.da)), ⟨.un, .un, .un, .un, pa, pb, _, 0, 1, rfl, rfl, rfl, rfl⟩, fun _ _ _ _ _ => trivial, ?_, ?_⟩
  · rintro i _ _ hi ⟨a, b, c, d, p1, p2, G, j1, j2, rfl, rfl, h1, h2⟩
    have hi : i < (tab k fun s => shD (f s)).length := hi
    rw [tab_len] at hi
    refine wgAt (congrArg SV.da (tab_getD hi)) ?_
    have la := ahd_len f i
    have lb := beh_len f i
    refine ⟨rfl, ?_⟩
    intro t1
    refine ⟨_, _, _, _, getL h1, List.getElem?_concat_length, ?_, fun l1 => ?_⟩
    · rw [List.length_map, la]
      exact Nat.le_trans (show 2 * i + 2 ≤ 300 by omega) (by decide)
    intro t2
    refine ⟨_, _, _, _, List.getElem?_concat_length, getL (getL (getL h2)), ?_, fun l2 => ?_⟩
    · rw [List.length_map, lb]
      exact Nat.le_trans (show 2 + 2 * i ≤ 300 by omega) (by decide)
    refine ⟨_, _, _, _, l1, l2, _, _, _, rfl, rfl, (getL (getL List.getElem?_concat_length)).trans ?_, List.getElem?_concat_length⟩
    show some (l1, DO.lst ((ahd f i).map SV.da ++ _)) = some (l1, DO.lst ((ahd f i ++ _).map SV.da))
    rw [List.map_append]
    rfl
  · rintro _ _ ⟨a, b, c, d, p1, p2, G, j1, j2, rfl, rfl, h1, h2⟩
    rw [tab_len] at h1 h2
    refine ⟨_, _, _, _, h1, h2, ?_, fun l => ⟨_, _, _, _, List.getElem?_concat_length, rfl, ?_, [], _, rfl, q⟩⟩
    · rw [List.length_map, List.length_map, ahd_len, beh_len]
      exact Nat.le_trans (show 2 * k + 2 * k ≤ 600 by omega) (by decide)
    · rw [← List.map_append]
      exact das_da _
end
end My
namespace My
open PySem PySem.Spec PyProof.Rows L2 Pd
def ci (ns : List Int) : List SV := ns.map fun n => .da (.int n)
theorem ci_len (ns : List Int) : (ci ns).length = ns.length := List.length_map ..
theorem ci_snoc {cs : List Int} {v : Int} : ci cs ++ [.da (.int v)] = ci (cs ++ [v]) := by
  unfold ci
  rw [List.map_append]
  rfl
theorem ci_at {ns : List Int} {i : Nat} (h : i < ns.length) : (ci ns)[i]? = some (.da (.int ns[i])) := by
  unfold ci
  rw [List.getElem?_map, List.getElem?_eq_getElem h]
  rfl
section
variable {P : Program} {w : World} {K : PySem.W.Frag} {mg : Str → Option Value} {base : Heap}
def sp_law_take : DSp := fun xs L Q => ∃ (p : Addr) (ds : List Int) (lim : Int), xs = [.rf p, .da (.int lim)] ∧ L = [(p, .lst (ci ds))] ∧ 0 < lim ∧ ∀ v ds', 0 ≤ v → v < lim → Q (.da (.int v)) [(p, .lst (ci ds'))]
theorem ok_law_take (T : Tp K mg) : FnOk P w K mg base CX0 1 T.a_law_take T.d_law_take ["draws", "limit"] (spD K sp_law_take) := by
  refine fn_data T.F_law_take sc_law_take (by intro xs L Q h; repeat (first | (obtain ⟨rfl, _⟩ := h; rfl) | (obtain ⟨_, h⟩ := h))) (fun cdv A outer s H E hr => ⟨_, (xss_cons (xs_if (xt_cmp (o_eq hr.units) (xe_callB b_len (by rfl) T.n_len bt_len (xa_cons (xv 0) xa_nil)) xe_int (nomark _)) (xss_one (xs_ret xe_int)) xss_nil)
      (xss_one (xs_ret (xe_op o_mod (xe_callTy b_int (by rfl) T.n_int bt_int (xa_cons (xe_pop (xv 0)) xa_nil)) (xv 1))))), fun xs L Q h => ?_⟩)
  obtain ⟨p, ds, lim, rfl, rfl, hl, q⟩ := h
  refine ⟨0, _, _, rfl, rfl, trivial, ite2 (fun h => ?_) (fun h => ?_)⟩
  · exact q 0 ds (by omega) hl
  · have h : ¬ ((ci ds).length : Int) = 0 := f_of h
    rw [ci_len] at h
    have hne : ds ≠ [] := fun z => h (by rw [z]; rfl)
    obtain ⟨ds', y, rfl⟩ : ∃ ds' y, ds = ds' ++ [y] := ⟨ds.dropLast, ds.getLast hne, (List.dropLast_concat_getLast hne).symm⟩
    refine ⟨0, ci ds', .da (.int y), ?_, hl, ?_⟩
    · rw [ci_snoc]
      rfl
    · exact q _ _ (Int.emod_nonneg _ (by omega)) (Int.emod_lt_of_pos _ hl)
/-! ### the law's draws -/
def sp_law_draws : DSp := fun xs L Q => ∃ (s : Addr) (ns : List Int) (cnt : Nat), xs = [.rf s, .da (.int cnt)] ∧ L = [(s, .rol (ci ns))] ∧ (ns.length ≤ 63 ∧ cnt ≤ 1000) ∧ ∀ p ds G, Q (.rf p) ((s, .rol (ci ns)) :: (G ++ [(p, .lst (ci ds))]))
section
variable {x a b a' b' : Addr × DO} {G : LS}
theorem g1 : (x :: (G ++ [a, b]))[G.length + 1]? = some a := by
  show (G ++ [a, b])[G.length]? = some a
  rw [List.getElem?_append_right (Nat.le_refl _), Nat.sub_self]
  rfl
theorem g2 : (x :: (G ++ [a, b]))[G.length + 2]? = some b := by
  show (G ++ [a, b])[G.length + 1]? = some b
  rw [List.getElem?_append_right (Nat.le_succ _), show G.length.succ - G.length = 1 by omega]
  rfl
theorem s1 : (x :: (G ++ [a, b])).set (G.length + 1) a' = x :: (G ++ [a', b]) := by
  show x :: (G ++ [a, b]).set G.length a' = _
  rw [List.set_append_right _ _ (Nat.le_refl _), Nat.sub_self]
  rfl
theorem s2 : (x :: (G ++ [a, b])).set (G.length + 2) b' = x :: (G ++ [a, b']) := by
  show x :: (G ++ [a, b]).set (G.length + 1) b' = _
  rw [List.set_append_right _ _ (Nat.le_succ _), show G.length.succ - G.length = 1 by omega]
  rfl
end
theorem ixN_n {n j : Nat} (hj : j < n) : ixN n (j : Int) = some j := by
  unfold ixN
  rw [if_pos (by omega), if_pos (by omega)]
  rfl
theorem ci_set {cs : List Int} {j : Nat} {v : Int} : (ci cs).set j (.da (.int v)) = ci (cs.set j v) := by
  unfold ci
  rw [List.map_set]
theorem ok_law_draws (T : Tp K mg) : FnOk P w K mg base CX0 1 T.a_law_draws T.d_law_draws ["script", "count"] (spD K sp_law_draws) := by
  refine fn_data T.F_law_draws sc_law_draws (by intro xs L Q h; repeat (first | (obtain ⟨rfl, _⟩ := h; rfl) | (obtain ⟨_, h⟩ := h))) (fun cdv A outer s H E hr => ⟨_, (xss_cons (xs_set (i := 2) sc_law_draws.nd rfl (.inl rfl) (xe_callTy b_list (by rfl) T.n_list bt_list (xa_cons (xv 0) xa_nil)))
      (xss_cut (xs_if (xt_cmp (o_eq hr.units) (xe_callB b_len (by rfl) T.n_len bt_len (xa_cons (xv 2) xa_nil)) xe_int (nomark _)) (xss_one (xs_set (i := 2) sc_law_draws.nd rfl (.inl rfl) (xe_lst (xa_cons xe_int xa_nil)))) xss_nil)
      (xss_cons (xs_set (i := 3) sc_law_draws.nd rfl (.inl rfl) (xe_lst xa_nil))
      (xss_cons (xs_set (i := 4) sc_law_draws.nd rfl (.inl rfl) xe_int)
      (xss_cons (xs_for PassesOwn.never rfl (xi_range1 (by rfl) T.n_range (xa_cons (xv 1) xa_nil)) (xg_name (i := 5) sc_law_draws.nd rfl (.inl rfl)) (xss_cons (xs_set (i := 6) sc_law_draws.nd rfl (.inl rfl) (xe_op o_mod (xv 5) (xe_callB b_len (by rfl) T.n_len bt_len (xa_cons (xv 2) xa_nil))))
      (xss_cons (xs_set (i := 7) sc_law_draws.nd rfl (.inl rfl) (xe_ix (xv 2) (xv 6) (fun _ _ => rfl)))
      (xss_cons (xs_set (i := 4) sc_law_draws.nd rfl (.inl rfl) (xe_op o_mod (xe_callTy b_int (by rfl) T.n_int bt_int (xa_cons (xe_op o_add (xe_op o_add (xe_op o_add (xe_op o_mul (xv 4) xe_int) (xe_op o_mul (xe_op o_mod (xe_callTy b_int (by rfl) T.n_int bt_int (xa_cons (xv 7) xa_nil)) xe_int) xe_int)) (xe_op o_mul (xv 5) xe_int)) xe_int) xa_nil)) xe_int))
      (xss_cons (xs_set (i := 8) sc_law_draws.nd rfl (.inl rfl) (xe_op o_mod (xe_callTy b_int (by rfl) T.n_int bt_int (xa_cons (xe_op o_add (xe_op o_add (xe_op o_mul (xv 4) (xv 4)) (xe_op o_mul xe_int (xv 4))) (xv 5)) xa_nil)) xe_int))
      (xss_one (xs_if (xt_cmp o_ge (xv 7) (xe_op o_pow xe_int xe_int) (nomark _)) (xss_cons (xs_expr (xe_append (xv 3) (xe_op o_mod (xe_callTy b_int (by rfl) T.n_int bt_int (xa_cons (xv 7) xa_nil)) xe_int)))
      (xss_one (xs_setL (xv 2) (xv 6) (xe_op o_div (xv 7) xe_int)))) (xss_one (xs_expr (xe_append (xv 3) (xe_op o_mod (xe_callTy b_int (by rfl) T.n_int bt_int (xa_cons (xv 8) xa_nil)) xe_int)))))))))))
      (xss_cons (xs_expr (xe_reverse (xv 3)))
      (xss_one (xs_ret (xv 3))))))))), fun xs L Q h => ?_⟩)
  obtain ⟨s, ns, cnt, rfl, rfl, ⟨hl, hc⟩, q⟩ := h
  refine ⟨0, _, _, rfl, rfl, fun pc0 => ?_⟩
  refine ⟨fun δ' L' => ∃ (pc : Addr) (cs : List Int) (G : LS), 0 < cs.length ∧ cs.length ≤ 63 ∧ δ' = [.rf s, .da (.int cnt), .rf pc, .un, .un, .un, .un, .un, .un] ∧ L' = (s, .rol (ci ns)) :: (G ++ [(pc, .lst (ci cs))]), ?_, ?_⟩
  · refine ⟨1, _, _, rfl, rfl, trivial, ite2 (fun h => ?_) (fun h => ?_)⟩
    · intro pc
      exact ⟨pc, [7], [(pc0, _)], by decide, by decide, rfl, rfl⟩
    · have h : ¬ ((ci ns).length : Int) = 0 := f_of h
      rw [ci_len] at h
      exact ⟨pc0, ns, [], by omega, hl, rfl, rfl⟩
  · rintro _ _ ⟨pc, cs, G, hc0, hc1, rfl, rfl⟩
    intro pf
    refine ⟨⟨by omega, by omega⟩, fun i δ' L' => ∃ (cs ds : List Int) (mx : Int) (k j c ag : SV), 0 < cs.length ∧ ds.length = i ∧ (0 ≤ mx ∧ mx < 2147483647) ∧ δ' = [.rf s, .da (.int cnt), .rf pc, .rf pf, .da (.int mx), k, j, c, ag] ∧ L' = (s, .rol (ci ns)) :: (G ++ [(pc, .lst (ci cs)), (pf, .lst (ci ds))]),
      ⟨cs, [], 12345, .un, .un, .un, .un, hc0, rfl, ⟨by decide, by decide⟩, rfl, ?_⟩, fun _ _ _ _ _ => trivial, ?_, ?_⟩
    · show (s, DO.rol (ci ns)) :: ((G ++ [(pc, DO.lst (ci cs))]) ++ [(pf, DO.lst [])]) = _
      rw [List.append_assoc]
      rfl
    · rintro i _ _ hi ⟨cs, ds, mx, k, j, c, ag, hc0, hd, ⟨m0, m1⟩, rfl, rfl⟩
      have hi : i < cnt := hi
      have pm : (0 : Int) < 2147483647 := by decide
      have pm2 : (0 : Int) < 1000003 := by decide
      have p1000 : (0 : Int) < 1000 := by decide
      have hln : (0 : Int) < ((ci cs).length : Int) := by rw [ci_len]; omega
      have hj : i % cs.length < cs.length := Nat.mod_lt _ hc0
      have ej : ((i : Int) % ((ci cs).length : Int)) = ((i % cs.length : Nat) : Int) := by rw [ci_len]; rfl
      have smx : ∀ x : Int, 0 ≤ x → x < 2147483647 → Sz 31 x := fun x h1 h2 => by show x.natAbs < 2 ^ 31; omega
      have sc : ∀ x : Int, x.natAbs < 2 ^ 20 → Sz 20 x := fun x h => h
      refine ⟨_, _, _, g1, rfl, hln, ?_⟩
      have hx : ixD (ci cs) ((i : Int) % ((ci cs).length : Int)) = some (.da (.int (cs[i % cs.length]))) := by
        rw [ej]
        exact ci_at hj
      refine ⟨_, _, _, _, g1, rfl, hx, ?_⟩
      generalize cs[i % cs.length] = cell at *
      have r1 := Int.emod_nonneg cell (show (1000003 : Int) ≠ 0 by decide)
      have r2 := Int.emod_lt_of_pos cell pm2
      refine ⟨(smx mx m0 m1).cmul (sc 48271 (by decide)), pm2, (sc _ (by omega)).cmul (sc 69621 (by decide)), (sc _ (by omega)).cmul (sc 7919 (by decide)), pm, ?_⟩
      have n0 := Int.emod_nonneg (mx * 48271 + cell % 1000003 * 69621 + i * 7919 + 11) (show (2147483647 : Int) ≠ 0 by decide)
      have n1 := Int.emod_lt_of_pos (mx * 48271 + cell % 1000003 * 69621 + i * 7919 + 11) pm
      generalize (mx * 48271 + cell % 1000003 * 69621 + i * 7919 + 11) % 2147483647 = mx' at *
      refine ⟨(smx _ n0 n1).cmul (smx _ n0 n1), (sc 31 (by decide)).cmul (smx _ n0 n1), pm2, ?_⟩
      refine ⟨⟨by decide, by decide, by decide⟩, ite2 (fun h => ?_) (fun h => ?_)⟩
      · refine ⟨_, _, g2, p1000, _, g2, ?_, ?_⟩
        · rw [ci_len]
          exact small1000 (by omega)
        · rw [s2, ci_snoc]
          refine ⟨⟨by decide, by decide⟩, _, _, i % cs.length, g1, ?_, ?_⟩
          · rw [ej, ci_len]
            exact ixN_n hj
          · rw [s1, ci_set]
            exact ⟨_, _, mx', _, _, _, _, by rw [List.length_set]; exact hc0, by rw [List.length_append, hd]; rfl, ⟨n0, n1⟩, rfl, rfl⟩
      · refine ⟨_, _, g2, p1000, _, g2, ?_, ?_⟩
        · rw [ci_len]
          exact small1000 (by omega)
        · rw [s2, ci_snoc]
          exact ⟨_, _, mx', _, _, _, _, hc0, by rw [List.length_append, hd]; rfl, ⟨n0, n1⟩, rfl, rfl⟩
    · rintro _ _ ⟨cs, ds, mx, k, j, c, ag, hc0, hd, ⟨m0, m1⟩, rfl, rfl⟩
      refine ⟨_, _, g2, ?_⟩
      have e : (ci ds).reverse = ci ds.reverse := List.map_reverse.symm
      rw [s2, e]
      have := q pf ds.reverse (G ++ [(pc, .lst (ci cs))])
      rw [List.append_assoc] at this
      exact this
end
end My
namespace My
open PySem PySem.Spec PyProof.Rows L2 Pd
/-- ints, and tuples of such, k deep -/
def SmK : Nat → PyData → Prop
  | 0, d => ∃ i : Int, d = .int i
  | k + 1, d => (∃ i : Int, d = .int i) ∨ ∃ ds, d = .tuple ds ∧ ds.length ≤ 1000 ∧ ∀ e ∈ ds, SmK k e
theorem ixAt {ds : List PyData} {i : Nat} {d : PyData} {L : LS} {Q : SV → LS → Prop} (h : ds[i]? = some d) (q : Q (.da d) L) : dIx (.da (.tuple ds)) (.da (.int (i : Nat))) L Q := by
  show (match ds[i]? with
    | some d => Q (.da d) L
    | none => False)
  rw [h]
  exact q
section
variable {P : Program} {w : World} {K : PySem.W.Frag} {mg : Str → Option Value} {base : Heap}
def spr_law_same (k : Nat) : DSp := fun xs L Q => ∃ x : PyData, xs = [.da x, .da x] ∧ L = [] ∧ SmK k x ∧ Q (.da (.bool true)) []
theorem okr_law_same (T : Tp K mg) (k n : Nat) (hn : 0 ≤ n) (spq : DSp) (hs : ∀ j, k = j + 1 → spq = spr_law_same j) (G_law_same : FnOk P w K mg base CX0 n T.a_law_same T.d_law_same ["found", "due"] (spD K spq)) : FnOk P w K mg base CX0 (n + 1) T.a_law_same T.d_law_same ["found", "due"] (spD K (spr_law_same k)) := by
  refine fn_data T.F_law_same sc_law_same (by intro xs L Q h; repeat (first | (obtain ⟨rfl, _⟩ := h; rfl) | (obtain ⟨_, h⟩ := h))) (fun cdv A outer s H E hr => ⟨_, (xss_cons (xs_if (xt_cmp o_isN (xv 1) xe_non (nomark _)) (xss_one (xs_retD (xe_cmp o_isN (xv 0) xe_non (nomark _)))) xss_nil)
      (xss_cons (xs_if (xt_val (xe_isi .bool (by rfl) T.n_isinstance (by rfl) T.n_bool bt_bool (xv 1))) (xss_one (xs_retD (xe_and (xe_isi .bool (by rfl) T.n_isinstance (by rfl) T.n_bool bt_bool (xv 0)) (xe_one (xe_cmp (o_eq hr.units) (xv 0) (xv 1) (nomark _)))))) xss_nil)
      (xss_cons (xs_if (xt_val (xe_isi .int (by rfl) T.n_isinstance (by rfl) T.n_int bt_int (xv 1))) (xss_one (xs_retD (xe_and (xe_isi .int (by rfl) T.n_isinstance (by rfl) T.n_int bt_int (xv 0)) (xe_and (xe_not (xe_isi .bool (by rfl) T.n_isinstance (by rfl) T.n_bool bt_bool (xv 0))) (xe_one (xe_cmp (o_eq hr.units) (xv 0) (xv 1) (nomark _))))))) xss_nil)
      (xss_cons (xs_if (xt_val (xe_isi .str (by rfl) T.n_isinstance (by rfl) T.n_str bt_str (xv 1))) (xss_one (xs_retD (xe_and (xe_isi .str (by rfl) T.n_isinstance (by rfl) T.n_str bt_str (xv 0)) (xe_one (xe_cmp (o_eq hr.units) (xv 0) (xv 1) (nomark _)))))) xss_nil)
      (xss_cons (xs_if (PW.pt (xw_or (xt_cmp (o_ne hr.units) (xe_isi .tuple (by rfl) T.n_isinstance (by rfl) T.n_tuple bt_tuple (xv 1)) (xe_isi .tuple (by rfl) T.n_isinstance (by rfl) T.n_tuple bt_tuple (xv 0)) (nomark _)) (xw_or1 (xt_cmp (o_ne hr.units) (xe_isi .list (by rfl) T.n_isinstance (by rfl) T.n_list bt_list (xv 1)) (xe_isi .list (by rfl) T.n_isinstance (by rfl) T.n_list bt_list (xv 0)) (nomark _))))) (xss_one (xs_retD xe_bl)) xss_nil)
      (xss_one (xs_retD (xe_and (xe_cmp (o_eq hr.units) (xe_callB b_len (by rfl) T.n_len bt_len (xa_cons (xv 0) xa_nil)) (xe_callB b_len (by rfl) T.n_len bt_len (xa_cons (xv 1) xa_nil)) (nomark _)) (xe_one (xe_callB (b_all rfl) (by rfl) T.n_all bt_all (xa_cons (xe_lc (own := [("k", 2)]) rfl sc_law_same.nd (xi_range1 (by rfl) T.n_range (xa_cons (xe_callB b_len (by rfl) T.n_len bt_len (xa_cons (xv 1) xa_nil)) xa_nil)) (blkOk_by (N := ["found", "due", "k"]) (sc := defScope s_law_same) (by decide +kernel)) (by decide) (fun _ _ _ _ _ => (xg_name (i := 2) sc_law_same.nd rfl (.inl rfl))) (fun _ _ _ _ _ => xts_nil) (fun _ _ _ _ _ => (xe_call G_law_same hr (by rfl) T.g_law_same T.F_law_same.kp T.b_law_same (xa_cons (xe_ix (xv 0) (xv 2) (fun _ _ => rfl)) (xa_cons (xe_ix (xv 1) (xv 2) (fun _ _ => rfl)) xa_nil))))) xa_nil))))))))))), fun xs L Q h => ?_⟩)
  obtain ⟨x, rfl, rfl, hx, q⟩ := h
  have hx : (∃ i : Int, x = .int i) ∨ ∃ j ds, k = j + 1 ∧ x = .tuple ds ∧ ds.length ≤ 1000 ∧ ∀ e ∈ ds, SmK j e := by
    cases k with
    | zero => exact .inl hx
    | succ k =>
      rcases hx with h | ⟨ds, h⟩
      · exact .inl h
      · exact .inr ⟨k, ds, rfl, h⟩
  rcases hx with ⟨i, rfl⟩ | ⟨j, ds, rfl, rfl, hl, hd⟩
  · have q2 : Q (.da (.bool (decide (i = i)))) [] := by
      rw [decide_eq_true rfl]
      exact q
    exact ⟨trivial, [], _, rfl, q2⟩
  · have hs := hs j rfl
    subst hs
    have e : ((List.range ds.length).map fun _ => true).all id = true := by simp
    have q2 : Q (.da (.bool (((List.range ds.length).map fun _ => true).all id))) [] := by
      rw [e]
      exact q
    refine ⟨trivial, trivial, trivial, iteEq rfl ?_⟩
    refine ⟨⟨by omega, by omega⟩, lc_mapL (fun _ => .da (.bool true)) ?_ (fun _ _ => trivial) ?_ fun Da => ?_⟩
    · show ds.length ≤ 10000000
      omega
    · intro i hi Da acc Q' hq
      have hi : i < ds.length := hi
      show (match ds[i]? with
        | some d => (match ds[i]? with
          | some d' => spr_law_same j [.da d, .da d'] [] (fun x L2 => Q' x (([] ++ [(Da, DO.lst acc)]) ++ L2))
          | none => False)
        | none => False)
      rw [List.getElem?_eq_getElem hi]
      exact ⟨_, rfl, rfl, hd _ (List.getElem_mem hi), nilq hq⟩
    · exact ⟨_, _, _, _, List.getElem?_concat_length, rfl, boolsD_map _ _, [], _, rfl, q2⟩
theorem okn_law_same (T : Tp K mg) : ∀ k, FnOk P w K mg base CX0 (0 + 1 + k) T.a_law_same T.d_law_same ["found", "due"] (spD K (spr_law_same k))
  | 0 => okr_law_same T 0 0 (Nat.le_refl _) (fun _ _ _ => False) (fun _ h => nomatch h) FnOk.never
  | k + 1 => okr_law_same T (k + 1) (0 + 1 + k) (Nat.le_trans (Nat.le_succ _) (Nat.le_add_right _ _)) (spr_law_same k) (fun j h => by cases h; rfl) (okn_law_same T k)
abbrev sp_law_same : DSp := spr_law_same 3
theorem ok_law_same (T : Tp K mg) : FnOk P w K mg base CX0 4 T.a_law_same T.d_law_same ["found", "due"] (spD K sp_law_same) := okn_law_same T 3
end
end My
namespace My
open PySem PySem.Spec PyProof.Rows L2 Pd
/-! ### the pages -/
theorem ahd_tab (n m : Int) : ∀ k, ahd (sheetF n m) k = tab (2 * k) fun t => .int (pg n ((t : Int) + 1))
  | 0 => rfl
  | k + 1 => by
    show ahd (sheetF n m) k ++ _ = tab (2 * k + 1 + 1) _
    rw [ahd_tab n m k, tab_succ, tab_succ, List.append_assoc]
    congr 1
theorem beh_tab (n : Int) (K : Nat) : ∀ k, beh (sheetF n (4 * K)) k = tab (2 * k) fun t => .int (pg n (4 * (K : Int) - 2 * k + t + 1))
  | 0 => rfl
  | k + 1 => by
    show [_, _] ++ beh (sheetF n (4 * K)) k = _
    rw [beh_tab n K k]
    have e : ([PyData.int (pg n (4 * (K : Int) - 2 * (k : Int) - 1)), .int (pg n (4 * (K : Int) - 2 * (k : Int)))] : List PyData) = tab 2 fun t => .int (pg n (4 * (K : Int) - 2 * (k + 1 : Nat) + t + 1)) := by
      show _ = [PyData.int (pg n (4 * (K : Int) - 2 * (k + 1 : Nat) + (0 : Nat) + 1)), .int (pg n (4 * (K : Int) - 2 * (k + 1 : Nat) + (1 : Nat) + 1))]
      rw [show (4 * (K : Int) - 2 * (k + 1 : Nat) + (0 : Nat) + 1) = 4 * (K : Int) - 2 * (k : Int) - 1 by omega, show (4 * (K : Int) - 2 * (k + 1 : Nat) + (1 : Nat) + 1) = 4 * (K : Int) - 2 * (k : Int) by omega]
    show ([PyData.int (pg n (4 * (K : Int) - 2 * (k : Int) - 1)), .int (pg n (4 * (K : Int) - 2 * (k : Int)))] : List PyData) ++ _ = _
    rw [e, tab_append, show 2 * (k + 1) = 2 + 2 * k by omega]
    refine tab_ext fun t ht => ?_
    split
    · rfl
    · rw [show (4 * (K : Int) - 2 * (k : Int) + (t - 2 : Nat) + 1) = 4 * (K : Int) - 2 * (k + 1 : Nat) + t + 1 by omega]
theorem rep_tab {α : Type} (x : α) : ∀ z : Nat, (List.replicate z [x]).flatten = tab z fun _ => x
  | 0 => rfl
  | z + 1 => by
    rw [List.replicate_succ', List.flatten_append, rep_tab x z, tab_succ]
    rfl
theorem pages_eq {n : Int} {K : Nat} (h1 : 1 ≤ n) (h2 : n ≤ 4 * (K : Int)) : rgS 1 (n + 1) ++ (List.replicate (4 * (K : Int) - n).toNat [SV.da (.int 0)]).flatten = (ahd (sheetF n (4 * K)) K ++ beh (sheetF n (4 * K)) K).map SV.da := by
  rw [ahd_tab, beh_tab, tab_append, tab_map, rep_tab]
  unfold rgS
  rw [tab_append, show (n + 1 - 1).toNat + (4 * (K : Int) - n).toNat = 2 * K + 2 * K by omega]
  refine tab_ext fun t ht => ?_
  have e : ∀ x : Int, x = (t : Int) + 1 → (if t < (n + 1 - 1).toNat then SV.da (.int (1 + (t : Nat))) else SV.da (.int 0)) = SV.da (.int (pg n x)) := fun x hx => by
    subst hx
    unfold pg
    by_cases hh : t < (n + 1 - 1).toNat
    · rw [if_pos hh, if_pos (by omega), Int.add_comm]
    · rw [if_neg hh, if_neg (by omega)]
  have r : SV.da (if t < 2 * K then .int (pg n ((t : Int) + 1)) else .int (pg n (4 * (K : Int) - 2 * K + (t - 2 * K : Nat) + 1))) = SV.da (.int (pg n ((t : Int) + 1))) := by
    split
    · rfl
    · rw [show (4 * (K : Int) - 2 * K + (t - 2 * K : Nat) + 1) = (t : Int) + 1 by omega]
  exact (e _ rfl).trans r.symm
theorem smK_int {k : Nat} (i : Int) : SmK k (.int i) := by
  cases k with
  | zero => exact ⟨i, rfl⟩
  | succ k => exact .inl ⟨i, rfl⟩
theorem smK_tup {k : Nat} {ds : List PyData} (hl : ds.length ≤ 1000) (h : ∀ e ∈ ds, SmK k e) : SmK (k + 1) (.tuple ds) := .inr ⟨ds, rfl, hl, h⟩
theorem smK_shD (q : Int × Int × Int × Int) : SmK 2 (shD q) := smK_tup (show 4 ≤ 1000 by decide) fun e he => by
  simp only [List.mem_cons, List.mem_nil_iff, or_false] at he
  rcases he with rfl | rfl | rfl | rfl <;> exact smK_int _
theorem smK_shs {k : Nat} {f : F4} (hk : k ≤ 1000) : SmK 3 (shs k f) := smK_tup (by rw [tab_len]; exact hk) fun e he => by
  obtain ⟨i, hi, rfl⟩ := tab_mem he
  exact smK_shD _
theorem smK_ahd (f : F4) : ∀ k, ∀ e ∈ ahd f k, SmK 2 e
  | 0, e, h => by cases h
  | k + 1, e, h => by
    have h : e ∈ ahd f k ++ [.int (f k).2.1, .int (f k).2.2.1] := h
    simp only [List.mem_append, List.mem_cons, List.mem_nil_iff, or_false] at h
    rcases h with h | rfl | rfl
    · exact smK_ahd f k e h
    · exact smK_int _
    · exact smK_int _
theorem smK_beh (f : F4) : ∀ k, ∀ e ∈ beh f k, SmK 2 e
  | 0, e, h => by cases h
  | k + 1, e, h => by
    have h : e ∈ [.int (f k).2.2.2, .int (f k).1] ++ beh f k := h
    simp only [List.mem_append, List.mem_cons, List.mem_nil_iff, or_false] at h
    rcases h with (rfl | rfl) | h
    · exact smK_int _
    · exact smK_int _
    · exact smK_beh f k e h
theorem smK_read {k : Nat} {f : F4} (hk : k ≤ 200) : SmK 3 (.tuple (ahd f k ++ beh f k)) := smK_tup (by rw [List.length_append, ahd_len, beh_len]; omega) fun e he => by
  rcases List.mem_append.mp he with h | h
  · exact smK_ahd f k e h
  · exact smK_beh f k e h
/-- a caught exception's name -/
def wVarX (i : Nat) : WE := fun δ L Q => match δ[i]? with
  | some (.ex a d zs) => Q (.ex a d zs) L
  | _ => False
theorem xvx {X : Cx} {pos : Pos} (i : Nat) {x : Str} (hN : X.N[i]? = some x := by rfl) (hv : Vis X.env.scope x := by first | exact Or.inl rfl | exact Or.inr (Or.inl rfl) | exact Or.inr (Or.inr rfl)) (hd : (x == ("__debug__" : Str)) = false := by decide)
    (hcd : (x == ("__classdict__" : Str)) = false := by decide) : XE X (.Name x pos) (wVarX i) := pe_imp (pe_var hN hv hd hcd) fun σ H Q ⟨S, H0, δ, L, Qd, g, r, w, k⟩ => by
  unfold wVarX at w
  split at w
  · rename_i a d zs e
    obtain ⟨v, e2, rv⟩ := r.get e rfl
    exact ⟨v, e2, k _ L v H w g (Tx.refl H) rv⟩
  · exact w.elim
/-- the draws' list stands -/
def Stp (p : Addr) (L : LS) : Prop := ∃ A ds C, L = A ++ [(p, DO.lst (ci ds))] ++ C
theorem Stp.app {p : Addr} {L X : LS} : Stp p L → Stp p (L ++ X) := fun ⟨A, ds, C, e⟩ => ⟨A, ds, C ++ X, by rw [e, List.append_assoc]⟩
theorem call_take {p : Addr} {L : LS} {lim : Int} {Q : SV → LS → Prop} (h : Stp p L) (hl : 0 < lim) (q : ∀ v L', 0 ≤ v → v < lim → Stp p L' → Q (.da (.int v)) L') : CallB sp_law_take [.rf p, .da (.int lim)] L Q := by
  obtain ⟨A, ds, C, e⟩ := h
  refine callN_mid A [(p, .lst (ci ds))] C e ?_
  refine ⟨p, ds, lim, rfl, rfl, hl, fun v ds' h0 h1 => ⟨_, [], (List.append_nil _).symm, rfl, mid_q e rfl ?_⟩⟩
  exact q v _ h0 h1 ⟨A, ds', C, by rw [List.append_nil]⟩
theorem call_takeM {p : Addr} {A C L : LS} {ds : List Int} {lim : Int} {Q : SV → LS → Prop} (e : L = A ++ [(p, DO.lst (ci ds))] ++ C) (hl : 0 < lim) (q : ∀ v ds', 0 ≤ v → v < lim → Q (.da (.int v)) (A ++ [(p, DO.lst (ci ds'))] ++ C)) : CallB sp_law_take [.rf p, .da (.int lim)] L Q := by
  refine callN_mid A [(p, .lst (ci ds))] C e ?_
  refine ⟨p, ds, lim, rfl, rfl, hl, fun v ds' h0 h1 => ⟨_, [], (List.append_nil _).symm, rfl, mid_q e rfl ?_⟩⟩
  rw [List.append_nil]
  exact q v ds' h0 h1
theorem mid_at {L P R : LS} {x : Addr × DO} (e : L = P ++ x :: R) : L[P.length]? = some x := by
  rw [e, List.getElem?_append_right (Nat.le_refl _), Nat.sub_self]
  rfl
theorem mid_set {L P R : LS} {x y : Addr × DO} (e : L = P ++ x :: R) : L.set P.length y = P ++ y :: R := by
  rw [e, List.set_append_right _ _ (Nat.le_refl _), Nat.sub_self]
  rfl
theorem tab_snoc {α β : Type} (g : β → α) (f : Nat → β) (v : β) (j : Nat) : tab (j + 1) (fun i => g (if i < j then f i else v)) = tab j (fun i => g (f i)) ++ [g v] := by
  rw [tab_succ, if_neg (Nat.lt_irrefl j), tab_ext (g := fun i => g (f i)) fun t ht => by rw [if_pos ht]]
/-- four draws -/
theorem four_draws {p : Addr} {A X L : LS} {ds : List Int} {wg : WG} {we : WE} {δ : List SV} {own : List Nat} {Q : SV → LS → Prop} {item : Nat → SV} {G : LS → Prop} (e : L = A ++ [(p, DO.lst (ci ds))] ++ X) (hG : ∀ L', G L')
    (hw : ∀ i, i < 4 → ∀ (ds : List Int) (C : LS) (Q' : SV → LS → Prop), (∀ v ds', Q' (.da (.int v)) (A ++ [(p, DO.lst (ci ds'))] ++ C)) → wg (item i) (wipeE δ own) (A ++ [(p, DO.lst (ci ds))] ++ C) fun δ2 => we δ2 (A ++ [(p, DO.lst (ci ds))] ++ C) Q')
    (q : ∀ Db ds' (f : Nat → Int), Q (.rf Db) (A ++ [(p, DO.lst (ci ds'))] ++ (X ++ [(Db, .lst (tab 4 fun i => .da (.int (f i))))]))) : LcB wg wYes we own δ Q 4 item G L := by
  refine .of fun Db => ?_
  refine ⟨fun j L' => ∃ ds' f, L' = A ++ [(p, DO.lst (ci ds'))] ++ (X ++ [(Db, .lst (tab j fun i => .da (.int (f i))))]), ⟨ds, fun _ => 0, by rw [e, List.append_assoc]; rfl⟩, fun _ _ _ _ => hG _, ?_, ?_⟩
  · rintro j _ hj ⟨ds', f, rfl⟩
    refine hw j hj ds' _ _ fun v ds2 => ?_
    have e2 : A ++ [(p, DO.lst (ci ds2))] ++ (X ++ [(Db, .lst (tab j fun i => .da (.int (f i))))]) = (A ++ [(p, DO.lst (ci ds2))] ++ X) ++ (Db, .lst (tab j fun i => .da (.int (f i)))) :: [] := by simp only [List.append_assoc]
    refine ⟨_, _, mid_at e2, ?_, ds2, fun i => if i < j then f i else v, ?_⟩
    · rw [tab_len]
      exact small1000 (by omega)
    · rw [mid_set e2, ← tab_snoc (fun x => SV.da (.int x)) f v j]
      simp only [List.append_assoc]
  · rintro _ ⟨ds', f, rfl⟩
    exact q Db ds' f
section
variable {P : Program} {w : World} {K : PySem.W.Frag} {mg : Str → Option Value} {base : Heap}
abbrev sp_law := dspLaw
theorem ok_law (T : Tp K mg) (G_booklet : FnOk P w K mg base (L2.CX P w) 3 T.a_booklet T.d_booklet ["n"] (spDX K (sp_booklet T.c_PressError))) (G_read_through : FnOk P w K mg base CX0 1 T.a_read_through T.d_read_through ["sheets"] (spD K sp_read_through)) (G_law_draws : FnOk P w K mg base CX0 1 T.a_law_draws T.d_law_draws ["script", "count"] (spD K sp_law_draws)) (G_law_take : FnOk P w K mg base CX0 1 T.a_law_take T.d_law_take ["draws", "limit"] (spD K sp_law_take)) (G_law_same : FnOk P w K mg base CX0 4 T.a_law_same T.d_law_same ["found", "due"] (spD K sp_law_same)) (G_law_sheets : FnOk P w K mg base CX0 1 T.a_law_sheets T.d_law_sheets ["n"] (spD K sp_law_sheets)) (G_law_read : FnOk P w K mg base CX0 1 T.a_law_read T.d_law_read ["sheets"] (spD K sp_law_read)) : FnOk P w K mg base CX0 5 T.a_law T.d_law ["script"] (spD K sp_law) := by
  refine fn_data T.F_law sc_law (by intro xs L Q  h; repeat (first | (obtain ⟨rfl, _⟩ := h; rfl) | (obtain ⟨_, h⟩ := h))) (fun cdv A outer s H E hr => ⟨_, (xss_cons (xs_set (i := 1) sc_law.nd rfl (.inr rfl) (xe_callN G_law_draws (hr.mono (by decide)) (by rfl) T.g_law_draws T.F_law_draws.kp T.b_law_draws (xa_cons (xv 0) (xa_cons xe_int xa_nil))))
      (xss_cons (xs_for PassesOwn.never rfl (xi_tup (xe_tup (xa_cons (xe_op o_add xe_int (xe_callN G_law_take (hr.mono (by decide)) (by rfl) T.g_law_take T.F_law_take.kp T.b_law_take (xa_cons (xv 1) (xa_cons xe_int xa_nil)))) (xa_cons (xe_op o_add xe_int (xe_callN G_law_take (hr.mono (by decide)) (by rfl) T.g_law_take T.F_law_take.kp T.b_law_take (xa_cons (xv 1) (xa_cons xe_int xa_nil)))) (xa_cons (xe_op o_sub xe_int (xe_callN G_law_take (hr.mono (by decide)) (by rfl) T.g_law_take T.F_law_take.kp T.b_law_take (xa_cons (xv 1) (xa_cons xe_int xa_nil)))) xa_nil))))) (xg_name (i := 2) sc_law.nd rfl (.inl rfl)) (xss_cons (xs_set (i := 3) sc_law.nd rfl (.inl rfl) (xe_callX G_booklet (hr.mono (by decide)) (by rfl) T.g_booklet T.F_booklet.kp T.b_booklet (xa_cons (xv 2) xa_nil)))
      (xss_cons (xs_if (xt_not (xt_val (xe_call G_law_same hr (by rfl) T.g_law_same T.F_law_same.kp T.b_law_same (xa_cons (xv 3) (xa_cons (xe_call G_law_sheets (hr.mono (by decide)) (by rfl) T.g_law_sheets T.F_law_sheets.kp T.b_law_sheets (xa_cons (xv 2) xa_nil)) xa_nil))))) (xss_one (xs_ret xe_bl)) xss_nil)
      (xss_cons (xs_set (i := 4) sc_law.nd rfl (.inl rfl) (xe_op o_add (xe_listRg2 rfl (by rfl) T.n_list (by rfl) T.n_range xe_int (xe_op o_add (xv 2) xe_int)) (xe_op o_mul (xe_lst (xa_cons xe_int xa_nil)) (xe_op o_sub (xe_op o_mul xe_int (xe_callB b_len (by rfl) T.n_len bt_len (xa_cons (xv 3) xa_nil))) (xv 2)))))
      (xss_one (xs_if (xt_not (xt_val (xe_call G_law_same hr (by rfl) T.g_law_same T.F_law_same.kp T.b_law_same (xa_cons (xe_call G_read_through (hr.mono (by decide)) (by rfl) T.g_read_through T.F_read_through.kp T.b_read_through (xa_cons (xv 3) xa_nil)) (xa_cons (xe_callTy b_tuple (by rfl) T.n_tuple bt_tuple (xa_cons (xv 4) xa_nil)) xa_nil))))) (xss_one (xs_ret xe_bl)) xss_nil))))))
      (xss_cons (xs_for PassesOwn.never rfl (xi_tup (xe_tup (xa_cons xe_int (xa_cons xe_int (xa_cons (xe_op o_sub xe_int (xe_callN G_law_take (hr.mono (by decide)) (by rfl) T.g_law_take T.F_law_take.kp T.b_law_take (xa_cons (xv 1) (xa_cons xe_int xa_nil)))) (xa_cons (xe_op o_add xe_int (xe_callN G_law_take (hr.mono (by decide)) (by rfl) T.g_law_take T.F_law_take.kp T.b_law_take (xa_cons (xv 1) (xa_cons xe_int xa_nil)))) xa_nil)))))) (xg_name (i := 2) sc_law.nd rfl (.inl rfl)) (xss_cons (xs_tryAs (i := 5) rfl rfl sc_law.nd rfl rfl ⟨rfl, by decide, .inl T.gc_PressError⟩ T.ex_PressError (fun W pn xe tk _ => (xss_one (xs_exprX G_booklet (hr.mono (by decide)) (by rfl) T.g_booklet T.F_booklet.kp T.b_booklet tk (xa_cons (xv 2) xa_nil)))) (fun a oe cls d pn hz hf => (xss_one (xs_if (xt_cmp (o_eq hr.units) (xe_xf T.xf_PressError T.no_PressError hz hf (xvx 5)) xe_str (nomark _)) (xss_one xs_continue) xss_nil))))
      (xss_one (xs_ret xe_bl))))
      (xss_cons (xs_set (i := 6) sc_law.nd rfl (.inl rfl) (xe_callTy b_tuple (by rfl) T.n_tuple bt_tuple (xa_cons (xe_lc (own := [("s", 8)]) rfl sc_law.nd (xi_range1 (by rfl) T.n_range (xa_cons (xe_callN G_law_take (hr.mono (by decide)) (by rfl) T.g_law_take T.F_law_take.kp T.b_law_take (xa_cons (xv 1) (xa_cons xe_int xa_nil))) xa_nil)) (blkOk_by (N := ["script", "draws", "n", "found", "pages", "e", "sheets", "k", "s"]) (sc := defScope s_law) (by decide +kernel)) (by decide) (fun _ _ _ _ _ => (xg_name (i := 8) sc_law.nd rfl (.inl rfl))) (fun _ _ _ _ _ => xts_nil) (fun _ _ _ _ _ => (xe_callTy b_tuple (by rfl) T.n_tuple bt_tuple (xa_cons (xe_lc (own := [("k", 7)]) rfl sc_law.nd (xi_range1 (by rfl) T.n_range (xa_cons xe_int xa_nil)) (blkOk_by (N := ["script", "draws", "n", "found", "pages", "e", "sheets", "k", "s"]) (sc := { kind := ScopeKind.function, names := [(Str.ofString ".0", NameKind.local), (Str.ofString "s", NameKind.local), (Str.ofString "tuple", NameKind.globalImplicit), (Str.ofString "range", NameKind.globalImplicit), (Str.ofString "draws", NameKind.cell)], isGenerator := false, isCoroutine := false }) (by decide +kernel)) (by decide) (fun _ _ _ _ _ => (xg_name (i := 7) sc_law.nd rfl (.inl rfl))) (fun _ _ _ _ _ => xts_nil) (fun _ _ _ _ _ => (xe_op o_sub (xe_callN G_law_take (hr.mono (by decide)) (by rfl) T.g_law_take T.F_law_take.kp T.b_law_take (xa_cons (xv 1) (xa_cons xe_int xa_nil))) xe_int))) xa_nil)))) xa_nil)))
      (xss_one (xs_ret (xe_call G_law_same hr (by rfl) T.g_law_same T.F_law_same.kp T.b_law_same (xa_cons (xe_call G_read_through (hr.mono (by decide)) (by rfl) T.g_read_through T.F_read_through.kp T.b_read_through (xa_cons (xv 6) xa_nil)) (xa_cons (xe_call G_law_read (hr.mono (by decide)) (by rfl) T.g_law_read T.F_law_read.kp T.b_law_read (xa_cons (xv 6) xa_nil)) xa_nil))))))))), fun xs L Q h => ?_⟩)
  obtain ⟨s, ns, rfl, rfl, hl, q⟩ := h
  refine ⟨[0], _, by decide, rfl, s, ns, 100, rfl, rfl, ⟨hl, by decide⟩, fun p ds G => ⟨[(s, _)], G ++ [(p, .lst (ci ds))], rfl, rfl, ?_⟩⟩
  have h0 : Stp p ((s, DO.rol (ci ns)) :: (G ++ [(p, .lst (ci ds))])) := ⟨(s, .rol (ci ns)) :: G, ds, [], by rw [List.append_nil]; rfl⟩
  refine call_take h0 (by decide) fun v1 L1 a1 b1 s1 => ?_
  refine call_take s1 (by decide) fun v2 L2' a2 b2 s2 => ?_
  refine call_take s2 (by decide) fun v3 L3 a3 b3 s3 => ?_
  refine ⟨fun i δ' L' => Stp p L' ∧ ∃ a b c : SV, δ' = [.rf s, .rf p, a, b, c, .un, .un, .un, .un], ⟨s3, .un, .un, .un, rfl⟩, fun _ _ _ _ _ => trivial, ?_, ?_⟩
  · rintro i _ L' hi ⟨hS, a, b, c, rfl⟩
    obtain ⟨n, en, n1, n2⟩ : ∃ n : Int, SV.da (([.int (1 + v1), .int (1 + v2), .int (200 - v3)] : List PyData).getD i .none) = .da (.int n) ∧ 1 ≤ n ∧ n ≤ 200 := by
      match i, hi with
      | 0, _ => exact ⟨_, rfl, by omega, by omega⟩
      | 1, _ => exact ⟨_, rfl, by omega, by omega⟩
      | 2, _ => exact ⟨_, rfl, by omega, by omega⟩
    refine wgAt en ?_
    obtain ⟨M, hM, M1, M2⟩ : ∃ M : Nat, mny n = 4 * (M : Int) ∧ n ≤ 4 * (M : Int) ∧ M ≤ 51 := by
      obtain ⟨k, hk⟩ := mny_4 (n := n)
      have em := mny_eq (n := n)
      split at em <;> exact ⟨k.toNat, by omega, by omega, by omega⟩
    have hq : (4 * (M : Int) / 4).toNat = M := by omega
    refine ⟨n, rfl, rfl, fun _ => ?_, fun z => z ⟨n1, n2⟩⟩
    rw [hM, hq]
    refine ⟨n, rfl, rfl, ⟨n1, n2⟩, ?_⟩
    rw [hM, hq]
    refine ⟨_, rfl, rfl, smK_shs (by omega), ?_⟩
    refine ⟨RgOk.of_le (by decide) (show n + 1 ≤ 16777216 by omega) (by decide) (show 0 ≤ n + 1 by omega), fun q1 => ?_⟩
    intro q2
    have cm : CMulW 4 (((tab M fun s => shD (sheetF n (4 * (M : Int)) s)).length : Nat) : Int) := by
      rw [tab_len]
      exact (sz_small (x := 4) (by decide)).cmul (sz_small (x := (M : Int)) (by omega))
    refine ⟨cm, _, _, List.getElem?_concat_length, ?_, ?_, fun q3 => ⟨_, _, rgS 1 (n + 1), _, getL (getL List.getElem?_concat_length), List.getElem?_concat_length, ?_, fun q4 => ?_⟩⟩
    · rw [tab_len]
      omega
    · rw [tab_len]
      show 1 * _ ≤ _
      exact Nat.le_trans (show 1 * (4 * (M : Int) - n).toNat ≤ 300 by omega) (by decide)
    · unfold rgS
      rw [tab_len, tab_len, rep_tab, tab_len]
      exact Nat.le_trans (show (n + 1 - 1).toNat + (4 * (M : Int) - n).toNat ≤ 600 by omega) (by decide)
    have ep : rgS 1 (n + 1) ++ (List.replicate (4 * (M : Int) - n).toNat [SV.da (.int 0)]).flatten = (ahd (sheetF n (4 * M)) M ++ beh (sheetF n (4 * M)) M).map SV.da := pages_eq n1 M1
    have el : (((tab M fun s => shD (sheetF n (4 * (M : Int)) s)).length : Nat) : Int) = M := by rw [tab_len]
    refine ⟨M, _, rfl, rfl, by omega, ?_⟩
    refine ⟨_, _, _, ahd (sheetF n (4 * M)) M ++ beh (sheetF n (4 * M)) M, getL List.getElem?_concat_length, rfl, ?_, ?_⟩
    · refine Eq.trans (congrArg das ?_) (das_da _)
      refine Eq.trans ?_ ep
      rw [tab_len]
    refine ⟨_, rfl, rfl, smK_read (by omega), ?_⟩
    refine ⟨?_, _, _, _, rfl⟩
    repeat (first | exact hS | apply Stp.app)
  · rintro _ L' ⟨hS, a, b, c, rfl⟩
    refine call_take hS (by decide) fun v4 L4 a4 b4 s4 => ?_
    refine call_take s4 (by decide) fun v5 L5 a5 b5 s5 => ?_
    refine ⟨fun i δ' L' => Stp p L' ∧ ∃ a b c d : SV, δ' = [.rf s, .rf p, a, b, c, d, .un, .un, .un], ⟨s5, _, _, _, _, rfl⟩, fun _ _ _ _ _ => trivial, ?_, ?_⟩
    · rintro i _ L' hi ⟨hS, a, b, c, d, rfl⟩
      obtain ⟨n, en, n1⟩ : ∃ n : Int, SV.da (([.int 0, .int 201, .int (0 - v4), .int (201 + v5)] : List PyData).getD i .none) = .da (.int n) ∧ ¬ (1 ≤ n ∧ n ≤ 200) := by
        match i, hi with
        | 0, _ => exact ⟨_, rfl, by omega⟩
        | 1, _ => exact ⟨_, rfl, by omega⟩
        | 2, _ => exact ⟨_, rfl, by omega⟩
        | 3, _ => exact ⟨_, rfl, by omega⟩
      refine wgAt en ?_
      refine ⟨n, rfl, rfl, fun z => absurd z n1, fun _ => ⟨[("code", "size")], rfl, by simp, rfl, fun ea ed => ?_⟩⟩
      refine ⟨rfl, rfl, rfl, "size", rfl, ?_⟩
      refine ⟨trivial, ?_⟩
      refine ⟨?_, _, _, _, _, rfl⟩
      repeat (first | exact hS | apply Stp.app)
    · rintro _ L' ⟨hS, a, b, c, d, rfl⟩
      refine call_take hS (by decide) fun v6 L6 a6 b6 s6 => ?_
      obtain ⟨A, ds6, C, rfl⟩ := s6
      refine ⟨⟨by omega, by omega⟩, ?_⟩
      refine LcB.of fun Da => ?_
      refine ⟨fun i L' => ∃ (ds' : List Int) (C1 C2 : LS) (f : F4), L' = A ++ [(p, DO.lst (ci ds'))] ++ (C1 ++ [(Da, .lst (tab i fun s => .da (shD (f s))))] ++ C2), ⟨ds6, C, [], fun _ => (0, 0, 0, 0), by rw [List.append_nil, List.append_assoc]; rfl⟩, fun _ _ _ _ => trivial, ?_, ?_⟩
      · rintro i _ hi ⟨ds', C1, C2, f, rfl⟩
        have hi : i < v6.toNat := hi
        refine ⟨⟨by decide, by decide⟩, four_draws rfl (fun _ => trivial) ?_ fun Db ds2 q => ?_⟩
        · intro j hj ds3 C3 Q' hq
          exact call_takeM rfl (by decide) fun v ds4 _ _ => hq (v - 9) ds4
        · have e2 : A ++ [(p, DO.lst (ci ds2))] ++ ((C1 ++ [(Da, .lst (tab i fun s => .da (shD (f s))))] ++ C2) ++ [(Db, .lst (tab 4 fun i => .da (.int (q i))))]) = (A ++ [(p, DO.lst (ci ds2))] ++ C1) ++ (Da, .lst (tab i fun s => .da (shD (f s)))) :: (C2 ++ [(Db, .lst (tab 4 fun i => .da (.int (q i))))]) := by simp only [List.append_assoc, List.singleton_append, List.cons_append, List.nil_append]
          have e3 : A ++ [(p, DO.lst (ci ds2))] ++ ((C1 ++ [(Da, .lst (tab i fun s => .da (shD (f s))))] ++ C2) ++ [(Db, .lst (tab 4 fun i => .da (.int (q i))))]) = (A ++ [(p, DO.lst (ci ds2))] ++ (C1 ++ [(Da, .lst (tab i fun s => .da (shD (f s))))] ++ C2)) ++ (Db, .lst (tab 4 fun i => .da (.int (q i)))) :: [] := by simp only [List.append_assoc]
          refine ⟨_, _, _, _, mid_at e3, rfl, das_tab _ _, _, _, mid_at e2, ?_, ds2, C1, C2 ++ [(Db, .lst (tab 4 fun i => .da (.int (q i))))], fun s => if s < i then f s else (q 0, q 1, q 2, q 3), ?_⟩
          · rw [tab_len]
            exact small1000 (by omega)
          · refine (mid_set e2).trans ?_
            have es : (tab (i + 1) fun s => SV.da (shD (if s < i then f s else (q 0, q 1, q 2, q 3)))) = (tab i fun s => SV.da (shD (f s))) ++ [SV.da (.tuple (tab 4 fun i => .int (q i)))] := tab_snoc (fun x => SV.da (shD x)) f (q 0, q 1, q 2, q 3) i
            rw [← es]
            simp only [List.append_assoc, List.singleton_append, List.cons_append, List.nil_append]
      · rintro _ ⟨ds', C1, C2, f, rfl⟩
        have e2 : A ++ [(p, DO.lst (ci ds'))] ++ (C1 ++ [(Da, .lst (tab v6.toNat fun s => .da (shD (f s))))] ++ C2) = (A ++ [(p, DO.lst (ci ds'))] ++ C1) ++ (Da, .lst (tab v6.toNat fun s => .da (shD (f s)))) :: C2 := by simp only [List.append_assoc, List.singleton_append, List.cons_append, List.nil_append]
        refine ⟨_, _, _, _, mid_at e2, rfl, das_tab _ _, ?_⟩
        refine ⟨v6.toNat, f, rfl, rfl, by omega, v6.toNat, f, rfl, rfl, by omega, ?_⟩
        exact ⟨_, rfl, rfl, smK_read (by omega), q _⟩
end
end My
namespace My
open PySem PySem.Spec PyProof.Rows L2 Pd
theorem all_mk {w : World} {K : PySem.W.Frag} {h : Heap} {mg : Str → Option Value} {fa : Addr} (X : K.In h) (G : h.Ns mainGlobals mg) (hfa : mg "law" = some (.ref fa))
    {f0 : Addr} {od0 an0 : Option Addr} {sl0 : Array (Option Value)} {oc0 kV0 dc0 pm0 cd0 ct0 : Value} (a0 : PySem.W.nsIn K mainGlobals "booklet" = some (some (.ref f0))) (l0 : K.lookup f0 = some ⟨oc0, od0, .func (PySem.W.fnOf "booklet" "booklet" (defArgs s_booklet) (defBody s_booklet) (defScope s_booklet) .none kV0 dc0 pm0 an0 cd0 ct0), sl0⟩) (c0 : PySem.W.codeIn K cd0 "booklet" = true) (k0 : PySem.W.keepIn K (.ref f0) = true)
    {f1 : Addr} {od1 an1 : Option Addr} {sl1 : Array (Option Value)} {oc1 kV1 dc1 pm1 cd1 ct1 : Value} (a1 : PySem.W.nsIn K mainGlobals "read_through" = some (some (.ref f1))) (l1 : K.lookup f1 = some ⟨oc1, od1, .func (PySem.W.fnOf "read_through" "read_through" (defArgs s_read_through) (defBody s_read_through) (defScope s_read_through) .none kV1 dc1 pm1 an1 cd1 ct1), sl1⟩) (c1 : PySem.W.codeIn K cd1 "read_through" = true) (k1 : PySem.W.keepIn K (.ref f1) = true)
    {f2 : Addr} {od2 an2 : Option Addr} {sl2 : Array (Option Value)} {oc2 kV2 dc2 pm2 cd2 ct2 : Value} (a2 : PySem.W.nsIn K mainGlobals "_law_draws" = some (some (.ref f2))) (l2 : K.lookup f2 = some ⟨oc2, od2, .func (PySem.W.fnOf "_law_draws" "_law_draws" (defArgs s_law_draws) (defBody s_law_draws) (defScope s_law_draws) .none kV2 dc2 pm2 an2 cd2 ct2), sl2⟩) (c2 : PySem.W.codeIn K cd2 "_law_draws" = true) (k2 : PySem.W.keepIn K (.ref f2) = true)
    {f3 : Addr} {od3 an3 : Option Addr} {sl3 : Array (Option Value)} {oc3 kV3 dc3 pm3 cd3 ct3 : Value} (a3 : PySem.W.nsIn K mainGlobals "_law_take" = some (some (.ref f3))) (l3 : K.lookup f3 = some ⟨oc3, od3, .func (PySem.W.fnOf "_law_take" "_law_take" (defArgs s_law_take) (defBody s_law_take) (defScope s_law_take) .none kV3 dc3 pm3 an3 cd3 ct3), sl3⟩) (c3 : PySem.W.codeIn K cd3 "_law_take" = true) (k3 : PySem.W.keepIn K (.ref f3) = true)
    {f4 : Addr} {od4 an4 : Option Addr} {sl4 : Array (Option Value)} {oc4 kV4 dc4 pm4 cd4 ct4 : Value} (a4 : PySem.W.nsIn K mainGlobals "_law_same" = some (some (.ref f4))) (l4 : K.lookup f4 = some ⟨oc4, od4, .func (PySem.W.fnOf "_law_same" "_law_same" (defArgs s_law_same) (defBody s_law_same) (defScope s_law_same) .none kV4 dc4 pm4 an4 cd4 ct4), sl4⟩) (c4 : PySem.W.codeIn K cd4 "_law_same" = true) (k4 : PySem.W.keepIn K (.ref f4) = true)
    {f5 : Addr} {od5 an5 : Option Addr} {sl5 : Array (Option Value)} {oc5 kV5 dc5 pm5 cd5 ct5 : Value} (a5 : PySem.W.nsIn K mainGlobals "_law_sheets" = some (some (.ref f5))) (l5 : K.lookup f5 = some ⟨oc5, od5, .func (PySem.W.fnOf "_law_sheets" "_law_sheets" (defArgs s_law_sheets) (defBody s_law_sheets) (defScope s_law_sheets) .none kV5 dc5 pm5 an5 cd5 ct5), sl5⟩) (c5 : PySem.W.codeIn K cd5 "_law_sheets" = true) (k5 : PySem.W.keepIn K (.ref f5) = true)
    {f6 : Addr} {od6 an6 : Option Addr} {sl6 : Array (Option Value)} {oc6 kV6 dc6 pm6 cd6 ct6 : Value} (a6 : PySem.W.nsIn K mainGlobals "_law_read" = some (some (.ref f6))) (l6 : K.lookup f6 = some ⟨oc6, od6, .func (PySem.W.fnOf "_law_read" "_law_read" (defArgs s_law_read) (defBody s_law_read) (defScope s_law_read) .none kV6 dc6 pm6 an6 cd6 ct6), sl6⟩) (c6 : PySem.W.codeIn K cd6 "_law_read" = true) (k6 : PySem.W.keepIn K (.ref f6) = true)
    {f7 : Addr} {od7 an7 : Option Addr} {sl7 : Array (Option Value)} {oc7 kV7 dc7 pm7 cd7 ct7 : Value} (a7 : PySem.W.nsIn K mainGlobals "law" = some (some (.ref f7))) (l7 : K.lookup f7 = some ⟨oc7, od7, .func (PySem.W.fnOf "law" "law" (defArgs s_law) (defBody s_law) (defScope s_law) .none kV7 dc7 pm7 an7 cd7 ct7), sl7⟩) (c7 : PySem.W.codeIn K cd7 "law" = true) (k7 : PySem.W.keepIn K (.ref f7) = true)
    (z_all : PySem.W.nsIn K mainGlobals "all" = some none)
    (z_bool : PySem.W.nsIn K mainGlobals "bool" = some none)
    (z_int : PySem.W.nsIn K mainGlobals "int" = some none)
    (z_isinstance : PySem.W.nsIn K mainGlobals "isinstance" = some none)
    (z_len : PySem.W.nsIn K mainGlobals "len" = some none)
    (z_list : PySem.W.nsIn K mainGlobals "list" = some none)
    (z_range : PySem.W.nsIn K mainGlobals "range" = some none)
    (z_str : PySem.W.nsIn K mainGlobals "str" = some none)
    (z_tuple : PySem.W.nsIn K mainGlobals "tuple" = some none)
    {t_MOST_PAGES : Tok} (x_MOST_PAGES : PySem.W.nsIn K mainGlobals "MOST_PAGES" = some (some (.int 200 t_MOST_PAGES)))
    {t_ON_A_SHEET : Tok} (x_ON_A_SHEET : PySem.W.nsIn K mainGlobals "ON_A_SHEET" = some (some (.int 4 t_ON_A_SHEET)))
    {cC_PressError : Addr} (gc_PressError : PySem.W.nsIn K mainGlobals "PressError" = some (some (.ref cC_PressError)))
    (exC_PressError : PySem.W.subIn K (.ref cC_PressError) (.type "BaseException") = some true)
    (tyC_PressError : PySem.W.typeIn K (.ref cC_PressError) = some (.type "type"))
    (slf_PressError : PySem.W.subIn K (.ref cC_PressError) (.ref cC_PressError) = some true)
    (noc_PressError : PySem.W.findIn K (.ref cC_PressError) "code" = some none)
    (exm_PressError : PySem.W.exmOne K (.ref cC_PressError) (.ref cC_PressError) = some true)
    (ga_PressError : PySem.W.findIn K (.ref cC_PressError) "__getattribute__" = some (some (.builtin "BaseException.__getattribute__")))
    (gg_PressError : PySem.W.findIn K (.ref cC_PressError) "__getattr__" = some none)
    (hdC_PressError : PySem.W.hasDictIn K cC_PressError = true)
    {fC_PressError ccC_PressError kcC_PressError NC_PressError : Addr} {nmC_PressError qC_PressError : Str} {bsC_PressError bmC_PressError subC_PressError : List Value} {snC_PressError : List Str} {abC_PressError : Bool} {colC_PressError : Option Bool} {ddC_PressError : Option Addr} {k0C_PressError k1C_PressError k2C_PressError k3C_PressError k5C_PressError : Option Value} {ocC_PressError kVC_PressError docC_PressError pmC_PressError ctC_PressError o1C_PressError p1C_PressError : Value} {odC_PressError anC_PressError o2C_PressError p2C_PressError : Option Addr} {oslC_PressError o3C_PressError p3C_PressError : Array (Option Value)} {vsC_PressError : Array Value} {fileC_PressError : Str} {tfC_PressError : Tok}
    (lkC_PressError : K.lookup cC_PressError = some (excClassObj nmC_PressError qC_PressError cC_PressError NC_PressError bsC_PressError bmC_PressError true snC_PressError subC_PressError abC_PressError colC_PressError ddC_PressError k0C_PressError k1C_PressError k2C_PressError k3C_PressError k5C_PressError "ValueError.__new__"))
    (rvC_PressError : PySem.HandSPX.refsVE bmC_PressError = true)
    (saC_PressError : PySem.W.findIn K (.ref cC_PressError) "__setattr__" = some (some (.builtin "object.__setattr__")))
    (kpC_PressError : PySem.W.keepIn K (.ref cC_PressError) = true)
    (iC_PressError : PySem.W.findIn K (.ref cC_PressError) "__init__" = some (some (.ref fC_PressError)))
    (tI_PressError : PySem.W.typeIn K (.ref fC_PressError) = some (.type "function"))
    (lkf_PressError : K.lookup fC_PressError = some ⟨ocC_PressError, odC_PressError, .func (PySem.W.ksFn "__init__" "PressError.__init__" (defArgs si_PressError) (defBody si_PressError) (defScope si_PressError) .none kVC_PressError docC_PressError pmC_PressError anC_PressError (.ref kcC_PressError) ctC_PressError ccC_PressError), oslC_PressError⟩)
    (cdI_PressError : PySem.W.codeIn K (.ref kcC_PressError) "PressError.__init__" = true)
    (lkk_PressError : K.lookup kcC_PressError = some ⟨o1C_PressError, o2C_PressError, .fields vsC_PressError, o3C_PressError⟩)
    (v2_PressError : vsC_PressError[2]? = some (.str fileC_PressError tfC_PressError))
    (fe_PressError : ((PySem.Challenge.pw_inkworks_k51_booklets.main.file : Str) == fileC_PressError) = true)
    (lcc_PressError : K.lookup ccC_PressError = some ⟨p1C_PressError, p2C_PressError, .cell (some (.ref cC_PressError)), p3C_PressError⟩)
    (sup_PressError : PySem.W.ks_superIn K cC_PressError cC_PressError "__init__" = some (some (.builtin "ValueError.__init__")))
    (veC_PressError : PySem.W.subIn K (.ref cC_PressError) (.type "ValueError") = some true)
    (stt_PressError : PySem.W.nsIn K cStatics "thirdparty.any" = some none)
    (z_super : PySem.W.nsIn K mainGlobals "super" = some none)
    : ∃ fd : FuncData, (∀ (s : Shared) (v : Value), BindsTo s fd ⟨[v], []⟩ [("script", v)]) ∧ ∀ base : Heap, K.In base → base.Ns mainGlobals mg → FnOk PySem.Challenge.pw_inkworks_k51_booklets w K mg base CX0 5 fa fd ["script"] (spD K dspLaw) := by
  have e := hfa.symm.trans (PySem.W.mg_of X G a7)
  cases e
  have F0 := fun_mk (st := s_booklet) l0 c0 k0
  have F1 := fun_mk (st := s_read_through) l1 c1 k1
  have F2 := fun_mk (st := s_law_draws) l2 c2 k2
  have F3 := fun_mk (st := s_law_take) l3 c3 k3
  have F4 := fun_mk (st := s_law_same) l4 c4 k4
  have F5 := fun_mk (st := s_law_sheets) l5 c5 k5
  have F6 := fun_mk (st := s_law_read) l6 c6 k6
  have F7 := fun_mk (st := s_law) l7 c7 k7
  have b0 := F0.binds (ps := ["n"]) fun _ _ _ _ _ _ us hl => match us, hl with | [_], _ => rfl
  have b1 := F1.binds (ps := ["sheets"]) fun _ _ _ _ _ _ us hl => match us, hl with | [_], _ => rfl
  have b2 := F2.binds (ps := ["script", "count"]) fun _ _ _ _ _ _ us hl => match us, hl with | [_, _], _ => rfl
  have b3 := F3.binds (ps := ["draws", "limit"]) fun _ _ _ _ _ _ us hl => match us, hl with | [_, _], _ => rfl
  have b4 := F4.binds (ps := ["found", "due"]) fun _ _ _ _ _ _ us hl => match us, hl with | [_, _], _ => rfl
  have b5 := F5.binds (ps := ["n"]) fun _ _ _ _ _ _ us hl => match us, hl with | [_], _ => rfl
  have b6 := F6.binds (ps := ["sheets"]) fun _ _ _ _ _ _ us hl => match us, hl with | [_], _ => rfl
  have b7 := F7.binds (ps := ["script"]) fun _ _ _ _ _ _ us hl => match us, hl with | [_], _ => rfl
  let T : Tp K mg := { a_booklet := f0, d_booklet := _, F_booklet := F0, b_booklet := b0, g_booklet := PySem.W.mg_of X G a0, a_read_through := f1, d_read_through := _, F_read_through := F1, b_read_through := b1, g_read_through := PySem.W.mg_of X G a1, a_law_draws := f2, d_law_draws := _, F_law_draws := F2, b_law_draws := b2, g_law_draws := PySem.W.mg_of X G a2, a_law_take := f3, d_law_take := _, F_law_take := F3, b_law_take := b3, g_law_take := PySem.W.mg_of X G a3, a_law_same := f4, d_law_same := _, F_law_same := F4, b_law_same := b4, g_law_same := PySem.W.mg_of X G a4, a_law_sheets := f5, d_law_sheets := _, F_law_sheets := F5, b_law_sheets := b5, g_law_sheets := PySem.W.mg_of X G a5, a_law_read := f6, d_law_read := _, F_law_read := F6, b_law_read := b6, g_law_read := PySem.W.mg_of X G a6, a_law := _, d_law := _, F_law := F7, b_law := b7, g_law := PySem.W.mg_of X G a7, c_PressError := _, gc_PressError := PySem.W.mg_of X G gc_PressError, f_PressError := fC_PressError, fd_PressError := PySem.W.ksFn "__init__" "PressError.__init__" (defArgs si_PressError) (defBody si_PressError) (defScope si_PressError) .none kVC_PressError docC_PressError pmC_PressError anC_PressError (.ref kcC_PressError) ctC_PressError ccC_PressError, cc_PressError := ccC_PressError, bi_PressError := .all fun us hl => match us, hl with | [_, _], _ => rfl, ex_PressError := exm_PressError, xf_PressError := ⟨ga_PressError, gg_PressError, exC_PressError, hdC_PressError⟩, no_PressError := noc_PressError, n_all := PySem.W.mg_none_of X G z_all, n_bool := PySem.W.mg_none_of X G z_bool, n_int := PySem.W.mg_none_of X G z_int, n_isinstance := PySem.W.mg_none_of X G z_isinstance, n_len := PySem.W.mg_none_of X G z_len, n_list := PySem.W.mg_none_of X G z_list, n_range := PySem.W.mg_none_of X G z_range, n_str := PySem.W.mg_none_of X G z_str, n_tuple := PySem.W.mg_none_of X G z_tuple, c_MOST_PAGES := ⟨_, PySem.W.mg_of X G x_MOST_PAGES⟩, c_ON_A_SHEET := ⟨_, PySem.W.mg_of X G x_ON_A_SHEET⟩ }
  refine ⟨T.d_law, fun s v => .of_eq rfl, fun base _ _ => ?_⟩
  have IC_PressError : InitC PySem.Challenge.pw_inkworks_k51_booklets K cC_PressError fC_PressError "PressError.__init__" si_PressError T.fd_PressError ccC_PressError := ⟨⟨⟨_, _, _, _, _, _, _, _, _, _, _, _, _, _, _, lkC_PressError, rvC_PressError⟩, saC_PressError, exC_PressError, tyC_PressError, kpC_PressError⟩, ⟨_, _, _, _, _, _, _, _, _, kcC_PressError, _, _, _, _, rfl, lkf_PressError, cdI_PressError, lkk_PressError, rfl, v2_PressError, fe_PressError⟩, ⟨_, lcc_PressError, rfl⟩, sup_PressError, veC_PressError, slf_PressError, stt_PressError, noc_PressError, iC_PressError, tI_PressError⟩
  have GC_PressError := init_ok (P := PySem.Challenge.pw_inkworks_k51_booklets) (w := w) (mg := mg) (base := base) (st := si_PressError) IC_PressError rfl rfl rfl rfl (by decide +kernel) (by decide +kernel) rfl rfl rfl rfl rfl rfl (fun _ => rfl) rfl (PySem.W.mg_none_of X G z_super)
  have G_booklet := ok_booklet (P := PySem.Challenge.pw_inkworks_k51_booklets) (w := w) (base := base) T IC_PressError GC_PressError
  have G_read_through := ok_read_through (P := PySem.Challenge.pw_inkworks_k51_booklets) (w := w) (base := base) T
  have G_law_draws := ok_law_draws (P := PySem.Challenge.pw_inkworks_k51_booklets) (w := w) (base := base) T
  have G_law_take := ok_law_take (P := PySem.Challenge.pw_inkworks_k51_booklets) (w := w) (base := base) T
  have G_law_same := ok_law_same (P := PySem.Challenge.pw_inkworks_k51_booklets) (w := w) (base := base) T
  have G_law_sheets := ok_law_sheets (P := PySem.Challenge.pw_inkworks_k51_booklets) (w := w) (base := base) T
  have G_law_read := ok_law_read (P := PySem.Challenge.pw_inkworks_k51_booklets) (w := w) (base := base) T
  have G_law := ok_law (P := PySem.Challenge.pw_inkworks_k51_booklets) (w := w) (base := base) T G_booklet G_read_through G_law_draws G_law_take G_law_same G_law_sheets G_law_read
  exact G_law
end My
open PySem PySem.W PyProof.Rows
set_option maxHeartbeats 0 in
theorem PySem.Challenge.cw_inkworks_k51_booklets_holds : PySem.Challenge.rw_inkworks_k51_booklets.Holds := by
  w_on; o_law; k_head; (case hw => w_witness2)
  k_fill
  refine L2.walk_of (l := PySem.Challenge.rw_inkworks_k51_booklets) (n := 63) (k := 5) (x := "script") (CX := fun _ => L2.CX0) (sp := fun w => Pd.spD _ Pd.dspLaw) rfl (by decide) rfl ⟨rfl, by decide, by decide⟩ (fun w h Y => PySem.W.kIn_of Y) ?F (fun _ _ a ns hl hO hS => Pd.law_sp hl hO hS) (fun _ _ _ _ _ h => h)
  case F =>
    intro w mg fa h KX G hmg
    refine' My.all_mk KX G hmg ?a0 ?l0 ?c0 ?k0 ?a1 ?l1 ?c1 ?k1 ?a2 ?l2 ?c2 ?k2 ?a3 ?l3 ?c3 ?k3 ?a4 ?l4 ?c4 ?k4 ?a5 ?l5 ?c5 ?k5 ?a6 ?l6 ?c6 ?k6 ?a7 ?l7 ?c7 ?k7 ?z_all ?z_bool ?z_int ?z_isinstance ?z_len ?z_list ?z_range ?z_str ?z_tuple ?x_MOST_PAGES ?x_ON_A_SHEET ?gc_PressError ?exC_PressError ?tyC_PressError ?slf_PressError ?noc_PressError ?exm_PressError ?ga_PressError ?gg_PressError ?hdC_PressError ?lkC_PressError ?rvC_PressError ?saC_PressError ?kpC_PressError ?iC_PressError ?tI_PressError ?lkf_PressError ?cdI_PressError ?lkk_PressError ?v2_PressError ?fe_PressError ?lcc_PressError ?sup_PressError ?veC_PressError ?stt_PressError ?z_super
    (case a0 => k_is); (case l0 => k_is); (case c0 => k_is); (case k0 => k_is); (case a1 => k_is); (case l1 => k_is); (case c1 => k_is); (case k1 => k_is); (case a2 => k_is); (case l2 => k_is); (case c2 => k_is); (case k2 => k_is); (case a3 => k_is); (case l3 => k_is); (case c3 => k_is); (case k3 => k_is); (case a4 => k_is); (case l4 => k_is); (case c4 => k_is); (case k4 => k_is); (case a5 => k_is); (case l5 => k_is); (case c5 => k_is); (case k5 => k_is); (case a6 => k_is); (case l6 => k_is); (case c6 => k_is); (case k6 => k_is); (case a7 => k_is); (case l7 => k_is); (case c7 => k_is); (case k7 => k_is); (case z_all => k_is); (case z_bool => k_is); (case z_int => k_is); (case z_isinstance => k_is); (case z_len => k_is); (case z_list => k_is); (case z_range => k_is); (case z_str => k_is); (case z_tuple => k_is); (case x_MOST_PAGES => k_is); (case x_ON_A_SHEET => k_is); (case gc_PressError => k_is); (case exC_PressError => k_is); (case tyC_PressError => k_is); (case slf_PressError => first | rfl | decide +kernel | k_is); (case noc_PressError => k_is); (case exm_PressError => kts_exm); (case ga_PressError => k_is); (case gg_PressError => k_is); (case hdC_PressError => k_is); (case lkC_PressError => k_is); (case rvC_PressError => first | rfl | decide +kernel | k_is); (case saC_PressError => k_is); (case kpC_PressError => k_is); (case iC_PressError => k_is); (case tI_PressError => k_is); (case lkf_PressError => k_is); (case cdI_PressError => k_is); (case lkk_PressError => k_is); (case v2_PressError => first | rfl | decide +kernel | k_is); (case fe_PressError => first | rfl | decide +kernel | k_is); (case lcc_PressError => k_is); (case sup_PressError => ks_is); (case veC_PressError => k_is); (case stt_PressError => k_is); (case z_super => k_is)
