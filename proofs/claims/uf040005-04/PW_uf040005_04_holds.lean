import PyProof.Rows.All
import Wide.All
import OpenK.AllK
import Wide.FinOn
import PySem.Challenge.RW_uf040005_04
set_option autoImplicit false
set_option Elab.async false
set_option linter.unusedSimpArgs false
set_option linter.unusedVariables false
set_option maxRecDepth 100000
namespace Mine
open PySem PySem.Calls PyProof.Rows

/-- pure data -/
inductive D where
  | none
  | bool (b : Bool)
  | int (i : Int)
  | str (x : Str)
  | tup (ds : List D)
  | lst (ds : List D)

/-- no list within, nested n deep at most -/
noncomputable def D.okN : Nat → D → Bool
  | 0, .tup _ => false
  | n + 1, .tup ds => ds.all (okN n)
  | _, .lst _ => false
  | _, _ => true
noncomputable def D.pure (d : D) : Bool := d.okN 8
noncomputable def D.pures (ds : List D) : Bool := ds.all D.pure
@[simp] theorem D.okN_none (n : Nat) : D.okN n .none = true := by cases n <;> rfl
@[simp] theorem D.okN_bool (n : Nat) (b : Bool) : D.okN n (.bool b) = true := by cases n <;> rfl
@[simp] theorem D.okN_int (n : Nat) (b : Int) : D.okN n (.int b) = true := by cases n <;> rfl
@[simp] theorem D.okN_str (n : Nat) (b : Str) : D.okN n (.str b) = true := by cases n <;> rfl
@[simp] theorem D.okN_lst (n : Nat) (b : List D) : D.okN n (.lst b) = false := by cases n <;> rfl
theorem D.okN_tup (n : Nat) (ds : List D) : D.okN (n + 1) (.tup ds) = ds.all (D.okN n) := rfl
theorem D.okN_succ : ∀ (n : Nat) (d : D), d.okN n = true → d.okN (n + 1) = true
  | 0, .tup _, h => by simp [D.okN] at h
  | n + 1, .tup ds, h => by
    simp only [D.okN_tup, List.all_eq_true] at h ⊢
    exact fun x hx => D.okN_succ n x (h x hx)
  | _, .none, _ => by simp
  | _, .bool _, _ => by simp
  | _, .int _, _ => by simp
  | _, .str _, _ => by simp
  | _, .lst _, h => by simp at h
theorem D.okN_le {n m : Nat} (h : n ≤ m) {d : D} (e : d.okN n = true) : d.okN m = true := by
  induction h with
  | refl => exact e
  | step _ ih => exact D.okN_succ _ _ ih
@[simp] theorem D.pure_none : D.pure .none = true := rfl
@[simp] theorem D.pure_bool (b : Bool) : D.pure (.bool b) = true := rfl
@[simp] theorem D.pure_int (b : Int) : D.pure (.int b) = true := rfl
@[simp] theorem D.pure_str (b : Str) : D.pure (.str b) = true := rfl
theorem D.pure_item {ds : List D} (h : D.pure (.tup ds) = true) : D.pures ds = true := by
  simp only [D.pure, D.okN_tup, D.pures, List.all_eq_true] at h ⊢
  exact fun x hx => D.okN_succ _ _ (h x hx)

mutual
/-- Python's == upon pure data -/
noncomputable def D.eqb : D → D → Bool
  | .none, .none => true
  | .bool a, .bool b => a == b
  | .int a, .int b => a == b
  | .bool a, .int b => (if a then 1 else 0) == b
  | .int a, .bool b => a == (if b then 1 else 0)
  | .str a, .str b => a == b
  | .tup a, .tup b => D.eqbs a b
  | _, _ => false
noncomputable def D.eqbs : List D → List D → Bool
  | [], [] => true
  | a :: as, b :: bs => D.eqb a b && D.eqbs as bs
  | _, _ => false
end

/-- the greatest length of a tuple or list here -/
noncomputable def lim : Nat := 1000000

mutual
inductive V (h : Heap) : Value → D → Prop
  | none : V h .none .none
  | bool (b : Bool) : V h (.bool b) (.bool b)
  | int (i : Int) (t : Tok) : V h (.int i t) (.int i)
  | str (x : Str) (t : Tok) : V h (.str x t) (.str x)
  | tup {a : Addr} {vs : List Value} {ds : List D} : h.IsTuple a vs.toArray → Vs h vs ds → ds.length ≤ lim → V h (.ref a) (.tup ds)
  | lst {a : Addr} {vs : List Value} {ds : List D} : h.PlainList a vs.toArray → Vs h vs ds → ds.length ≤ lim → V h (.ref a) (.lst ds)
inductive Vs (h : Heap) : List Value → List D → Prop
  | nil : Vs h [] []
  | cons {v : Value} {vs : List Value} {d : D} {ds : List D} : V h v d → Vs h vs ds → Vs h (v :: vs) (d :: ds)
end

theorem IsTuple_keep {h h' : Heap} {a : Addr} {items : Array Value} (x : h.IsTuple a items) (k : ∀ b o, h.get? b = some o → h'.get? b = some o) : h'.IsTuple a items :=
  let ⟨o, ho, r⟩ := x; ⟨o, k a o ho, r⟩
theorem IsList_keep {h h' : Heap} {a : Addr} {items : Array Value} (x : h.IsList a items) (k : ∀ b o, h.get? b = some o → h'.get? b = some o) : h'.IsList a items :=
  let ⟨o, ho, r⟩ := x; ⟨o, k a o ho, r⟩

mutual
theorem V.mono {h h' : Heap} (k : ∀ b o, h.get? b = some o → h'.get? b = some o) : ∀ {v : Value} {d : D}, V h v d → V h' v d
  | _, _, .none => .none
  | _, _, .bool b => .bool b
  | _, _, .int i t => .int i t
  | _, _, .str x t => .str x t
  | _, _, .tup a b c => .tup (IsTuple_keep a k) (Vs.mono k b) c
  | _, _, .lst a b c => .lst (a.at fun o e => k _ o e) (Vs.mono k b) c
theorem Vs.mono {h h' : Heap} (k : ∀ b o, h.get? b = some o → h'.get? b = some o) : ∀ {v : List Value} {d : List D}, Vs h v d → Vs h' v d
  | _, _, .nil => .nil
  | _, _, .cons a b => .cons (V.mono k a) (Vs.mono k b)
end

/-- pure data hangs on tuples alone -/
theorem V.okKeep {h h' : Heap} (k : ∀ a items, h.IsTuple a items → h'.IsTuple a items) : ∀ (n : Nat) {v : Value} {d : D}, V h v d → d.okN n = true → V h' v d
  | _, _, _, .none, _ => .none
  | _, _, _, .bool b, _ => .bool b
  | _, _, _, .int i t, _ => .int i t
  | _, _, _, .str x t, _ => .str x t
  | 0, _, _, .tup .., e => by simp [D.okN] at e
  | n + 1, _, _, .tup (vs := vs) (ds := ds) a b c, e => by
    rw [D.okN_tup] at e
    refine .tup (k _ _ a) ?_ c
    have go : ∀ (vs : List Value) (ds : List D), Vs h vs ds → ds.all (D.okN n) = true → Vs h' vs ds := by
      intro vs
      induction vs with
      | nil => intro ds x _; cases x; exact .nil
      | cons v vs ih =>
        intro ds x e
        cases x with
        | cons p q =>
          simp only [List.all_cons, Bool.and_eq_true] at e
          exact .cons (V.okKeep k n p e.1) (ih _ q e.2)
    exact go vs ds b e
  | _, _, _, .lst .., e => by simp at e
theorem V.pureKeep {h h' : Heap} (k : ∀ a items, h.IsTuple a items → h'.IsTuple a items) {v : Value} {d : D} (x : V h v d) (e : d.pure = true) : V h' v d := V.okKeep k 8 x e
theorem Vs.pureKeep {h h' : Heap} (k : ∀ a items, h.IsTuple a items → h'.IsTuple a items) : ∀ {v : List Value} {d : List D}, Vs h v d → D.pures d = true → Vs h' v d
  | _, _, .nil, _ => .nil
  | _, _, .cons a b, e => by
    simp only [D.pures, List.all_cons, Bool.and_eq_true] at e
    exact .cons (V.pureKeep k a e.1) (Vs.pureKeep k b e.2)

section
variable {h : Heap} {vs ws : List Value} {ds es : List D} {v : Value} {d : D}
theorem Vs.length (x : Vs h vs ds) : vs.length = ds.length := by
  induction vs generalizing ds with
  | nil => cases x; rfl
  | cons v vs ih => cases x with | cons a b => rw [List.length_cons, List.length_cons, ih b]
theorem Vs.append (x : Vs h vs ds) (y : Vs h ws es) : Vs h (vs ++ ws) (ds ++ es) := by
  induction vs generalizing ds with
  | nil => cases x; exact y
  | cons v vs ih => cases x with | cons a b => exact .cons a (ih b)
theorem Vs.one (x : V h v d) : Vs h [v] [d] := .cons x .nil
theorem Vs.get (x : Vs h vs ds) {k : Nat} (e : ds[k]? = some d) : ∃ v, vs[k]? = some v ∧ V h v d := by
  induction vs generalizing ds k with
  | nil => cases x; simp at e
  | cons v vs ih =>
    cases x with
    | cons a b =>
      cases k with
      | zero => simp at e; subst e; exact ⟨v, rfl, a⟩
      | succ k => simp at e; simpa using ih b e
theorem Vs.get' (x : Vs h vs ds) {k : Nat} (e : vs[k]? = some v) : ∃ d, ds[k]? = some d ∧ V h v d := by
  induction vs generalizing ds k with
  | nil => simp at e
  | cons v vs ih =>
    cases x with
    | cons a b =>
      cases k with
      | zero => simp at e; subst e; exact ⟨_, rfl, a⟩
      | succ k => simp at e; simpa using ih b e
theorem Vs.take (x : Vs h vs ds) (k : Nat) : Vs h (vs.take k) (ds.take k) := by
  induction vs generalizing ds k with
  | nil => cases x; simpa using Vs.nil
  | cons v vs ih =>
    cases x with
    | cons a b =>
      cases k with
      | zero => exact .nil
      | succ k => exact .cons a (ih b k)
theorem Vs.drop (x : Vs h vs ds) (k : Nat) : Vs h (vs.drop k) (ds.drop k) := by
  induction vs generalizing ds k with
  | nil => cases x; simpa using Vs.nil
  | cons v vs ih =>
    cases x with
    | cons a b =>
      cases k with
      | zero => exact .cons a b
      | succ k => exact ih b k
theorem Vs.set (x : Vs h vs ds) (k : Nat) (y : V h v d) : Vs h (vs.set k v) (ds.set k d) := by
  induction vs generalizing ds k with
  | nil => cases x; simpa using Vs.nil
  | cons v vs ih =>
    cases x with
    | cons a b =>
      cases k with
      | zero => exact .cons y b
      | succ k => exact .cons a (ih b k)
end

/-- what a local holds: data; an argument; a list of the frame's own -/
inductive Lo where
  | dat (d : D)
  | arg (d : D)
  | own (ds : List D)
noncomputable def Lo.val : Lo → D
  | .dat d => d
  | .arg d => d
  | .own ds => .lst ds

set_option genSizeOf false
set_option genInjectivity false
inductive Op where | add | sub | mul | div | mod | pow
inductive Cm where | eq | ne | lt | le | gt | ge | is | isNot
inductive Ty where | tuple | int | bool | str

mutual
inductive E where
  | k (d : D)
  | v (i : Nat)
  | bin (o : Op) (a b : E)
  | neg (a : E)
  | not (a : E)
  | cmp (o : Cm) (a b : E)
  | chain (o₁ o₂ : Cm) (a b c : E)
  | and (a b : E)
  | or (a b : E)
  | idx (a i : E)
  | slTo (a hi : E)
  | slFrom (a lo : E)
  | slBoth (a lo hi : E)
  | tup (es : Es)
  | lst (es : Es)
  | call (f : Nat) (es : Es)
  | len (a : E)
  | isi (a : E) (t : Ty)
  | max (a b : E)
  | toInt (a : E)
  | toTup (a : E)
  | toLst (a : E)
  | sorted (a : E)
  | index (a b : E)
  | comp (elt : E) (it : It) (cond : E)
inductive It where
  | range (a : E)
  | range2 (a b : E)
  | seq (a : E)
inductive Es where
  | nil
  | cons (e : E) (es : Es)
end

set_option genInjectivity true
/-- what a call gives: a value, or an own exception by its class's number -/
inductive Out where
  | ok (d : D)
  | err (c : Nat)
abbrev Fns := Nat → List D → Option Out
abbrev Rho := List (Option Lo)
noncomputable def Rho.get (ρ : Rho) (i : Nat) : Option Lo := (ρ[i]?).getD none

/-! taking apart -/
theorem nns {α : Type} {x : α} {P : Prop} (h : (none : Option α) = some x) : P := nomatch h
theorem nnb {P : Prop} (h : false = true) : P := nomatch h
theorem ob {α β : Type} {x : Option α} {f : α → Option β} {b : β} (h : x.bind f = some b) : ∃ a, x = some a ∧ f a = some b := Option.bind_eq_some_iff.mp h
theorem om {α β : Type} {x : Option α} {f : α → β} {b : β} (h : x.map f = some b) : ∃ a, x = some a ∧ f a = b := Option.map_eq_some_iff.mp h
theorem oi {p : Prop} [Decidable p] {α : Type} {x y : α} (h : (if p then some x else none) = some y) : p ∧ x = y := by
  by_cases q : p
  · rw [if_pos q] at h; exact ⟨q, Option.some.inj h⟩
  · rw [if_neg q] at h; cases h
theorem oi' {p : Prop} [Decidable p] {α : Type} {x : Option α} {y : α} (h : (if p then x else none) = some y) : p ∧ x = some y := by
  by_cases q : p
  · rw [if_pos q] at h; exact ⟨q, h⟩
  · rw [if_neg q] at h; cases h

noncomputable def intOf : D → Option Int
  | .int i => some i
  | _ => none
noncomputable def tupOf : D → Option (List D)
  | .tup i => some i
  | _ => none
noncomputable def lstOf : D → Option (List D)
  | .lst i => some i
  | _ => none
noncomputable def strOf : D → Option Str
  | .str i => some i
  | _ => none
noncomputable def isTrueD : D → Option Bool
  | .bool b => some b
  | _ => none
noncomputable def isNoneD : D → Bool
  | .none => true
  | _ => false
noncomputable def items : D → Option (List D)
  | .tup ds => some ds
  | .lst ds => some ds
  | _ => none
theorem intOf_some {d : D} {i : Int} (h : intOf d = some i) : d = .int i := by cases d <;> cases h <;> rfl
theorem tupOf_some {d : D} {i : List D} (h : tupOf d = some i) : d = .tup i := by cases d <;> cases h <;> rfl
theorem lstOf_some {d : D} {i : List D} (h : lstOf d = some i) : d = .lst i := by cases d <;> cases h <;> rfl
theorem strOf_some {d : D} {i : Str} (h : strOf d = some i) : d = .str i := by cases d <;> cases h <;> rfl
theorem isTrueD_some {d : D} {b : Bool} (h : isTrueD d = some b) : d = .bool b := by cases d <;> cases h <;> rfl
noncomputable def i2 {α : Type} (x y : D) (f : Int → Int → Option α) : Option α := (intOf x).bind fun a => (intOf y).bind fun b => f a b
theorem i2_some {α : Type} {x y : D} {f : Int → Int → Option α} {r : α} (h : i2 x y f = some r) : ∃ a b, x = .int a ∧ y = .int b ∧ f a b = some r := by
  replace h := ob h
  obtain ⟨a, ha, h⟩ := h
  replace h := ob h
  obtain ⟨b, hb, h⟩ := h
  exact ⟨a, b, intOf_some ha, intOf_some hb, h⟩

noncomputable def addD (x y : D) : Option D := match x with
  | .int a => (intOf y).map fun b => .int (a + b)
  | .tup a => (tupOf y).bind fun b => if a.length + b.length ≤ lim then some (.tup (a ++ b)) else none
  | .lst a => (lstOf y).bind fun b => if a.length + b.length ≤ lim then some (.lst (a ++ b)) else none
  | _ => none
noncomputable def evBin (o : Op) (x y : D) : Option D := match o with
  | .add => addD x y
  | .sub => i2 x y fun a b => some (.int (a - b))
  | .mul => i2 x y fun a b => if a.natAbs < 1000000000 ∨ b.natAbs < 1000000000 then some (.int (a * b)) else none
  | .div => i2 x y fun a b => if 0 < b ∧ b < 1000000000 then some (.int (a / b)) else none
  | .mod => i2 x y fun a b => if 0 < b then some (.int (a % b)) else none
  | .pow => i2 x y fun a b => if a = 10 ∧ b = 60 then some (.int (10 ^ 60)) else none

noncomputable def evCmp (o : Cm) (x y : D) : Option Bool := match o with
  | .eq => if (x.pure && y.pure) = true then some (x.eqb y) else none
  | .ne => if (x.pure && y.pure) = true then some (!x.eqb y) else none
  | .lt => i2 x y fun a b => some (decide (a < b))
  | .le => i2 x y fun a b => some (decide (a ≤ b))
  | .gt => i2 x y fun a b => some (decide (a > b))
  | .ge => i2 x y fun a b => some (decide (a ≥ b))
  | .is => if isNoneD y = true then some (isNoneD x) else none
  | .isNot => if isNoneD y = true then some (!isNoneD x) else none

noncomputable def evIsi (t : Ty) (x : D) : Bool := match t with
  | .tuple => (tupOf x).isSome
  | .int => (intOf x).isSome || (isTrueD x).isSome
  | .bool => (isTrueD x).isSome
  | .str => (strOf x).isSome

/-- a place of a sequence, from nought; no place below it is asked -/
noncomputable def evIdx (x y : D) : Option D := (items x).bind fun ds => (intOf y).bind fun i => if 0 ≤ i then ds[i.toNat]? else none
noncomputable def negD (x : D) : Option D := (intOf x).map fun i => .int (-i)
noncomputable def notD (x : D) : Option D := (isTrueD x).map fun i => .bool (!i)
noncomputable def maxD (x y : D) : Option D := i2 x y fun a b => some (.int (if b > a then b else a))
noncomputable def toIntD (x : D) : Option D := (isTrueD x).map fun b => .int (if b then 1 else 0)
noncomputable def cutTo (x y : D) : Option D := (tupOf x).bind fun ds => (intOf y).bind fun i => if 0 ≤ i then some (.tup (ds.take i.toNat)) else none
noncomputable def cutFrom (x y : D) : Option D := (tupOf x).bind fun ds => (intOf y).bind fun i => if 0 ≤ i then some (.tup (ds.drop i.toNat)) else none
noncomputable def cutBoth (x y z : D) : Option D := (tupOf x).bind fun ds => (intOf y).bind fun i => (intOf z).bind fun j => if 0 ≤ i ∧ 0 ≤ j then some (.tup ((ds.take j.toNat).drop i.toNat)) else none
noncomputable def str2 : List D → Option (Str × Str)
  | [x, y] => (strOf x).bind fun a => (strOf y).map fun b => (a, b)
  | _ => none
noncomputable def indexD (x y : D) : Option D := (lstOf x).bind fun ds => (str2 ds).bind fun p => (strOf y).bind fun z => if z = p.1 then some (.int 0) else if z = p.2 then some (.int 1) else none
noncomputable def okOf : Out → Option D
  | .ok d => some d
  | .err _ => none
theorem okOf_some {o : Out} {d : D} (h : okOf o = some d) : o = .ok d := by cases o <;> cases h; rfl

/-- a comprehension: the items whose test is true, each by f -/
noncomputable def compO {α β : Type} (c : α → Option Bool) (f : α → Option β) : List α → Option (List β)
  | [] => some []
  | a :: as => (c a).bind fun p => if p = true then (f a).bind fun b => (compO c f as).map fun bs => b :: bs else compO c f as
noncomputable def rangeD (a b : Int) : List D := (List.range (b - a).toNat).map fun (i : Nat) => D.int (a + i)

theorem rangeD_get {a b : Int} {i : Nat} (h : i < (rangeD a b).length) : (rangeD a b)[i]? = some (.int (a + i)) := by
  simp only [rangeD, List.length_map, List.length_range] at h
  simp [rangeD, h]

/-- sorting int pairs: the rising ones with one behind -/
abbrev pr (k : Int × Int) : D := .tup [.int k.1, .int k.2]
noncomputable def ltP (a b : Int × Int) : Bool := if a.1 == b.1 then decide (a.2 < b.2) else decide (a.1 < b.1)
noncomputable def insP (y : Int × Int) (l : List (Int × Int)) : List (Int × Int) := l.takeWhile (fun x => !ltP y x) ++ y :: l.dropWhile (fun x => !ltP y x)
noncomputable def sortK (ks : List (Int × Int)) : Option (List (Int × Int)) :=
  if ks.dropLast.Pairwise (fun a b => ltP a b = true) then some (ks.getLast?.elim [] fun y => insP y ks.dropLast) else none
noncomputable def keyP : D → Option (Int × Int)
  | .tup [.int a, .int b] => some (a, b)
  | _ => none
noncomputable def keysP : List D → Option (List (Int × Int))
  | [] => some []
  | d :: ds => (keyP d).bind fun k => (keysP ds).map fun r => k :: r
noncomputable def sortD (x : D) : Option D := (lstOf x).bind fun ds => (keysP ds).bind fun ks => (sortK ks).map fun r => .lst (r.map pr)

mutual
noncomputable def ev (Φ : Fns) (ρ : Rho) : E → Option D
  | .k d => some d
  | .v i => (ρ.get i).map Lo.val
  | .bin o a b => (ev Φ ρ a).bind fun x => (ev Φ ρ b).bind fun y => evBin o x y
  | .neg a => (ev Φ ρ a).bind negD
  | .not a => (ev Φ ρ a).bind notD
  | .cmp o a b => (ev Φ ρ a).bind fun x => (ev Φ ρ b).bind fun y => (evCmp o x y).map .bool
  | .chain o₁ o₂ a b c => (ev Φ ρ a).bind fun x => (ev Φ ρ b).bind fun y => (evCmp o₁ x y).bind fun p => if p = true then (ev Φ ρ c).bind fun z => (evCmp o₂ y z).map .bool else some (.bool false)
  | .and a b => (ev Φ ρ a).bind fun x => (isTrueD x).bind fun p => if p = true then (ev Φ ρ b).bind fun y => (isTrueD y).map .bool else some (.bool false)
  | .or a b => (ev Φ ρ a).bind fun x => (isTrueD x).bind fun p => if p = true then some (.bool true) else (ev Φ ρ b).bind fun y => (isTrueD y).map .bool
  | .idx a i => (ev Φ ρ a).bind fun x => (ev Φ ρ i).bind fun y => evIdx x y
  | .slTo a hi => (ev Φ ρ a).bind fun x => (ev Φ ρ hi).bind fun y => cutTo x y
  | .slFrom a lo => (ev Φ ρ a).bind fun x => (ev Φ ρ lo).bind fun y => cutFrom x y
  | .slBoth a lo hi => (ev Φ ρ a).bind fun x => (ev Φ ρ lo).bind fun y => (ev Φ ρ hi).bind fun z => cutBoth x y z
  | .tup es => (evs Φ ρ es).map .tup
  | .lst es => (evs Φ ρ es).map .lst
  | .call f es => (evs Φ ρ es).bind fun ds => (Φ f ds).bind okOf
  | .len a => (ev Φ ρ a).bind fun x => (items x).map fun ds => .int ds.length
  | .isi a t => (ev Φ ρ a).map fun d => .bool (evIsi t d)
  | .max a b => (ev Φ ρ a).bind fun x => (ev Φ ρ b).bind fun y => maxD x y
  | .toInt a => (ev Φ ρ a).bind toIntD
  | .toTup a => (ev Φ ρ a).bind fun x => (items x).map .tup
  | .toLst a => (ev Φ ρ a).bind fun x => (items x).map .lst
  | .sorted a => (ev Φ ρ a).bind sortD
  | .index a b => (ev Φ ρ a).bind fun x => (ev Φ ρ b).bind fun y => indexD x y
  | .comp elt it cond => (evIt Φ ρ it).bind fun ds => (compO (fun d => (ev Φ (ρ ++ [some (.dat d)]) cond).bind isTrueD) (fun d => ev Φ (ρ ++ [some (.dat d)]) elt) ds).bind fun res => if D.pures res = true then some (.lst res) else none
noncomputable def evIt (Φ : Fns) (ρ : Rho) : It → Option (List D)
  | .range a => (ev Φ ρ a).bind fun x => (intOf x).bind fun n => if -lim ≤ n ∧ n ≤ lim then some (rangeD 0 n) else none
  | .range2 a b => (ev Φ ρ a).bind fun x => (ev Φ ρ b).bind fun y => i2 x y fun m n => if 0 ≤ m ∧ m ≤ lim ∧ -lim ≤ n ∧ n ≤ lim then some (rangeD m n) else none
  | .seq a => (ev Φ ρ a).bind fun d => (items d).bind fun ds => if D.pures ds = true then some ds else none
noncomputable def evs (Φ : Fns) (ρ : Rho) : Es → Option (List D)
  | .nil => some []
  | .cons e es => (ev Φ ρ e).bind fun d => (evs Φ ρ es).map fun ds => d :: ds
end
end Mine

namespace Mine
open PySem PySem.Calls PyProof.Rows PySem.SeqAt

theorem keeps_refl (s : Shared) : Keeps s s := ⟨s.heap, s.toks, rfl, fun _ _ e => e⟩
theorem keeps_toks (s : Shared) (t : Nat) : Keeps s { s with toks := t } := ⟨s.heap, t, rfl, fun _ _ e => e⟩
theorem keeps_trans {s s' s'' : Shared} (x : Keeps s s') (y : Keeps s' s'') : Keeps s s'' := by
  obtain ⟨h, t, rfl, k⟩ := x
  obtain ⟨h', t', rfl, k'⟩ := y
  exact ⟨h', t', rfl, fun b o e => k' b o (k b o e)⟩
theorem keeps_push (s : Shared) (o : Obj) (t : Nat) : Keeps s { s with heap := s.heap.push o, toks := t } := ⟨_, t, rfl, fun _ _ e => Heap.get?_push_of_some _ e⟩
theorem keeps_heap {s s' : Shared} (x : Keeps s s') : ∀ b o, s.heap.get? b = some o → s'.heap.get? b = some o := by
  obtain ⟨h, t, rfl, k⟩ := x; exact k

theorem tuple_inj {h : Heap} {a : Addr} {vs ws : List Value} (x : h.IsTuple a vs.toArray) (y : h.IsTuple a ws.toArray) : vs = ws := by
  obtain ⟨o, ho, _, n, hd⟩ := x
  obtain ⟨o', ho', _, n', hd'⟩ := y
  rw [ho] at ho'; cases ho'
  rw [hd] at hd'
  injection hd' with e
  simpa using congrArg Array.toList e

mutual
theorem V.eqb_same {h : Heap} : ∀ (n : Nat) {v : Value} {x y : D}, V h v x → V h v y → x.okN n = true → y.okN n = true → x.eqb y = true
  | _, _, _, _, .none, .none, _, _ => by simp [D.eqb]
  | _, _, _, _, .bool b, .bool _, _, _ => by simp [D.eqb]
  | _, _, _, _, .int i t, .int _ _, _, _ => by simp [D.eqb]
  | _, _, _, _, .str i t, .str _ _, _, _ => by simp [D.eqb]
  | 0, _, _, _, .tup .., .tup .., e, _ => by simp [D.okN] at e
  | n + 1, _, _, _, .tup a b _, .tup a' b' _, e, e' => by
    have := tuple_inj a a'; subst this
    rw [D.okN_tup] at e e'
    rw [D.eqb]; exact Vs.eqb_same n b b' e e'
  | _, _, _, _, .lst .., _, e, _ => by simp at e
  | _, _, _, _, _, .lst .., _, e => by simp at e
theorem Vs.eqb_same {h : Heap} : ∀ (n : Nat) {v : List Value} {x y : List D}, Vs h v x → Vs h v y → x.all (D.okN n) = true → y.all (D.okN n) = true → D.eqbs x y = true
  | _, _, _, _, .nil, .nil, _, _ => by simp [D.eqbs]
  | n, _, _, _, .cons a b, .cons a' b', e, e' => by
    simp only [List.all_cons, Bool.and_eq_true] at e e'
    rw [D.eqbs, V.eqb_same n a a' e.1 e'.1, Vs.eqb_same n b b' e.2 e'.2]; rfl
end

theorem eqbs_all : ∀ (xs ys : List D), ((List.range (min xs.length ys.length)).all (fun j => (xs.getD j .none).eqb (ys.getD j .none)) && xs.length == ys.length) = D.eqbs xs ys
  | [], [] => by simp [D.eqbs]
  | [], _ :: _ => by simp [D.eqbs]
  | _ :: _, [] => by simp [D.eqbs]
  | x :: xs, y :: ys => by
    have ih := eqbs_all xs ys
    rw [D.eqbs, ← ih]
    have e : min (x :: xs).length (y :: ys).length = min xs.length ys.length + 1 := by simp only [List.length_cons]; omega
    rw [e, List.range_succ_eq_map, List.all_cons, List.all_map]
    simp [Function.comp_def, Bool.and_assoc]

section
variable {A : Around} {s : Shared}
theorem rc_V : ∀ (n : Nat) (A : Around) {a b : Value} {x y : D}, V s.heap a x → V s.heap b y → x.okN n = true → y.okN n = true → A.units + n < cLine → RcAt A s a b (x.eqb y) ∧ EqAt A s a b (x.eqb y)
  | _, A, _, _, _, _, .none, .none, _, _, _ => ⟨by simpa [D.eqb] using RcAt.none_none, by simpa [D.eqb] using EqAt.same _⟩
  | _, A, _, _, _, _, .none, .bool b, _, _, _ => ⟨by simpa [D.eqb] using RcAt.none_bool b, by simpa [D.eqb] using EqAt.none_bool b⟩
  | _, A, _, _, _, _, .none, .int b u, _, _, _ => ⟨by simpa [D.eqb] using RcAt.none_int b u, by simpa [D.eqb] using EqAt.none_int b u⟩
  | _, A, _, _, _, _, .none, .str b u, _, _, _ => ⟨by simpa [D.eqb] using RcAt.none_str b u, by simpa [D.eqb] using EqAt.none_str b u⟩
  | _, A, _, _, _, _, .none, .tup t _ _, _, _, hu => ⟨by simpa [D.eqb] using RcAt.none_tuple t (by omega), by simpa [D.eqb] using EqAt.none_tuple t (by omega)⟩
  | _, A, _, _, _, _, .bool a, .none, _, _, _ => ⟨by simpa [D.eqb] using RcAt.bool_none a, by simpa [D.eqb] using EqAt.bool_none a⟩
  | _, A, _, _, _, _, .bool a, .bool b, _, _, _ => ⟨by simpa [D.eqb] using RcAt.bool_bool a b, by simpa [D.eqb] using EqAt.bool_bool a b⟩
  | _, A, _, _, _, _, .bool a, .int b u, _, _, _ => ⟨by simpa [D.eqb] using RcAt.bool_int a b u, by simpa [D.eqb] using EqAt.bool_int a b u⟩
  | _, A, _, _, _, _, .bool a, .str b u, _, _, _ => ⟨by simpa [D.eqb] using RcAt.bool_str a b u, by simpa [D.eqb] using EqAt.bool_str a b u⟩
  | _, A, _, _, _, _, .bool a, .tup t _ _, _, _, hu => ⟨by simpa [D.eqb] using RcAt.bool_tuple a t (by omega), by simpa [D.eqb] using EqAt.bool_tuple a t (by omega)⟩
  | _, A, _, _, _, _, .int a u, .none, _, _, _ => ⟨by simpa [D.eqb] using RcAt.int_none a u, by simpa [D.eqb] using EqAt.int_none a u⟩
  | _, A, _, _, _, _, .int a u, .bool b, _, _, _ => ⟨by simpa [D.eqb] using RcAt.int_bool a u b, by simpa [D.eqb] using EqAt.int_bool a u b⟩
  | _, A, _, _, _, _, .int a t, .int b u, _, _, _ => ⟨by simpa [D.eqb] using RcAt.int_int a t b u, by simpa [D.eqb] using EqAt.int_int a t b u⟩
  | _, A, _, _, _, _, .int a t, .str b u, _, _, _ => ⟨by simpa [D.eqb] using RcAt.int_str a t b u, by simpa [D.eqb] using EqAt.int_str a t b u⟩
  | _, A, _, _, _, _, .int a u, .tup t _ _, _, _, hu => ⟨by simpa [D.eqb] using RcAt.int_tuple a u t (by omega), by simpa [D.eqb] using EqAt.int_tuple a u t (by omega)⟩
  | _, A, _, _, _, _, .str a u, .none, _, _, _ => ⟨by simpa [D.eqb] using RcAt.str_none a u, by simpa [D.eqb] using EqAt.str_none a u⟩
  | _, A, _, _, _, _, .str a u, .bool b, _, _, _ => ⟨by simpa [D.eqb] using RcAt.str_bool a u b, by simpa [D.eqb] using EqAt.str_bool a u b⟩
  | _, A, _, _, _, _, .str a t, .int b u, _, _, _ => ⟨by simpa [D.eqb] using RcAt.str_int a t b u, by simpa [D.eqb] using EqAt.str_int a t b u⟩
  | _, A, _, _, _, _, .str a t, .str b u, _, _, _ => ⟨by simpa [D.eqb] using RcAt.str_str a t b u, by simpa [D.eqb] using EqAt.str_str a t b u⟩
  | _, A, _, _, _, _, .str a u, .tup t _ _, _, _, hu => ⟨by simpa [D.eqb] using RcAt.str_tuple a u t (by omega), by simpa [D.eqb] using EqAt.str_tuple a u t (by omega)⟩
  | _, A, _, _, _, _, .tup t _ _, .none, _, _, hu => ⟨by simpa [D.eqb] using RcAt.tuple_none t (by omega), by simpa [D.eqb] using EqAt.tuple_none t (by omega)⟩
  | _, A, _, _, _, _, .tup t _ _, .bool b, _, _, hu => ⟨by simpa [D.eqb] using RcAt.tuple_bool b t (by omega), by simpa [D.eqb] using EqAt.tuple_bool b t (by omega)⟩
  | _, A, _, _, _, _, .tup t _ _, .int b u, _, _, hu => ⟨by simpa [D.eqb] using RcAt.tuple_int b u t (by omega), by simpa [D.eqb] using EqAt.tuple_int b u t (by omega)⟩
  | _, A, _, _, _, _, .tup t _ _, .str b u, _, _, hu => ⟨by simpa [D.eqb] using RcAt.tuple_str b u t (by omega), by simpa [D.eqb] using EqAt.tuple_str b u t (by omega)⟩
  | 0, A, _, _, _, _, .tup .., .tup .., e, _, _ => by simp [D.okN] at e
  | n + 1, A, _, _, _, _, .tup (a := p) (vs := vs) (ds := xs) t w lx, .tup (a := q) (vs := us) (ds := ys) t' w' ly, e, e', hu => by
    have e1 := e; have e2 := e'
    rw [D.okN_tup, List.all_eq_true] at e1 e2
    have l1 := w.length; have l2 := w'.length
    have R : RcAt A s (.ref p) (.ref q) (D.eqb (.tup xs) (.tup ys)) := by
      have := RcAt.tuples (A := A) (s := s) (e := fun j => (xs.getD j .none).eqb (ys.getD j .none)) t t' (by omega) (fun j h1 h2 => by
        simp only [List.size_toArray] at h1 h2
        have hx : j < xs.length := l1 ▸ h1
        have hy : j < ys.length := l2 ▸ h2
        obtain ⟨v, hv, V1⟩ := w.get (List.getElem?_eq_getElem hx)
        obtain ⟨v', hv', V2⟩ := w'.get (List.getElem?_eq_getElem hy)
        have g1 : xs.getD j .none = xs[j] := by simp [List.getD, hx]
        have g2 : ys.getD j .none = ys[j] := by simp [List.getD, hy]
        have g3 : vs.toArray[j] = v := by
          have := List.getElem?_eq_some_iff.mp hv
          obtain ⟨_, h⟩ := this; simpa using h
        have g4 : us.toArray[j] = v' := by
          have := List.getElem?_eq_some_iff.mp hv'
          obtain ⟨_, h⟩ := this; simpa using h
        rw [g1, g2, g3, g4]
        exact (rc_V n A.in1 V1 V2 (e1 _ (List.getElem_mem hx)) (e2 _ (List.getElem_mem hy)) (by simp only [Around.in1_units]; omega)).2)
      rw [List.size_toArray, List.size_toArray, l1, l2, eqbs_all] at this
      rw [D.eqb]; exact this
    refine ⟨R, ?_⟩
    by_cases hpq : p = q
    · subst hpq
      rw [V.eqb_same (n + 1) (.tup t w lx) (.tup t' w' ly) e e']
      exact EqAt.same _
    · exact EqAt.of_refs hpq R
  | _, A, _, _, _, _, .lst .., _, e, _, _ => by simp at e
  | _, A, _, _, _, _, _, .lst .., _, e, _ => by simp at e

theorem rcne_V (n : Nat) (A : Around) {a b : Value} {x y : D} (h1 : V s.heap a x) (h2 : V s.heap b y) (e : x.okN n = true) (e' : y.okN n = true) (hu : A.units + n < cLine) : RcNeAt A s a b (!x.eqb y) := by
  cases h1 with
  | none => cases h2 with
    | none => simpa [D.eqb] using RcNeAt.none_none
    | bool b => simpa [D.eqb] using RcNeAt.none_bool b
    | int b u => simpa [D.eqb] using RcNeAt.none_int b u
    | str b u => simpa [D.eqb] using RcNeAt.none_str b u
    | tup t _ _ => simpa [D.eqb] using RcNeAt.none_tuple t (by omega)
    | lst => simp at e'
  | bool a => cases h2 with
    | none => simpa [D.eqb] using RcNeAt.bool_none a
    | bool b => simpa [D.eqb] using RcNeAt.bool_bool a b
    | int b u => simpa [D.eqb] using RcNeAt.bool_int a b u
    | str b u => simpa [D.eqb] using RcNeAt.bool_str a b u
    | tup t _ _ => simpa [D.eqb] using RcNeAt.bool_tuple a t (by omega)
    | lst => simp at e'
  | int a u => cases h2 with
    | none => simpa [D.eqb] using RcNeAt.int_none a u
    | bool b => simpa [D.eqb] using RcNeAt.int_bool a u b
    | int b u' => simpa [D.eqb] using RcNeAt.int_int a u b u'
    | str b u' => simpa [D.eqb] using RcNeAt.int_str a u b u'
    | tup t _ _ => simpa [D.eqb] using RcNeAt.int_tuple a u t (by omega)
    | lst => simp at e'
  | str a u => cases h2 with
    | none => simpa [D.eqb] using RcNeAt.str_none a u
    | bool b => simpa [D.eqb] using RcNeAt.str_bool a u b
    | int b u' => simpa [D.eqb] using RcNeAt.str_int a u b u'
    | str b u' => simpa [D.eqb] using RcNeAt.str_str a u b u'
    | tup t _ _ => simpa [D.eqb] using RcNeAt.str_tuple a u t (by omega)
    | lst => simp at e'
  | tup t w lx => cases h2 with
    | none => simpa [D.eqb] using RcNeAt.tuple_none t (by omega)
    | bool b => simpa [D.eqb] using RcNeAt.tuple_bool b t (by omega)
    | int b u => simpa [D.eqb] using RcNeAt.tuple_int b u t (by omega)
    | str b u => simpa [D.eqb] using RcNeAt.tuple_str b u t (by omega)
    | tup t' w' ly =>
      rename_i p vs xs q us ys
      cases n with
      | zero => simp [D.okN] at e
      | succ n =>
      rw [D.okN_tup, List.all_eq_true] at e e'
      have l1 := w.length; have l2 := w'.length
      have := RcNeAt.tuples (A := A) (s := s) (e := fun j => (xs.getD j .none).eqb (ys.getD j .none)) t t' (by omega) (fun j h1 h2 => by
        simp only [List.size_toArray] at h1 h2
        have hx : j < xs.length := l1 ▸ h1
        have hy : j < ys.length := l2 ▸ h2
        obtain ⟨v, hv, V1⟩ := w.get (List.getElem?_eq_getElem hx)
        obtain ⟨v', hv', V2⟩ := w'.get (List.getElem?_eq_getElem hy)
        have g1 : xs.getD j .none = xs[j] := by simp [List.getD, hx]
        have g2 : ys.getD j .none = ys[j] := by simp [List.getD, hy]
        have g3 : vs.toArray[j] = v := by
          have := List.getElem?_eq_some_iff.mp hv
          obtain ⟨_, h⟩ := this; simpa using h
        have g4 : us.toArray[j] = v' := by
          have := List.getElem?_eq_some_iff.mp hv'
          obtain ⟨_, h⟩ := this; simpa using h
        rw [g1, g2, g3, g4]
        exact (rc_V n A.in1 V1 V2 (e _ (List.getElem_mem hx)) (e' _ (List.getElem_mem hy)) (by simp only [Around.in1_units]; omega)).2)
      rw [List.size_toArray, List.size_toArray, l1, l2, eqbs_all] at this
      rw [D.eqb]; exact this
    | lst => simp at e'
  | lst => simp at e
end

end Mine

namespace Mine
open PySem PySem.Calls PyProof.Rows PySem.SeqAt

abbrev Post (s : Shared) (d : D) : Value → Shared → Prop := fun v s' => Keeps s s' ∧ V s'.heap v d
abbrev PostB (s : Shared) (b : Bool) : Value → Shared → Prop := fun v s' => v = .bool b ∧ Keeps s s'

noncomputable def opA : Op → Operator
  | .add => .Add
  | .sub => .Sub
  | .mul => .Mult
  | .div => .FloorDiv
  | .mod => .Mod
  | .pow => .Pow
noncomputable def cmA : Cm → CmpOp
  | .eq => .Eq
  | .ne => .NotEq
  | .lt => .Lt
  | .le => .LtE
  | .gt => .Gt
  | .ge => .GtE
  | .is => .Is
  | .isNot => .IsNot

theorem lim_line : lim ≤ sizeLine := by decide +kernel
theorem lim_63 : (lim : Int) < 2 ^ 63 := by decide +kernel

section
variable {prog : Program} {w : World} {A : Around} {E : Value → Shared → Prop} {s : Shared}

theorem post_int {i : Int} {t : Tok} {k : Nat} : Post s (.int i) (.int i t) { s with toks := k } := ⟨keeps_toks s k, .int i t⟩

theorem add_lists_raw {l b : Addr} {vs ws : List Value} {Q : Value → Shared → Prop} (hl : s.heap.IsList l vs.toArray) (hb : s.heap.IsList b ws.toArray)
    (h : Q (.ref s.heap.objs.size) { s with heap := s.heap.push { cls := .type "list", data := .seq (vs ++ ws).toArray } }) (hsz : vs.length + ws.length ≤ sizeLine) :
    wpAny (model prog w) A (binaryOp .Add (.ref l) (.ref b)) Q E s := by
  obtain ⟨⟨cls, dd, data, sl⟩, ho, hc, n, hd⟩ := id hl
  obtain ⟨⟨cls2, dd2, data2, sl2⟩, ho2, hc2, n2, hd2⟩ := id hb
  simp only at hc hd hc2 hd2
  subst hc hd hc2 hd2
  have e : vs.toArray ++ ws.toArray = (vs ++ ws).toArray := by simp
  refine concat_meets ⟨_, ho, rfl⟩ ⟨_, ho2, rfl⟩ noFill_list_add seq_list_add PySem.F.slot_list_add PySem.F.entry_list_add (PySem.F.args_list_add_2 _ _) (list_addW l b vs.toArray ws.toArray n n2 dd dd2 sl sl2 (by simpa using hsz)) ⟨ho, ho2, ?_⟩
  rw [e]
  exact h

theorem add_tuples_raw {t b : Addr} {vs ws : List Value} {Q : Value → Shared → Prop} (ht : s.heap.IsTuple t vs.toArray) (hb : s.heap.IsTuple b ws.toArray)
    (h0 : vs = [] → Q (.ref b) s) (h1 : ws = [] → Q (.ref t) s)
    (h2 : Q (.ref s.heap.objs.size) { s with heap := s.heap.push { cls := .type "tuple", data := .seq (vs ++ ws).toArray } })
    (hsz : vs.length + ws.length ≤ sizeLine) :
    wpAny (model prog w) A (binaryOp .Add (.ref t) (.ref b)) Q E s := by
  obtain ⟨⟨cls, dd, data, sl⟩, ho, hc, n, hd⟩ := id ht
  obtain ⟨⟨cls2, dd2, data2, sl2⟩, ho2, hc2, n2, hd2⟩ := id hb
  simp only at hc hd hc2 hd2
  subst hc hd hc2 hd2
  have e : vs.toArray ++ ws.toArray = (vs ++ ws).toArray := by simp
  by_cases hv : vs = []
  · exact concat_meets ⟨_, ho, rfl⟩ ⟨_, ho2, rfl⟩ noFill_tuple_add seq_tuple_add PySem.F.slot_tuple_add PySem.F.entry_tuple_add (PySem.F.args_tuple_add_2 _ _)
      (tuple_addW0 t b vs.toArray ws.toArray n n2 dd dd2 sl sl2 (by simp [hv])) ⟨ho, ho2, h0 hv⟩
  · by_cases hw : ws = []
    · exact concat_meets ⟨_, ho, rfl⟩ ⟨_, ho2, rfl⟩ noFill_tuple_add seq_tuple_add PySem.F.slot_tuple_add PySem.F.entry_tuple_add (PySem.F.args_tuple_add_2 _ _)
        (tuple_addW1 t b vs.toArray ws.toArray n n2 dd dd2 sl sl2 (by simpa using hv) (by simp [hw])) ⟨ho, ho2, h1 hw⟩
    · refine concat_meets ⟨_, ho, rfl⟩ ⟨_, ho2, rfl⟩ noFill_tuple_add seq_tuple_add PySem.F.slot_tuple_add PySem.F.entry_tuple_add (PySem.F.args_tuple_add_2 _ _)
        (tuple_addW2 t b vs.toArray ws.toArray n n2 dd dd2 sl sl2 (by simpa using hv) (by simpa using hw) (by rw [List.size_toArray, List.size_toArray]; exact hsz)) ⟨ho, ho2, ?_⟩
      rw [e]
      exact h2

theorem new_tuple {vs : List Value} {ds : List D} (x : Vs s.heap vs ds) (hl : ds.length ≤ lim) : Post s (.tup ds) (.ref s.heap.objs.size) { s with heap := s.heap.push { cls := .type "tuple", data := .seq vs.toArray } } :=
  ⟨keeps_push s _ s.toks, .tup ⟨_, Heap.get?_push_size _ rfl, rfl, _, rfl⟩ (x.mono fun _ _ e => Heap.get?_push_of_some _ e) hl⟩
theorem new_list {vs : List Value} {ds : List D} (x : Vs s.heap vs ds) (hl : ds.length ≤ lim) : Post s (.lst ds) (.ref s.heap.objs.size) { s with heap := s.heap.push { cls := .type "list", data := .seq vs.toArray } } :=
  ⟨keeps_push s _ s.toks, .lst ⟨_, Heap.get?_push_size _ rfl⟩ (x.mono fun _ _ e => Heap.get?_push_of_some _ e) hl⟩

theorem V.int_inv {h : Heap} {v : Value} {i : Int} (x : V h v (.int i)) : ∃ t, v = .int i t := by cases x; exact ⟨_, rfl⟩
theorem bin_ok {o : Op} {a b : Value} {x y d : D} (h1 : V s.heap a x) (h2 : V s.heap b y) (e : evBin o x y = some d) : wpAny (model prog w) A (binaryOp (opA o) a b) (Post s d) E s := by
  cases o with
  | add =>
    unfold evBin addD at e
    cases h1 with
    | int i t =>
      obtain ⟨j, hj, rfl⟩ := om e
      have := intOf_some hj; subst this
      obtain ⟨u, rfl⟩ := h2.int_inv
      exact wpAny_add_int post_int
    | tup hp hv hl =>
      replace e := ob e
      obtain ⟨es, he, e⟩ := e
      have := tupOf_some he; subst this
      obtain ⟨e1, rfl⟩ := oi e
      cases h2 with
      | tup hq hu hl' =>
        have l1 := hv.length; have l2 := hu.length
        refine add_tuples_raw hp hq (fun e => ?_) (fun e => ?_) (new_tuple (hv.append hu) (by simpa using e1)) (by have := lim_line; omega)
        · subst e; cases hv; exact ⟨keeps_refl s, by simpa using V.tup hq hu hl'⟩
        · subst e; cases hu; exact ⟨keeps_refl s, by simpa using V.tup hp hv hl⟩
    | lst hp hv hl =>
      replace e := ob e
      obtain ⟨es, he, e⟩ := e
      have := lstOf_some he; subst this
      obtain ⟨e1, rfl⟩ := oi e
      cases h2 with
      | lst hq hu hl' =>
        have l1 := hv.length; have l2 := hu.length
        exact add_lists_raw hp.isList hq.isList (new_list (hv.append hu) (by simpa using e1)) (by have := lim_line; omega)
    | none => cases e
    | bool => cases e
    | str => cases e
  | sub =>
    obtain ⟨i, j, rfl, rfl, e⟩ := i2_some e
    obtain ⟨t, rfl⟩ := h1.int_inv; obtain ⟨u, rfl⟩ := h2.int_inv
    cases e; exact sub_int post_int
  | mul =>
    obtain ⟨i, j, rfl, rfl, e⟩ := i2_some e
    obtain ⟨t, rfl⟩ := h1.int_inv; obtain ⟨u, rfl⟩ := h2.int_inv
    obtain ⟨e1, rfl⟩ := oi e
    exact mul_int post_int (e1.elim (fun h => IntMulOk.of_left (intBits_le_64 (by omega) (by omega))) fun h => IntMulOk.of_right (intBits_le_64 (by omega) (by omega)))
  | div =>
    obtain ⟨i, j, rfl, rfl, e⟩ := i2_some e
    obtain ⟨t, rfl⟩ := h1.int_inv; obtain ⟨u, rfl⟩ := h2.int_inv
    obtain ⟨⟨e1, e2⟩, rfl⟩ := oi e
    refine floordiv_int (by omega) ?_ (.inl (PyProof.noPylong_small (by omega)))
    rw [Int.fdiv_eq_ediv_of_nonneg _ (by omega)]
    exact post_int
  | mod =>
    obtain ⟨i, j, rfl, rfl, e⟩ := i2_some e
    obtain ⟨t, rfl⟩ := h1.int_inv; obtain ⟨u, rfl⟩ := h2.int_inv
    obtain ⟨e1, rfl⟩ := oi e
    refine mod_int (by omega) ?_
    rw [Int.fmod_eq_emod_of_nonneg _ (by omega)]
    exact post_int
  | pow =>
    obtain ⟨i, j, rfl, rfl, e⟩ := i2_some e
    obtain ⟨t, rfl⟩ := h1.int_inv; obtain ⟨u, rfl⟩ := h2.int_inv
    replace e := oi e
    obtain ⟨⟨rfl, rfl⟩, rfl⟩ := e
    exact pow_int (by decide) (by decide +kernel) post_int

theorem V.none_inv {h : Heap} {v : Value} {y : D} (x : V h v y) (e : isNoneD y = true) : v = .none := by cases x <;> first | rfl | cases e
theorem cmp_ok {o : Cm} {a b : Value} {x y : D} {r : Bool} (h1 : V s.heap a x) (h2 : V s.heap b y) (e : evCmp o x y = some r) (hu : A.units + 8 < cLine) : wpAny (model prog w) A (compareOp (cmA o) a b) (PostB s r) E s := by
  cases o with
  | eq =>
    obtain ⟨e0, rfl⟩ := oi e
    obtain ⟨e1, e2⟩ := (Bool.and_eq_true _ _).mp e0
    exact (rc_V 8 A h1 h2 e1 e2 hu).1 prog w E _ ⟨rfl, keeps_refl s⟩
  | ne =>
    obtain ⟨e0, rfl⟩ := oi e
    obtain ⟨e1, e2⟩ := (Bool.and_eq_true _ _).mp e0
    exact rcne_V 8 A h1 h2 e1 e2 hu prog w E _ ⟨rfl, keeps_refl s⟩
  | lt =>
    obtain ⟨i, j, rfl, rfl, e⟩ := i2_some e
    obtain ⟨t, rfl⟩ := h1.int_inv; obtain ⟨u, rfl⟩ := h2.int_inv
    cases e; exact lt_int ⟨rfl, keeps_refl s⟩
  | le =>
    obtain ⟨i, j, rfl, rfl, e⟩ := i2_some e
    obtain ⟨t, rfl⟩ := h1.int_inv; obtain ⟨u, rfl⟩ := h2.int_inv
    cases e; exact le_int ⟨rfl, keeps_refl s⟩
  | gt =>
    obtain ⟨i, j, rfl, rfl, e⟩ := i2_some e
    obtain ⟨t, rfl⟩ := h1.int_inv; obtain ⟨u, rfl⟩ := h2.int_inv
    cases e; exact gt_int ⟨rfl, keeps_refl s⟩
  | ge =>
    obtain ⟨i, j, rfl, rfl, e⟩ := i2_some e
    obtain ⟨t, rfl⟩ := h1.int_inv; obtain ⟨u, rfl⟩ := h2.int_inv
    cases e; exact ge_int ⟨rfl, keeps_refl s⟩
  | is =>
    obtain ⟨e0, rfl⟩ := oi e
    have := h2.none_inv e0; subst this
    cases h1 <;> exact is_none ⟨rfl, keeps_refl s⟩
  | isNot =>
    replace e := oi e
    obtain ⟨e0, rfl⟩ := e
    have := h2.none_inv e0; subst this
    cases h1 <;> exact isNot_none ⟨rfl, keeps_refl s⟩

theorem idx_ok {a i : Value} {x y d : D} (h1 : V s.heap a x) (h2 : V s.heap i y) (e : evIdx x y = some d) : wpAny (model prog w) A (getItem a i) (Post s d) E s := by
  replace e := ob e
  obtain ⟨ds, hds, e⟩ := e
  replace e := ob e
  obtain ⟨i, hi, e⟩ := e
  have := intOf_some hi; subst this
  obtain ⟨t, rfl⟩ := h2.int_inv
  replace e := oi' e
  obtain ⟨e0, e1⟩ := e
  have l63 := lim_63
  have hlt : i.toNat < ds.length := (List.getElem?_eq_some_iff.mp e1).1
  cases h1 <;> cases hds
  · rename_i p vs hp hv hl
    obtain ⟨v, hg, hV⟩ := hv.get e1
    have l1 := hv.length
    refine getItem_tuple (j := i.toNat) hp (by omega) (by omega) ?_ (by simpa using hg) ⟨keeps_refl s, hV⟩
    have hlt' : i < (vs.length : Int) := by omega
    simp [seqIndex?, Int.not_lt.mpr e0, e0, hlt']
  · rename_i p vs hp hv hl
    obtain ⟨v, hg, hV⟩ := hv.get e1
    exact wpAny_getItem_list hp.isList e0 (by omega) (by simpa using hg) ⟨keeps_refl s, hV⟩

theorem len_ok {a : Value} {x : D} {ds : List D} (h1 : V s.heap a x) (e : items x = some ds) : wpAny (model prog w) A (call (.builtin "len") [a]) (Post s (.int ds.length)) E s := by
  have l63 := lim_63
  cases h1 <;> simp only [items, reduceCtorEq, Option.some.injEq] at e
  · rename_i p vs ds hp hv hl
    subst e
    have l1 := hv.length
    refine len_tuple hp (by simp only [List.size_toArray]; omega) ?_
    simp only [List.size_toArray, l1]; exact post_int
  · rename_i p vs ds hp hv hl
    subst e
    have l1 := hv.length
    refine call_len_list hp.isList (by simp only [List.size_toArray]; omega) ?_
    simp only [List.size_toArray, l1]; exact post_int

noncomputable def tyA : Ty → String
  | .tuple => "tuple"
  | .int => "int"
  | .bool => "bool"
  | .str => "str"

theorem isi_ok {a : Value} {x : D} {t : Ty} (h1 : V s.heap a x) : wpAny (model prog w) A (call (.builtin "isinstance") [a, .type (tyA t)]) (Post s (.bool (evIsi t x))) E s := by
  have p (b : Bool) (k : Nat) : Post s (.bool b) (.bool b) { s with toks := k } := ⟨keeps_toks s k, .bool b⟩
  have p0 (b : Bool) : Post s (.bool b) (.bool b) s := ⟨keeps_refl s, .bool b⟩
  cases t <;> cases h1 <;> simp only [tyA]
  case tuple.none => exact IsiPair.NoneType_tuple (p _ _)
  case tuple.bool => exact IsiPair.bool_tuple (p _ _)
  case tuple.int => exact IsiPair.int_tuple (p _ _)
  case tuple.str => exact IsiPair.str_tuple (p _ _)
  case tuple.tup hp _ _ => obtain ⟨o, ho, hc, _⟩ := hp; exact IsiPair.tuple_tuple ho hc (p0 _)
  case tuple.lst hp _ _ => obtain ⟨o, ho, hc, _⟩ := hp.isList; exact IsiPair.list_tuple ho hc (p _ _)
  case int.none => exact IsiPair.NoneType_int (p _ _)
  case int.bool => exact IsiPair.bool_int (p0 _)
  case int.int => exact IsiPair.int_int (p0 _)
  case int.str => exact IsiPair.str_int (p _ _)
  case int.tup hp _ _ => obtain ⟨o, ho, hc, _⟩ := hp; exact IsiPair.tuple_int ho hc (p _ _)
  case int.lst hp _ _ => obtain ⟨o, ho, hc, _⟩ := hp.isList; exact IsiPair.list_int ho hc (p _ _)
  case bool.none => exact IsiPair.NoneType_bool (p _ _)
  case bool.bool => exact IsiPair.bool_bool (p0 _)
  case bool.int => exact IsiPair.int_bool (p _ _)
  case bool.str => exact IsiPair.str_bool (p _ _)
  case bool.tup hp _ _ => obtain ⟨o, ho, hc, _⟩ := hp; exact IsiPair.tuple_bool ho hc (p _ _)
  case bool.lst hp _ _ => obtain ⟨o, ho, hc, _⟩ := hp.isList; exact IsiPair.list_bool ho hc (p _ _)
  case str.none => exact IsiPair.NoneType_str (p _ _)
  case str.bool => exact IsiPair.bool_str (p _ _)
  case str.int => exact IsiPair.int_str (p _ _)
  case str.str => exact IsiPair.str_str (p0 _)
  case str.tup hp _ _ => obtain ⟨o, ho, hc, _⟩ := hp; exact IsiPair.tuple_str ho hc (p _ _)
  case str.lst hp _ _ => obtain ⟨o, ho, hc, _⟩ := hp.isList; exact IsiPair.list_str ho hc (p _ _)

theorem max_ok {i j : Int} {t u : Tok} (hh : A.handled = none) : wpAny (model prog w) A (call (.builtin "max") [.int i t, .int j u]) (Post s (.int (if j > i then j else i))) E s :=
  max_two_ints hh fun h' tk hk => by
    refine ⟨⟨h', tk, rfl, hk⟩, ?_⟩
    split <;> exact .int _ _

theorem toTup_ok {a : Value} {x : D} {ds : List D} (h1 : V s.heap a x) (e : items x = some ds) : wpAny (model prog w) A (call (.type "tuple") [a]) (Post s (.tup ds)) E s := by
  cases h1 <;> simp only [items, reduceCtorEq, Option.some.injEq] at e
  · rename_i p vs ds hp hv hl
    subst e
    exact call_tuple_same hp ⟨keeps_refl s, .tup hp hv hl⟩
  · rename_i p vs ds hp hv hl
    subst e
    have l1 := hv.length
    refine call_tuple_list hp.isList (fun h' hk => ?_) (by simp only [List.size_toArray]; have := lim_line; omega)
    refine ⟨⟨_, _, rfl, fun b o e => Heap.get?_push_of_some _ (hk b o e)⟩, .tup ⟨_, Heap.get?_push_size _ rfl, rfl, _, rfl⟩ (hv.mono fun b o e => Heap.get?_push_of_some _ (hk b o e)) hl⟩

theorem toLst_ok {a : Value} {x : D} {ds : List D} (h1 : V s.heap a x) (e : items x = some ds) : wpAny (model prog w) A (call (.type "list") [a]) (Post s (.lst ds)) E s := by
  have key : ∀ (p : Addr) (vs : List Value) (ds : List D) (T : String) (o : Obj) (n : Nat), (T = "list" ∨ T = "tuple") → s.heap.get? p = some o → o.cls = .type T → o.data = .seq vs.toArray n → Vs s.heap vs ds → ds.length ≤ lim →
      wpAny (model prog w) A (call (.type "list") [.ref p]) (Post s (.lst ds)) E s := by
    intro p vs ds T o n hT ho hc hd hv hl
    have l1 := hv.length
    refine call_list_seq p hT ho hc hd (fun h' c' hk hD => ?_) (by simp only [List.size_toArray]; have := lim_line; omega)
    exact ⟨⟨_, _, rfl, hk⟩, .lst ⟨_, hD⟩ (hv.mono hk) hl⟩
  cases h1 <;> simp only [items, reduceCtorEq, Option.some.injEq] at e
  · rename_i p vs ds hp hv hl
    subst e
    obtain ⟨o, ho, hc, n, hd⟩ := hp
    exact key _ vs _ _ o n (.inr rfl) ho hc hd hv hl
  · rename_i p vs ds hp hv hl
    subst e
    obtain ⟨o, ho, hc, n, hd⟩ := hp.isList
    exact key _ vs _ _ o n (.inl rfl) ho hc hd hv hl

theorem index_ok {a b : Value} {x y z : Str} (h1 : V s.heap a (.lst [.str x, .str y])) (h2 : V s.heap b (.str z)) {j : Nat} (e : (z = x ∧ j = 0) ∨ (z ≠ x ∧ z = y ∧ j = 1)) :
    wpAny (model prog w) A (call (.builtin "list.index") [a, b]) (Post s (.int j)) E s := by
  cases h1 with
  | lst hp hv hl =>
  rename_i p vs
  cases hv with
  | cons v1 hv =>
  cases hv with
  | cons v2 hv =>
  cases hv
  cases v1; cases v2; cases h2
  rename_i t1 t2 t3
  obtain ⟨⟨cls, dd, data, sl⟩, ho, hc, n, hd⟩ := hp.isList
  simp only at hc hd
  subst hc hd
  have go : ∀ (f : Value → Bool), (∀ q t, f (.str q t) = (q == z)) → wpAny (model prog w) A (call (.builtin "list.index") [.ref p, .str z t3]) (Post s (.int j)) E s := by
    intro f hf
    refine call_meets PySem.F.slot_list_index ⟨_, ho, rfl⟩ PySem.F.entry_list_index (PySem.F.args_list_index_2 _ _)
      (list_indexAt p [.str x t1, .str y t2].toArray n dd sl (.str z t3) f j (by rcases e with ⟨_, rfl⟩ | ⟨_, _, rfl⟩ <;> simp) (by rcases e with ⟨_, rfl⟩ | ⟨_, _, rfl⟩ <;> decide) ?_ ?_) ⟨ho, fun q hq => ?_, post_int⟩
    · rcases e with ⟨rfl, rfl⟩ | ⟨_, rfl, rfl⟩ <;> simp [hf]
    · intro m hm hlt
      rcases e with ⟨rfl, rfl⟩ | ⟨hne, rfl, rfl⟩
      · omega
      · have : m = 0 := by omega
        subst this
        simp [hf, Ne.symm hne]
    · simp only [List.mem_toArray, List.mem_cons, List.not_mem_nil, or_false] at hq
      rcases hq with rfl | rfl <;> rw [hf] <;> exact EqAt.str_str _ _ _ _
  exact go (fun v => match v with | .str q _ => q == z | _ => false) (fun _ _ => rfl)
end

end Mine

namespace Mine
open PySem PySem.Calls PyProof.Rows

noncomputable def gallop2 : Bool → Keyed → Array Keyed → Nat → Nat → Nat → StateT SortSt Sem (Option Nat) := sortPriv% PySem.Builtin.gallop
noncomputable def mergeLo2 : Array Keyed → Array Keyed → StateT SortSt Sem (Array Keyed) := sortPriv% PySem.Builtin.mergeLo
noncomputable def mergeHi2 : Array Keyed → Array Keyed → StateT SortSt Sem (Array Keyed) := sortPriv% PySem.Builtin.mergeHi

noncomputable def beyond2 (left : Bool) (key : Keyed) (arr : Array Keyed) (base : Nat) (i : Nat) : StateT SortSt Sem (Option Bool) := do
  let x ← elem' arr (base + i)
  if left then lt' x key else return (← lt' key x).map (!·)

theorem gallop2_eq (left : Bool) (key : Keyed) (arr : Array Keyed) (base n hint : Nat) : gallop2 left key arr base n hint = (do
  let mut lastofs := 0
  let mut ofs := 1
  let mut lo := 0
  let mut hi := 0
  let some right ← beyond2 left key arr base hint | return none
  if right then
    let maxofs := n - hint
    for _ in [0:n] do
      if ofs ≥ maxofs then break
      let some more ← beyond2 left key arr base (hint + ofs) | return none
      if !more then break
      lastofs := ofs
      ofs := 2 * ofs + 1
    lo := hint + lastofs + 1
    hi := hint + min ofs maxofs
  else
    let maxofs := hint + 1
    for _ in [0:n] do
      if ofs ≥ maxofs then break
      let some found ← beyond2 left key arr base (hint - ofs) | return none
      if found then break
      lastofs := ofs
      ofs := 2 * ofs + 1
    lo := hint + 1 - min ofs maxofs
    hi := hint - lastofs
  for _ in [0:n] do
    if lo ≥ hi then break
    let m := lo + (hi - lo) / 2
    let some more ← beyond2 left key arr base m | return none
    if more then lo := m + 1 else hi := m
  return some hi) := rfl

theorem mergeAt2_eq (i : Nat) : mergeAt' i = (do
  let s ← get
  let (some (sa, na, power), some (sb, nb, _)) := ((pendingOf s)[i]?, (pendingOf s)[i + 1]?) | unsupported "internal:list.sort.pending"
  set (setPending s (((pendingOf s).setIfInBounds i (sa, na + nb, power)).eraseIdxIfInBounds (i + 1)))
  let some k ← gallop2 false (← elem' (arrOf s) sb) (arrOf s) sa na 0 | return false
  let (sa, na) := (sa + k, na - k)
  if na == 0 then return true
  let some nb ← gallop2 true (← elem' (arrOf s) (sa + na - 1)) (arrOf s) sb nb (nb - 1) | return false
  if nb == 0 then return true
  let x := (arrOf s).extract sa sb
  let y := (arrOf s).extract sb (sb + nb)
  let merged ← if na ≤ nb then mergeLo2 x y else mergeHi2 x y
  modify fun s => setArr s (merged.toList.zipIdx.foldl (fun a (p, j) => a.setIfInBounds (sa + j) p) (arrOf s))
  return (failedOf (← get)).isNone) := rfl

theorem m_lt {lo hi : Nat} (h : ¬ lo ≥ hi) : lo + (hi - lo) / 2 < hi := by omega
theorem m_lt2 {lo hi : Nat} (h : ¬ lo ≥ hi) : lo ≤ (lo + hi) / 2 ∧ (lo + hi) / 2 < hi := by omega
theorem d1 {lo hi m n x : Nat} (h : hi - lo ≤ n - x) (hl : lo ≤ m) (hm : m < hi) : hi - (m + 1) ≤ n - (x + 1) := by omega
theorem d2 {lo hi m n x : Nat} (h : hi - lo ≤ n - x) (hl : lo ≤ m) (hm : m < hi) : m - lo ≤ n - (x + 1) := by omega
theorem d3 {lo hi k n : Nat} (h1 : lo ≤ k) (h2 : k ≤ hi) (h4 : hi - lo ≤ n - max 0 n) : hi = k ∧ lo = k := by omega
theorem z1 {lo k : Nat} (h : lo < k) : 0 + lo + 1 ≤ k := by rw [Nat.zero_add]; exact h
theorem z2 {ofs n k : Nat} (h : k ≤ ofs) (h' : k ≤ n) : k ≤ 0 + min ofs (n - 0) := by rw [Nat.zero_add]; exact Nat.le_min.mpr ⟨h, h'⟩
theorem z3 {ofs n : Nat} : 0 + min ofs (n - 0) ≤ n := by rw [Nat.zero_add]; exact Nat.min_le_right _ _
theorem dbl {x ofs : Nat} (h : x + 1 ≤ ofs) : x + 1 + 1 ≤ 2 * ofs + 1 := by omega
theorem pd {n : Nat} (h : 1 ≤ n) : n - 1 < n := by omega
theorem nd1 {a k : Nat} (h : a < k) : ¬ ((!decide (a < k)) = true) := by simp [h]
theorem nd2 {a k : Nat} (h : ¬ a < k) : (!decide (a < k)) = true := by simp [h]
theorem ka {n k : Nat} (h : k < n) : 0 + k + (n - k) - 1 = n - 1 := by omega
theorem kb {n k : Nat} (h : k < n) : ¬ n - 1 < k := by omega
theorem kc {n k : Nat} (h : k < n) : ¬ ((n - k == 0) = true) := by simp; omega
theorem kd' {n k : Nat} (h : k ≤ n) : 0 + k + 0 + (n - k + 1) = n + 1 := by omega
theorem ca {x n : Nat} (h1 : 1 ≤ x) (h : x < n + 1) : x - 1 < n := by omega
theorem cb {x n : Nat} (h : x + 1 = n + 1) : ¬ x < n := by omega
theorem ja {k j : Nat} : k + j + 1 - k = j + 1 := by omega
theorem sk {n k : Nat} (h : k ≤ n) : n - (n - k) = k := by omega
theorem tk {α : Type} {l : List α} {k : Nat} (h : k ≤ l.length) : (l.take k).length = k := by rw [List.length_take]; exact Nat.min_eq_left h

section
variable {prog : Program} {w : World} {A : Around} {E : Value → Shared → Prop} {s : Shared} {lt : Keyed → Keyed → Bool} {kd : SortKind} {X : List Keyed}

/-- comparing two of these keys answers so and changes nothing -/
noncomputable def Asks (prog : Program) (w : World) (A : Around) (E : Value → Shared → Prop) (s : Shared) (kd : SortKind) (X : List Keyed) (lt : Keyed → Keyed → Bool) : Prop :=
  ∀ (st : SortSt) (p q : Keyed) (Q : Option Bool → SortSt → Prop), kindOf st = kd → p ∈ X → q ∈ X → Q (some (lt p q)) st → wpS (model prog w) A E s (lt' p q) Q st

theorem wpS_set {σ : Type} {M : Model} {st st' : σ} {Q : PUnit → σ → Prop} (h : Q ⟨⟩ st') : wpS M A E s (set st' : StateT σ Sem PUnit) Q st := by
  unfold wpS; rw [StateT.run_set]; exact wpAny_pure ⟨rfl, h⟩

theorem elem_ok {a : Array Keyed} {i : Nat} {p : Keyed} {st : SortSt} {Q : Keyed → SortSt → Prop} (h : a[i]? = some p) (hq : Q p st) : wpS (model prog w) A E s (elem' a i) Q st := by
  rw [elem'_eq, h]; exact wpS_pure hq

theorem ltAt_ok (H : Asks prog w A E s kd X lt) {st : SortSt} {i j : Nat} {p q : Keyed} {Q : Option Bool → SortSt → Prop} (hk : kindOf st = kd) (hi : (arrOf st)[i]? = some p) (hj : (arrOf st)[j]? = some q) (hp : p ∈ X) (hq : q ∈ X) (h : Q (some (lt p q)) st) :
    wpS (model prog w) A E s (ltAt' i j) Q st := by
  rw [ltAt'_eq]
  exact wpS_bind (wpS_get (wpS_bind (elem_ok hi (wpS_bind (elem_ok hj (H st p q Q hk hp hq h))))))

theorem beyond_ok (H : Asks prog w A E s kd X lt) {left : Bool} {key x : Keyed} {arr : Array Keyed} {base i : Nat} {st : SortSt} {Q : Option Bool → SortSt → Prop} (hk : kindOf st = kd) (hi : arr[base + i]? = some x) (hp : x ∈ X) (hq : key ∈ X) (h : Q (some (if left then lt x key else !lt key x)) st) :
    wpS (model prog w) A E s (beyond2 left key arr base i) Q st := by
  unfold beyond2
  refine wpS_bind (elem_ok hi ?_)
  cases left with
  | true => exact H st x key Q hk hp hq h
  | false => exact wpS_bind (H st key x _ hk hq hp (wpS_pure h))

/-- where the last key goes, among rising ones -/
theorem gallop_ok (H : Asks prog w A E s kd X lt) {key : Keyed} {arr : Array Keyed} {n k : Nat} {st : SortSt} {Q : Option Nat → SortSt → Prop} (hk : kindOf st = kd) (hkey : key ∈ X) (hn : 0 < n) (hkn : k ≤ n)
    (hx : ∀ i, i < n → ∃ x, arr[i]? = some x ∧ x ∈ X ∧ lt key x = !decide (i < k)) (h : Q (some k) st) : wpS (model prog w) A E s (gallop2 false key arr 0 n 0) Q st := by
  have hb : ∀ (i : Nat), i < n → ∀ {Q' : Option Bool → SortSt → Prop}, Q' (some (decide (i < k))) st → wpS (model prog w) A E s (beyond2 false key arr 0 i) Q' st := by
    intro i hi Q' hq
    obtain ⟨x, e, m, l⟩ := hx i hi
    refine beyond_ok H hk (by rw [Nat.zero_add]; exact e) m hkey ?_
    rw [l]; simpa using hq
  have fin : ∀ lo hi : Nat, lo ≤ k → k ≤ hi → hi ≤ n → wpS (model prog w) A E s (
      forIn [0:n] ((none, lo, hi) : Option (Option Nat) × Nat × Nat) fun _ __s => do
        if __s.2.1 ≥ __s.2.2 then pure (ForInStep.done (none, __s.2.1, __s.2.2)) else do
          let __x ← beyond2 false key arr 0 (__s.2.1 + (__s.2.2 - __s.2.1) / 2)
          match __x with
          | some more => if more = true then pure (ForInStep.yield (none, __s.2.1 + (__s.2.2 - __s.2.1) / 2 + 1, __s.2.2)) else pure (ForInStep.yield (none, __s.2.1, __s.2.1 + (__s.2.2 - __s.2.1) / 2))
          | _ => pure (ForInStep.done (some none, __s.2.1, __s.2.2))) (fun c st' => st' = st ∧ ∃ lo, c = (none, lo, k)) st := by
    intro lo hi h1 h2 h3
    refine (wpS_forRange (I := fun x c st' => st' = st ∧ ∃ lo hi, c = (none, lo, hi) ∧ lo ≤ k ∧ k ≤ hi ∧ hi ≤ n ∧ hi - lo ≤ n - x) ?_ ?_ ⟨rfl, lo, hi, rfl, h1, h2, h3, Nat.le_trans (Nat.sub_le _ _) h3⟩)
    · rintro x c st' _ hxn ⟨rfl, lo, hi, rfl, h1, h2, h3, h4⟩
      dsimp only
      by_cases hge : lo ≥ hi
      · rw [if_pos hge]
        have : hi = k := Nat.le_antisymm (Nat.le_trans hge h1) h2
        subst this
        exact wpS_pure ⟨rfl, _, rfl⟩
      · rw [if_neg hge]
        refine wpS_bind (hb _ (Nat.lt_of_lt_of_le (m_lt hge) h3) ?_)
        dsimp only
        by_cases hm : lo + (hi - lo) / 2 < k
        · rw [if_pos (by simpa using hm)]
          exact wpS_pure ⟨rfl, _, _, rfl, hm, h2, h3, d1 h4 (Nat.le_add_right _ _) (m_lt hge)⟩
        · rw [if_neg (by simpa using hm)]
          exact wpS_pure ⟨rfl, _, _, rfl, h1, Nat.le_of_not_lt hm, Nat.le_trans (Nat.le_of_lt (m_lt hge)) h3, d2 h4 (Nat.le_add_right _ _) (m_lt hge)⟩
    · rintro c st' ⟨rfl, lo, hi, rfl, h1, h2, h3, h4⟩
      have : hi = k := (d3 h1 h2 h4).1
      subst this
      exact ⟨rfl, _, rfl⟩
  have nd : ∀ (c : Option (Option Nat) × Nat × Nat) (st' : SortSt), (st' = st ∧ ∃ lo, c = (none, lo, k)) → ∃ lo, c = (none, lo, k) ∧ st' = st := fun c st' ⟨a, lo, b⟩ => ⟨lo, b, a⟩
  rw [gallop2_eq]
  refine wpS_bind (hb 0 hn ?_)
  dsimp only
  by_cases h0 : 0 < k
  · rw [if_pos (by simpa using h0)]
    refine wpS_bind (wpS_forRange (I := fun x c st' => st' = st ∧ ∃ lo ofs, c = (none, lo, ofs) ∧ lo < k ∧ x + 1 ≤ ofs)
      (Q := fun c st' => wpS (model prog w) A E s _ Q st') ?_ ?_ ⟨rfl, 0, 1, rfl, h0, Nat.le_refl _⟩)
    · rintro x c st' _ hxn ⟨rfl, lo, ofs, rfl, h1, h2⟩
      dsimp only
      by_cases hge : ofs ≥ n - 0
      · rw [if_pos hge]
        exact wpS_pure (wpS_bind (wpS_mono (fin (0 + lo + 1) (0 + min ofs (n - 0)) (z1 h1) (z2 (Nat.le_trans hkn hge) hkn) z3) fun c st' h' => by obtain ⟨lo', rfl, rfl⟩ := nd _ _ h'; exact wpS_pure h))
      · rw [if_neg hge]
        refine wpS_bind (hb _ (by rw [Nat.zero_add]; exact Nat.lt_of_not_le hge) ?_)
        dsimp only
        by_cases hm : 0 + ofs < k
        · rw [if_neg (by simpa using hm)]
          exact wpS_pure ⟨rfl, _, _, rfl, by rw [Nat.zero_add] at hm; exact hm, dbl h2⟩
        · rw [if_pos (by simpa using hm)]
          exact wpS_pure (wpS_bind (wpS_mono (fin (0 + lo + 1) (0 + min ofs (n - 0)) (z1 h1) (z2 (Nat.le_of_not_lt fun q => hm (by rw [Nat.zero_add]; exact q)) hkn) z3) fun c st' h' => by obtain ⟨lo', rfl, rfl⟩ := nd _ _ h'; exact wpS_pure h))
    · rintro c st' ⟨rfl, lo, ofs, rfl, h1, h2⟩
      exact wpS_bind (wpS_mono (fin (0 + lo + 1) (0 + min ofs (n - 0)) (z1 h1) (z2 (Nat.le_trans hkn (Nat.le_trans (Nat.le_max_right 0 n) (Nat.le_of_succ_le h2))) hkn) z3) fun c st' h' => by obtain ⟨lo', rfl, rfl⟩ := nd _ _ h'; exact wpS_pure h)
  · rw [if_neg (by simpa using h0)]
    refine wpS_bind (wpS_forRange (I := fun x c st' => st' = st ∧ c = (none, 0, 1))
      (Q := fun c st' => wpS (model prog w) A E s _ Q st') ?_ ?_ ⟨rfl, rfl⟩)
    · rintro x c st' _ hxn ⟨rfl, rfl⟩
      dsimp only
      rw [if_pos (Nat.le_refl _)]
      exact wpS_pure (wpS_bind (wpS_mono (fin (0 + 1 - min 1 (0 + 1)) (0 - 0) (Nat.zero_le k) (Nat.le_of_not_lt h0) (Nat.zero_le n)) fun c st' h' => by obtain ⟨lo', rfl, rfl⟩ := nd _ _ h'; exact wpS_pure h))
    · rintro c st' ⟨rfl, rfl⟩
      exact wpS_bind (wpS_mono (fin (0 + 1 - min 1 (0 + 1)) (0 - 0) (Nat.zero_le k) (Nat.le_of_not_lt h0) (Nat.zero_le n)) fun c st' h' => by obtain ⟨lo', rfl, rfl⟩ := nd _ _ h'; exact wpS_pure h)

/-- the last of the rising keys against the one behind -/
theorem gallop1_ok (H : Asks prog w A E s kd X lt) {key x : Keyed} {arr : Array Keyed} {b : Nat} {st : SortSt} {Q : Option Nat → SortSt → Prop} (hk : kindOf st = kd) (hkey : key ∈ X)
    (hx : arr[b]? = some x) (hX : x ∈ X) (hl : lt x key = true) (h : Q (some 1) st) : wpS (model prog w) A E s (gallop2 true key arr b 1 0) Q st := by
  rw [gallop2_eq]
  refine wpS_bind (beyond_ok H hk (by rw [Nat.add_zero]; exact hx) hX hkey ?_)
  dsimp only
  rw [if_pos rfl, hl, if_pos rfl]
  refine wpS_bind (wpS_forRange (I := fun x c st' => st' = st ∧ c = (none, 0, 1)) (Q := fun c st' => wpS (model prog w) A E s _ Q st') ?_ ?_ ⟨rfl, rfl⟩)
  · rintro x c st' _ hxn ⟨rfl, rfl⟩
    dsimp only
    rw [if_pos (Nat.le_refl _)]
    refine wpS_pure (wpS_bind (wpS_forRange (I := fun x c st'' => st'' = st' ∧ c = (none, 1, 1)) (Q := fun c st' => wpS (model prog w) A E s _ Q st') ?_ ?_ ⟨rfl, rfl⟩))
    · rintro x c st' _ hxn ⟨rfl, rfl⟩
      dsimp only
      rw [if_pos (Nat.le_refl _)]
      exact wpS_pure (wpS_pure h)
    · rintro c st' ⟨rfl, rfl⟩
      exact wpS_pure h
  · rintro c st' ⟨rfl, rfl⟩
    refine (wpS_bind (wpS_forRange (I := fun x c st'' => st'' = st' ∧ c = (none, 1, 1)) (Q := fun c st' => wpS (model prog w) A E s _ Q st') ?_ ?_ ⟨rfl, rfl⟩))
    · rintro x c st' _ hxn ⟨rfl, rfl⟩
      dsimp only
      rw [if_pos (Nat.le_refl _)]
      exact wpS_pure (wpS_pure h)
    · rintro c st' ⟨rfl, rfl⟩
      exact wpS_pure h

theorem mergeLo1 {x y : Array Keyed} {p q : Keyed} {st : SortSt} {Q : Array Keyed → SortSt → Prop} (hy : y.toList = [q]) (h : ∀ o, o.toList = q :: x.toList → Q o st) : wpS (model prog w) A E s (mergeLo2 x y) Q st := by
  obtain ⟨y⟩ := y; subst hy
  show wpS (model prog w) A E s (do
    liftM (rule "list.sort.merge-lo")
    let e ← elem' #[q] 0
    pure (#[e] ++ x.extract 0 x.size ++ (#[q] : Array Keyed).extract 1 1)) Q st
  refine wpS_bind (wpS_lift (wpAny_rule ⟨rfl, ?_⟩))
  refine wpS_bind (elem_ok (p := q) rfl (wpS_pure (h _ ?_)))
  simp

theorem mergeHi1 {x y : Array Keyed} {q : Keyed} {st : SortSt} {Q : Array Keyed → SortSt → Prop} (hy : y.toList = [q]) (hx : 1 < x.size) (h : ∀ o, o.toList = q :: x.toList → Q o st) : wpS (model prog w) A E s (mergeHi2 x y) Q st := by
  obtain ⟨y⟩ := y; subst hy
  obtain ⟨e, he⟩ : ∃ e, x[x.size - 1]? = some e := ⟨x[x.size - 1], getElem?_pos x (x.size - 1) (Nat.sub_lt (Nat.lt_of_succ_lt hx) Nat.one_pos)⟩
  show wpS (model prog w) A E s (do
    liftM (rule "list.sort.merge-hi")
    let e ← elem' x (x.size - 1)
    if (x.size - 1 == 0) = true then pure (x.extract 0 (x.size - 1) ++ (#[q] : Array Keyed).extract 0 1 ++ (#[e] : Array Keyed).reverse) else
      pure ((#[q] : Array Keyed).extract 0 1 ++ x.extract 0 (x.size - 1) ++ (#[e] : Array Keyed).reverse)) Q st
  refine wpS_bind (wpS_lift (wpAny_rule ⟨rfl, ?_⟩))
  refine wpS_bind (elem_ok he ?_)
  rw [if_neg (by simp; omega)]
  refine wpS_pure (h _ ?_)
  obtain ⟨x⟩ := x
  simp only [List.size_toArray, List.getElem?_toArray] at he hx ⊢
  have hne : x ≠ [] := by intro e; subst e; simp at hx
  have e3 : x.getLast hne = e := by
    rw [List.getLast_eq_getElem]
    rw [List.getElem?_eq_getElem (by omega)] at he
    exact Option.some.inj he
  have e2 := List.dropLast_concat_getLast hne
  rw [e3] at e2
  simp
  exact e2

theorem sets (c : Nat) : ∀ (xs : List Keyed) (j : Nat) (a : Array Keyed), c + j + xs.length ≤ a.size → (List.foldl (fun a (x : Keyed × Nat) => a.setIfInBounds (c + x.2) x.1) a (xs.zipIdx j)).toList = a.toList.take (c + j) ++ (xs ++ a.toList.drop (c + j + xs.length))
  | [], j, a, h => by simp
  | x :: xs, j, a, h => by
    simp only [List.length_cons] at h
    rw [List.zipIdx_cons, List.foldl_cons, sets c xs (j + 1) _ (by rw [Array.size_setIfInBounds]; omega)]
    have hlt : c + j < a.toList.length := by rw [Array.length_toList]; omega
    have ht : (a.toList.take (c + j)).length = c + j := by rw [List.length_take]; omega
    rw [Array.toList_setIfInBounds]
    show List.take (c + (j + 1)) (a.toList.set (c + j) x) ++ (xs ++ List.drop (c + (j + 1) + xs.length) (a.toList.set (c + j) x)) = _
    rw [List.drop_set_of_lt (by omega)]
    have e1 : List.take (c + (j + 1)) (a.toList.set (c + j) x) = List.take (c + j) a.toList ++ [x] := by
      rw [List.set_eq_take_append_cons_drop, if_pos hlt, List.take_append, ht, List.take_of_length_le (by omega), show c + (j + 1) - (c + j) = 1 by omega]; simp
    rw [e1, List.append_assoc, List.length_cons, show c + (j + 1) + xs.length = c + j + (xs.length + 1) by omega]
    rfl

/-- two runs, the second of one key -/
theorem mergeAt_ok (H : Asks prog w A E s kd X lt) {l : List Keyed} {y : Keyed} {k pw g : Nat} {Q : Bool → SortSt → Prop} (hl : ∀ x ∈ l, x ∈ X) (hy : y ∈ X) (hk : k < l.length)
    (hx : ∀ (i : Nat) x, l[i]? = some x → lt y x = !decide (i < k))
    (h : ∀ st', pendingOf st' = #[(0, l.length + 1, pw)] → failedOf st' = none → (arrOf st').toList = l.take k ++ y :: l.drop k → Q true st') :
    wpS (model prog w) A E s (mergeAt' 0) Q (SortSt.mk' kd (l ++ [y]).toArray #[(0, l.length, pw), (l.length, 1, 0)] g none) := by
  rw [mergeAt2_eq]
  refine wpS_bind (wpS_get ?_)
  have ey : ((l ++ [y]).toArray)[l.length]? = some y := by simp
  have ex : ∀ i, i < l.length → ∃ x, ((l ++ [y]).toArray)[i]? = some x ∧ l[i]? = some x := fun i hi => ⟨l[i], by simp [List.getElem?_append_left hi, hi], by simp [hi]⟩
  rw [show (pendingOf (SortSt.mk' kd (l ++ [y]).toArray #[(0, l.length, pw), (l.length, 1, 0)] g none))[0]? = some (0, l.length, pw) from rfl,
    show (pendingOf (SortSt.mk' kd (l ++ [y]).toArray #[(0, l.length, pw), (l.length, 1, 0)] g none))[0 + 1]? = some (l.length, 1, 0) from rfl]
  dsimp only
  refine wpS_bind (wpS_set ?_)
  refine wpS_bind (elem_ok ey ?_)
  refine wpS_bind (gallop_ok H (k := k) rfl hy (Nat.lt_of_le_of_lt (Nat.zero_le _) hk) (Nat.le_of_lt hk) (fun i hi => ?_) ?_)
  · obtain ⟨x, h1, h2⟩ := ex i hi
    exact ⟨x, h1, hl x (List.mem_of_getElem? h2), hx i x h2⟩
  dsimp only
  rw [if_neg (kc hk)]
  obtain ⟨z, h1, h2⟩ := ex (l.length - 1) (pd (Nat.lt_of_le_of_lt (Nat.zero_le _) hk))
  refine wpS_bind (elem_ok (p := z) (by rw [ka hk]; exact h1) ?_)
  refine wpS_bind (gallop1_ok H rfl (hl z (List.mem_of_getElem? h2)) ey hy (by rw [hx _ z h2]; exact nd2 (kb hk)) ?_)
  dsimp only
  rw [if_neg (by simp)]
  have eX : ((l ++ [y]).toArray.extract (0 + k) l.length).toList = l.drop k := by
    rw [Nat.zero_add]; simp [List.drop_append, List.take_append]; 
  have eY : ((l ++ [y]).toArray.extract l.length (l.length + 1)).toList = [y] := by simp
  have key : ∀ o : Array Keyed, o.toList = y :: ((l ++ [y]).toArray.extract (0 + k) l.length).toList → (List.foldl (fun a (x : Keyed × Nat) => a.setIfInBounds (0 + k + x.2) x.1) (l ++ [y]).toArray o.toList.zipIdx).toList = l.take k ++ y :: l.drop k := by
    intro o e
    rw [e, eX, sets (0 + k) _ 0 _ (by rw [List.length_cons, List.length_drop, kd' (Nat.le_of_lt hk), List.size_toArray, List.length_append]; exact Nat.le_refl _)]
    simp only [List.length_cons, List.length_drop]
    show List.take (0 + k + 0) (l ++ [y]) ++ (y :: l.drop k ++ List.drop (0 + k + 0 + (l.length - k + 1)) (l ++ [y])) = _
    have e5 : List.drop (0 + k + 0 + (l.length - k + 1)) (l ++ [y]) = [] := List.drop_of_length_le (by rw [kd' (Nat.le_of_lt hk), List.length_append]; exact Nat.le_refl _)
    rw [List.take_append_of_le_length (by rw [Nat.zero_add]; exact Nat.le_of_lt hk), e5, List.append_nil, Nat.zero_add, Nat.add_zero]
  have hp : ((#[(0, l.length, pw), (l.length, 1, 0)] : Array (Nat × Nat × Nat)).setIfInBounds 0 (0, l.length + 1, pw)).eraseIdxIfInBounds (0 + 1) = #[(0, l.length + 1, pw)] := by
    apply Array.toList_inj.mp; simp
  by_cases hc : l.length - k ≤ 1
  · rw [if_pos hc]
    refine wpS_bind (mergeLo1 (p := y) eY fun o ho => wpS_bind (wpS_modify (wpS_bind (wpS_get (wpS_pure (h _ hp rfl ?_))))))
    exact key o ho
  · rw [if_neg hc]
    refine wpS_bind (mergeHi1 eY (by rw [← Array.length_toList, eX, List.length_drop]; omega) fun o ho => wpS_bind (wpS_modify (wpS_bind (wpS_get (wpS_pure (h _ hp rfl ?_))))))
    exact key o ho

/-- the first run: all, all but the last, or two turned round -/
theorem count_ok (H : Asks prog w A E s kd X lt) {l : List Keyed} {y : Keyed} {k : Nat} {Q : Option Nat → SortSt → Prop} (h1 : 1 ≤ l.length) (hl : ∀ x ∈ l, x ∈ X) (hy : y ∈ X) (hk : k ≤ l.length)
    (hasc : ∀ (i j : Nat) x z, i < j → l[i]? = some x → l[j]? = some z → lt x z = true ∧ lt z x = false) (hx : ∀ (i : Nat) x, l[i]? = some x → lt y x = !decide (i < k))
    (hA : k = l.length → Q (some (l.length + 1)) (SortSt.mk' kd (l ++ [y]).toArray #[] 7 none))
    (hB : k < l.length → 2 ≤ l.length → Q (some l.length) (SortSt.mk' kd (l ++ [y]).toArray #[] 7 none))
    (hC : k < l.length → l.length = 1 → ∀ a : Array Keyed, a.toList = l.take k ++ y :: l.drop k → Q (some (l.length + 1)) (SortSt.mk' kd a #[] 7 none)) :
    wpS (model prog w) A E s (countRun' 0 (l.length + 1)) Q (SortSt.mk' kd (l ++ [y]).toArray #[] 7 none) := by
  have ey : ((l ++ [y]).toArray)[l.length]? = some y := by simp
  have ex : ∀ i, i < l.length → ∃ x, ((l ++ [y]).toArray)[i]? = some x ∧ l[i]? = some x := fun i hi => ⟨l[i], by simp [List.getElem?_append_left hi, hi], by simp [hi]⟩
  rw [countRun0_eq]
  refine wpS_bind (wpS_mono (Q := fun c st' => st' = SortSt.mk' kd (l ++ [y]).toArray #[] 7 none ∧ c = (none, if k = l.length then l.length + 1 else l.length)) ?_ ?_)
  · unfold ascLoop
    refine wpS_forRange (I := fun x c st' => st' = SortSt.mk' kd (l ++ [y]).toArray #[] 7 none ∧ c = (none, x) ∧ (x = l.length + 1 → k = l.length)) ?_ ?_ ⟨rfl, rfl, fun e => absurd (Nat.succ.inj e ▸ h1 : 1 ≤ 0) (Nat.not_succ_le_zero _)⟩
    · rintro x c st' h1x hxn ⟨rfl, rfl, _⟩
      dsimp only
      obtain ⟨p, hp1, hp2⟩ := ex (x - 1) (ca h1x hxn)
      by_cases hc : x < l.length
      · obtain ⟨q, hq1, hq2⟩ := ex x hc
        refine wpS_bind (ltAt_ok H rfl hq1 hp1 (hl q (List.mem_of_getElem? hq2)) (hl p (List.mem_of_getElem? hp2)) ?_)
        dsimp only
        rw [(hasc (x - 1) x p q (pd h1x) hp2 hq2).2, if_neg (by simp)]
        exact wpS_pure ⟨rfl, rfl, fun e => absurd hc (cb e)⟩
      · have : x = l.length := Nat.le_antisymm (Nat.le_of_lt_succ hxn) (Nat.le_of_not_lt hc)
        subst this
        refine wpS_bind (ltAt_ok H rfl ey hp1 hy (hl p (List.mem_of_getElem? hp2)) ?_)
        dsimp only
        rw [hx _ p hp2]
        by_cases hk' : k = l.length
        · rw [if_neg (nd1 (hk'.symm ▸ pd h1))]
          exact wpS_pure ⟨rfl, rfl, fun _ => hk'⟩
        · rw [if_pos (nd2 (kb (Nat.lt_of_le_of_ne hk hk')))]
          exact wpS_pure ⟨rfl, by rw [if_neg hk']⟩
    · rintro c st' ⟨rfl, rfl, e⟩
      rw [Nat.max_eq_right (Nat.succ_le_succ (Nat.zero_le _))] at e ⊢
      exact ⟨rfl, by rw [if_pos (e rfl)]⟩
  · rintro c st' ⟨rfl, rfl⟩
    dsimp only
    by_cases hk' : k = l.length
    · rw [if_pos hk', if_pos (by simp)]
      exact wpS_pure (hA hk')
    · rw [if_neg hk', if_neg (by simp)]
      by_cases h2 : l.length > 1
      · rw [if_pos h2]
        obtain ⟨p, hp1, hp2⟩ := ex 0 h1
        obtain ⟨q, hq1, hq2⟩ := ex (l.length - 1) (pd h1)
        refine wpS_bind (ltAt_ok H rfl hp1 hq1 (hl p (List.mem_of_getElem? hp2)) (hl q (List.mem_of_getElem? hq2)) ?_)
        dsimp only
        rw [(hasc 0 (l.length - 1) p q (Nat.sub_pos_of_lt h2) hp2 hq2).1, if_pos rfl]
        exact wpS_pure (hB (Nat.lt_of_le_of_ne hk hk') h2)
      · rw [if_neg h2]
        have e1 : l.length = 1 := Nat.le_antisymm (Nat.le_of_not_lt h2) h1
        have hC' := hC (Nat.lt_of_le_of_ne hk hk') e1
        have k0 : k = 0 := Nat.lt_one_iff.mp (e1 ▸ Nat.lt_of_le_of_ne hk hk')
        subst k0
        obtain ⟨x, rfl⟩ := List.length_eq_one_iff.mp e1
        · unfold descPart
          refine wpS_bind (wpS_lift (wpAny_rule ⟨rfl, ?_⟩))
          unfold descLoop
          refine wpS_bind (wpS_forRange (I := fun i c st' => c = (none, 2, 0) ∧ st' = SortSt.mk' kd ([x] ++ [y]).toArray #[] 7 none) (fun i c st' a b _ => absurd (Nat.lt_of_le_of_lt a b) (Nat.lt_irrefl _)) ?_ ⟨rfl, rfl⟩)
          rintro c st' ⟨rfl, rfl⟩
          dsimp only
          rw [if_neg (by simp)]
          unfold tail3
          refine wpS_bind (wpS_reverse ?_)
          unfold ascLoop
          refine wpS_bind (wpS_forRange (I := fun i c st' => c = (none, 2) ∧ st' = SortSt.mk' kd (mirror ([x] ++ [y]).toArray 0 2 1) #[] 7 none) (fun i c st' a b _ => absurd (Nat.lt_of_le_of_lt a b) (Nat.lt_irrefl _)) ?_ ⟨rfl, rfl⟩)
          rintro c st' ⟨rfl, rfl⟩
          exact wpS_pure (hC' _ (by simp [mirror, List.range_succ]; rfl))

theorem minRun_le : ∀ (f n r : Nat), n ≤ f → r ≤ 1 → minRun' f n r ≤ 64
  | 0, n, r, h, hr => by show n + r ≤ 64; omega
  | f + 1, n, r, h, hr => by
    rw [minRun'_succ]
    split
    · omega
    · exact minRun_le f _ _ (by omega) (by omega)
theorem minRun_small (n : Nat) (h0 : 0 < n) (h : n < 64) : minRun' n n 0 = n := by
  obtain ⟨f, rfl⟩ : ∃ f, n = f + 1 := ⟨n - 1, by omega⟩
  rw [minRun'_succ, if_pos h]
theorem minRun_big (n : Nat) (h : 64 ≤ n + 1) : minRun' (n + 1) (n + 1) 0 ≤ n := by
  by_cases e : n = 63
  · subst e; decide +kernel
  · exact Nat.le_trans (minRun_le _ _ _ (Nat.le_refl _) (by omega)) (by omega)

theorem bubble_list {l : List Keyed} {y : Keyed} {k : Nat} (hk : k ≤ l.length) : (bubble (l ++ [y]).toArray l.length (l.length - k)).toList = l.take k ++ y :: l.drop k := by
  apply List.ext_getElem?
  intro i
  rw [Array.getElem?_toList, getElem?_bubble (by rw [List.size_toArray, List.length_append]; exact Nat.lt_succ_self _) _ (Nat.sub_le _ _), sk hk]
  have ht : (l.take k).length = k := tk hk
  by_cases h1 : i = k
  · subst h1
    rw [if_pos rfl, List.getElem?_append_right (Nat.le_of_eq ht), ht, Nat.sub_self, List.getElem?_toArray, List.getElem?_append_right (Nat.le_refl _), Nat.sub_self]; rfl
  · rw [if_neg h1]
    by_cases h2 : i < k
    · rw [if_neg (fun q => Nat.lt_asymm q.1 h2), List.getElem?_append_left (by rw [ht]; exact h2), List.getElem?_take_of_lt h2, List.getElem?_toArray, List.getElem?_append_left (Nat.lt_of_lt_of_le h2 hk)]
    · obtain ⟨j, rfl⟩ := Nat.exists_eq_add_of_lt (Nat.lt_of_le_of_ne (Nat.le_of_not_lt h2) (Ne.symm h1))
      rw [List.getElem?_append_right (by rw [ht]; exact Nat.le_of_not_lt h2), ht, ja, List.getElem?_cons_succ, List.getElem?_drop]
      by_cases h3 : k + j < l.length
      · rw [if_pos ⟨Nat.lt_succ_of_le (Nat.le_add_right _ _), h3⟩, List.getElem?_toArray, Nat.add_sub_cancel, List.getElem?_append_left h3]
      · rw [if_neg (fun q => h3 q.2), List.getElem?_toArray, List.getElem?_eq_none (by rw [List.length_append]; exact Nat.succ_le_succ (Nat.le_of_not_lt h3)), List.getElem?_eq_none (Nat.le_of_not_lt h3)]

theorem binary_ok (H : Asks prog w A E s kd X lt) {l : List Keyed} {y : Keyed} {k : Nat} {Q : Bool → SortSt → Prop} (h1 : 1 ≤ l.length) (hl : ∀ x ∈ l, x ∈ X) (hy : y ∈ X) (hk : k ≤ l.length)
    (hx : ∀ (i : Nat) x, l[i]? = some x → lt y x = !decide (i < k)) (h : ∀ a : Array Keyed, a.toList = l.take k ++ y :: l.drop k → Q true (SortSt.mk' kd a #[] 7 none)) :
    wpS (model prog w) A E s (binarySort' 0 (l.length + 1) l.length) Q (SortSt.mk' kd (l ++ [y]).toArray #[] 7 none) := by
  have ey : ((l ++ [y]).toArray)[l.length]? = some y := by simp
  have ex : ∀ i, i < l.length → ∃ x, ((l ++ [y]).toArray)[i]? = some x ∧ l[i]? = some x := fun i hi => ⟨l[i], by simp [List.getElem?_append_left hi, hi], by simp [hi]⟩
  rw [binarySort'_eq]
  simp only [Nat.zero_add]
  refine wpS_bind (wpS_mono (wpS_forRange (I := fun x c st' => c = (none, ()) ∧ ((x = l.length ∧ st' = SortSt.mk' kd (l ++ [y]).toArray #[] 7 none) ∨ (l.length < x ∧ ∃ a : Array Keyed, a.toList = l.take k ++ y :: l.drop k ∧ st' = SortSt.mk' kd a #[] 7 none)))
    (Q := fun c st' => c = (none, ()) ∧ ∃ a : Array Keyed, a.toList = l.take k ++ y :: l.drop k ∧ st' = SortSt.mk' kd a #[] 7 none) ?_ ?_ ⟨rfl, .inl ⟨Nat.max_eq_left h1, rfl⟩⟩) ?_)
  · rintro x c st' ha hb ⟨rfl, ⟨rfl, rfl⟩ | ⟨hx', _⟩⟩
    · refine wpS_bind (wpS_mono (wpS_forRange (I := fun x c st' => st' = SortSt.mk' kd (l ++ [y]).toArray #[] 7 none ∧ ∃ lo r, c = (none, lo, r) ∧ lo ≤ k ∧ k ≤ r ∧ r ≤ l.length ∧ r - lo ≤ l.length - x)
        (Q := fun c st' => st' = SortSt.mk' kd (l ++ [y]).toArray #[] 7 none ∧ ∃ r, c = (none, k, r)) ?_ ?_ ⟨rfl, 0, l.length, rfl, Nat.zero_le _, hk, Nat.le_refl _, Nat.le_refl _⟩) ?_)
      · rintro x c st' _ hxk ⟨rfl, lo, r, rfl, a1, a2, a3, a4⟩
        dsimp only
        by_cases hge : lo ≥ r
        · rw [if_pos hge]
          have : lo = k := Nat.le_antisymm a1 (Nat.le_trans a2 hge)
          subst this
          exact wpS_pure ⟨rfl, _, rfl⟩
        · rw [if_neg hge]
          obtain ⟨p, hp1, hp2⟩ := ex ((lo + r) / 2) (Nat.lt_of_lt_of_le (m_lt2 hge).2 a3)
          refine wpS_bind (ltAt_ok H rfl ey hp1 hy (hl p (List.mem_of_getElem? hp2)) ?_)
          dsimp only
          rw [hx _ p hp2]
          by_cases hm : (lo + r) / 2 < k
          · rw [if_neg (by simpa using hm)]
            exact wpS_pure ⟨rfl, _, _, rfl, hm, a2, a3, d1 a4 (m_lt2 hge).1 (m_lt2 hge).2⟩
          · rw [if_pos (by simpa using hm)]
            exact wpS_pure ⟨rfl, _, _, rfl, a1, Nat.le_of_not_lt hm, Nat.le_trans (Nat.le_of_lt (m_lt2 hge).2) a3, d2 a4 (m_lt2 hge).1 (m_lt2 hge).2⟩
      · rintro c st' ⟨rfl, lo, r, rfl, a1, a2, a3, a4⟩
        have : lo = k := (d3 a1 a2 a4).2
        subst this
        exact ⟨rfl, _, rfl⟩
      · rintro c st' ⟨rfl, r, rfl⟩
        show wpS _ _ _ _ (do moveDown' l.length k; pure (ForInStep.yield (none, ()))) _ _
        rw [moveDown'_eq]
        exact wpS_bind (wpS_modify (wpS_pure ⟨rfl, .inr ⟨Nat.lt_succ_self _, _, bubble_list hk, rfl⟩⟩))
    · exact absurd hb (Nat.not_lt.mpr hx')
  · rintro c st' ⟨rfl, ⟨h', _⟩ | ⟨_, a, e, rfl⟩⟩
    · exact absurd (Nat.le_trans (Nat.le_max_right _ _) (Nat.le_of_eq h')) (Nat.not_succ_le_self _)
    · exact ⟨rfl, a, e, rfl⟩
  · rintro c st' ⟨rfl, a, e, rfl⟩
    exact wpS_pure (h a e)

theorem count1 {lo : Nat} {st : SortSt} {Q : Option Nat → SortSt → Prop} (h : Q (some 1) st) : wpS (model prog w) A E s (countRun' lo 1) Q st := by
  rw [countRun'_eq]
  refine wpS_bind (wpS_forRange (I := fun _ c st' => c = (none, 1) ∧ st' = st) (fun i c st' a b _ => absurd (Nat.lt_of_le_of_lt a b) (Nat.lt_irrefl _)) ?_ ⟨rfl, rfl⟩)
  rintro c st' ⟨rfl, rfl⟩
  dsimp only
  rw [if_pos (by decide)]
  exact wpS_pure h
theorem binary1 {lo : Nat} {st : SortSt} {Q : Bool → SortSt → Prop} (h : Q true st) : wpS (model prog w) A E s (binarySort' lo 1 1) Q st := by
  rw [binarySort'_eq]
  refine wpS_bind (wpS_forRange (I := fun _ c st' => c = (none, ()) ∧ st' = st) (fun i c st' a b _ => absurd (Nat.lt_of_le_of_lt a b) (Nat.lt_irrefl _)) ?_ ⟨rfl, rfl⟩)
  rintro c st' ⟨rfl, rfl⟩
  exact wpS_pure h

theorem runs_ok (H : Asks prog w A E s kd X lt) {l : List Keyed} {y : Keyed} {k : Nat} {Q : Unit → SortSt → Prop} (h1 : 1 ≤ l.length) (hl : ∀ x ∈ l, x ∈ X) (hy : y ∈ X) (hk : k ≤ l.length)
    (hasc : ∀ (i j : Nat) x z, i < j → l[i]? = some x → l[j]? = some z → lt x z = true ∧ lt z x = false) (hx : ∀ (i : Nat) x, l[i]? = some x → lt y x = !decide (i < k))
    (h : ∀ st', failedOf st' = none → (arrOf st').toList = l.take k ++ y :: l.drop k → Q () st') :
    wpS (model prog w) A E s sortRuns' Q (SortSt.mk' kd (l ++ [y]).toArray #[] 7 none) := by
  rw [sortRuns'_eq]
  refine wpS_bind (wpS_get ?_)
  dsimp only
  have hsz : (arrOf (SortSt.mk' kd (l ++ [y]).toArray #[] 7 none)).size = l.length + 1 := by show (l ++ [y]).toArray.size = _; simp
  simp only [hsz]
  have hmr1 : l.length + 1 < 64 → minRun' (l.length + 1) (l.length + 1) 0 = l.length + 1 := fun e => minRun_small _ (Nat.succ_pos _) e
  have hmr2 : 64 ≤ l.length + 1 → minRun' (l.length + 1) (l.length + 1) 0 ≤ l.length := fun e => minRun_big _ e
  have hmr3 : minRun' (l.length + 1) (l.length + 1) 0 ≤ l.length + 1 := by
    by_cases e : l.length + 1 < 64
    · rw [hmr1 e]; exact Nat.le_refl _
    · exact Nat.le_succ_of_le (hmr2 (Nat.le_of_not_lt e))
  refine wpS_bind (wpS_mono (wpS_forRange
    (I := fun x c st' => (x = 0 ∧ c = (none, 0) ∧ st' = SortSt.mk' kd (l ++ [y]).toArray #[] 7 none) ∨
      (1 ≤ x ∧ x < l.length + 1 ∧ c = (none, l.length) ∧ k < l.length ∧ st' = SortSt.mk' kd (l ++ [y]).toArray #[(0, l.length, 0)] 7 none) ∨
      (1 ≤ x ∧ c = (none, l.length + 1) ∧ ((∃ a : Array Keyed, a.toList = l.take k ++ y :: l.drop k ∧ st' = SortSt.mk' kd a #[(0, l.length + 1, 0)] 7 none) ∨
        (k < l.length ∧ ∃ pw, st' = SortSt.mk' kd (l ++ [y]).toArray #[(0, l.length, pw), (l.length, 1, 0)] 7 none))))
    (Q := fun c st' => c = (none, l.length + 1) ∧ ((∃ a : Array Keyed, a.toList = l.take k ++ y :: l.drop k ∧ st' = SortSt.mk' kd a #[(0, l.length + 1, 0)] 7 none) ∨
        (k < l.length ∧ ∃ pw, st' = SortSt.mk' kd (l ++ [y]).toArray #[(0, l.length, pw), (l.length, 1, 0)] 7 none))) ?step ?fin (.inl ⟨rfl, rfl, rfl⟩)) ?post)
  case fin =>
    rintro c st' (⟨hx, _, _⟩ | ⟨_, hx, _⟩ | ⟨_, hc, hD⟩)
    · exact absurd (Nat.le_trans (Nat.le_max_right _ _) (Nat.le_of_eq hx)) (Nat.not_succ_le_zero _)
    · exact absurd (Nat.lt_of_le_of_lt (Nat.le_max_right _ _) hx) (Nat.lt_irrefl _)
    · exact ⟨hc, hD⟩
  case step =>
    rintro x c st' _ hxn (⟨rfl, rfl, rfl⟩ | ⟨hx1, hx2, rfl, hkl, rfl⟩ | ⟨hx1, rfl, hD⟩)
    · dsimp only
      rw [if_neg (Nat.not_succ_le_zero _)]
      simp only [Nat.sub_zero, Nat.zero_add]
      have whole : ∀ (a : Array Keyed) {R : ForInStep (Option Unit × Nat) → SortSt → Prop}, R (.yield (none, l.length + 1)) (SortSt.mk' kd a #[(0, l.length + 1, 0)] 7 none) → wpS (model prog w) A E s (do
          modify fun s => setPending s ((pendingOf s).push (0, l.length + 1, 0))
          pure (ForInStep.yield (none, l.length + 1))) R (SortSt.mk' kd a #[] 7 none) :=
        fun a R e => wpS_bind (wpS_modify (wpS_pure e))
      refine wpS_bind (count_ok H h1 hl hy hk hasc hx (fun hk' => ?_) (fun hk' h2 => ?_) (fun hk' h2 a ea => ?_))
      · dsimp only
        rw [if_neg (Nat.not_lt.mpr hmr3)]
        refine wpS_bind (wpS_get ?_)
        exact whole _ (.inr (.inr ⟨Nat.le_refl _, rfl, .inl ⟨_, by subst hk'; simp, rfl⟩⟩))
      · dsimp only
        by_cases hlt : l.length + 1 < 64
        · rw [if_pos (by rw [hmr1 hlt]; exact Nat.lt_succ_self _)]
          refine wpS_bind (wpS_lift (wpAny_rule ⟨rfl, ?_⟩))
          simp only [hmr1 hlt, Nat.sub_zero, Nat.min_self]
          refine wpS_bind (binary_ok H h1 hl hy hk hx fun a ea => ?_)
          simp only [Bool.not_true, Bool.false_eq_true, if_false]
          refine wpS_bind (wpS_get ?_)
          exact whole a (.inr (.inr ⟨Nat.le_refl _, rfl, .inl ⟨_, ea, rfl⟩⟩))
        · rw [if_neg (Nat.not_lt.mpr (hmr2 (Nat.le_of_not_lt hlt)))]
          refine wpS_bind (wpS_get ?_)
          exact wpS_bind (wpS_modify (wpS_pure (.inr (.inl ⟨Nat.le_refl _, Nat.succ_le_succ h1, rfl, hk', rfl⟩))))
      · dsimp only
        rw [if_neg (Nat.not_lt.mpr hmr3)]
        refine wpS_bind (wpS_get ?_)
        exact whole a (.inr (.inr ⟨Nat.le_refl _, rfl, .inl ⟨_, ea, rfl⟩⟩))
    · dsimp only
      rw [if_neg (Nat.not_succ_le_self _), Nat.add_sub_cancel_left]
      refine wpS_bind (count1 ?_)
      dsimp only
      have hmod : ∀ pw : Nat, ((#[(0, l.length, 0)] : Array (Nat × Nat × Nat)).modify (1 - 1) fun x => (x.fst, x.2.fst, pw)) = #[(0, l.length, pw)] := by
        intro pw; apply Array.toList_inj.mp; simp
      have e1 : 1 < minRun' (l.length + 1) (l.length + 1) 0 → min 1 (minRun' (l.length + 1) (l.length + 1) 0) = 1 := fun q => Nat.min_eq_left (Nat.le_of_lt q)
      by_cases hlt : 1 < minRun' (l.length + 1) (l.length + 1) 0
      all_goals
        first
          | (rw [if_pos hlt]
             refine wpS_bind (wpS_lift (wpAny_rule ⟨rfl, ?_⟩))
             simp only [e1 hlt]
             refine wpS_bind (binary1 ?_)
             simp only [Bool.not_true, Bool.false_eq_true, if_false])
          | rw [if_neg hlt]
        refine wpS_bind (wpS_get ?_)
        rw [show (pendingOf (SortSt.mk' kd (l ++ [y]).toArray #[(0, l.length, 0)] 7 none)).back? = some (0, l.length, 0) from rfl]
        dsimp only
        refine wpS_bind (wpS_mono (wpS_forRange (I := fun _ c st' => c = (none, ()) ∧ st' = SortSt.mk' kd (l ++ [y]).toArray #[(0, l.length, 0)] 7 none)
          (Q := fun c st' => c = (none, ()) ∧ st' = SortSt.mk' kd (l ++ [y]).toArray #[(0, l.length, 0)] 7 none) ?_ (fun _ _ h => h) ⟨rfl, rfl⟩) ?_)
        · rintro x c st' _ _ ⟨rfl, rfl⟩
          refine wpS_bind (wpS_get ?_)
          rw [if_neg (by show ¬ ((1 : Nat) > 1); exact Nat.lt_irrefl _)]
          exact wpS_pure ⟨rfl, rfl⟩
        · rintro c st' ⟨rfl, rfl⟩
          dsimp only
          refine wpS_bind (wpS_modify (wpS_bind (wpS_modify (wpS_pure (.inr (.inr ⟨Nat.succ_le_succ (Nat.zero_le _), rfl, .inr ⟨hkl, power' (l.length + 1) (2 * 0 + l.length) (2 * 0 + l.length + l.length + 1) (l.length + 1), ?_⟩⟩))))))
          show SortSt.mk' kd (l ++ [y]).toArray (((#[(0, l.length, 0)] : Array (Nat × Nat × Nat)).modify (1 - 1) fun x => (x.fst, x.2.fst, _)).push (l.length, 1, 0)) 7 none = _
          rw [hmod]
          rfl
    · dsimp only
      rw [if_pos (Nat.le_refl _)]
      exact wpS_pure ⟨rfl, hD⟩
  case post =>
    rintro c st' ⟨rfl, hD⟩
    dsimp only
    refine wpS_bind (wpS_mono (wpS_forRange (I := fun x c st'' => c = (none, ()) ∧ ((x = 0 ∧ st'' = st') ∨ ((∃ p, pendingOf st'' = #[p]) ∧ failedOf st'' = none ∧ (arrOf st'').toList = l.take k ++ y :: l.drop k)))
      (Q := fun c st'' => c = (none, ()) ∧ failedOf st'' = none ∧ (arrOf st'').toList = l.take k ++ y :: l.drop k) ?_ ?_ ⟨rfl, .inl ⟨rfl, rfl⟩⟩) ?_)
    · have one : ∀ (st'' : SortSt), (∃ p, pendingOf st'' = #[p]) → (pendingOf st'').size ≤ 1 := by
        rintro st'' ⟨p, e⟩; rw [e]; exact Nat.le_refl 1
      rintro x c st'' _ _ ⟨rfl, ⟨rfl, rfl⟩ | ⟨h3, h4, h5⟩⟩
      · rcases hD with ⟨a, ea, rfl⟩ | ⟨hkl, pw, rfl⟩
        · refine wpS_bind (wpS_get ?_)
          rw [if_pos (one _ ⟨_, rfl⟩)]
          exact wpS_pure ⟨rfl, rfl, ea⟩
        · refine wpS_bind (wpS_get ?_)
          rw [if_neg (by show ¬ ((2 : Nat) ≤ 1); decide)]
          refine wpS_bind (mergeAt_ok H hl hy hkl hx (pw := pw) fun st2 e1 e2 e3 => ?_)
          simp only [Bool.not_true, Bool.false_eq_true, if_false]
          exact wpS_pure ⟨rfl, .inr ⟨⟨_, e1⟩, e2, e3⟩⟩
      · refine wpS_bind (wpS_get ?_)
        rw [if_pos (one _ h3)]
        exact wpS_pure ⟨rfl, h4, h5⟩
    · rintro c st'' ⟨rfl, ⟨h3, _⟩ | ⟨h3, h4, h5⟩⟩
      · exact absurd (Nat.le_trans (Nat.le_max_right _ _) (Nat.le_of_eq h3)) (Nat.not_succ_le_zero _)
      · exact ⟨rfl, h4, h5⟩
    · rintro c st'' ⟨rfl, h4, h5⟩
      exact wpS_pure (h _ h4 h5)
end
end Mine

namespace Mine
open PySem PySem.Calls PyProof.Rows PySem.W

theorem keyP_some {d : D} {k : Int × Int} (h : keyP d = some k) : d = pr k := by
  unfold keyP at h; split at h
  · cases h; rfl
  · cases h
theorem keysP_some : ∀ {ds : List D} {ks : List (Int × Int)}, keysP ds = some ks → ds = ks.map pr
  | [], ks, h => by cases h; rfl
  | d :: ds, ks, h => by
    replace h := ob h
    obtain ⟨k, hk, h⟩ := h
    replace h := om h
    obtain ⟨r, hr, rfl⟩ := h
    rw [keyP_some hk, keysP_some hr]; rfl

/-- a pair's key, read off the heap -/
noncomputable def kOf (h : Heap) : Value → Int × Int
  | .ref a => match h.get? a with
    | some o => match o.data with
      | .seq xs _ => match xs.toList with
        | [.int x _, .int y _] => (x, y)
        | _ => (0, 0)
      | _ => (0, 0)
    | none => (0, 0)
  | _ => (0, 0)

theorem pairAt {h : Heap} {v : Value} {k : Int × Int} (e : V h v (pr k)) : ∃ a o n t u, v = .ref a ∧ h.get? a = some o ∧ o.cls = .type "tuple" ∧ o.data = .seq #[.int k.1 t, .int k.2 u] n := by
  cases e with
  | tup hp hv hl =>
    obtain ⟨o, ho, hc, n, hd⟩ := hp
    cases hv with
    | cons a b =>
      cases b with
      | cons b c =>
        cases c
        obtain ⟨t, rfl⟩ := a.int_inv
        obtain ⟨u, rfl⟩ := b.int_inv
        exact ⟨_, o, n, t, u, rfl, ho, hc, hd⟩
theorem kOf_eq {h : Heap} {v : Value} {k : Int × Int} (e : V h v (pr k)) : kOf h v = k := by
  obtain ⟨a, o, n, t, u, rfl, ho, hc, hd⟩ := pairAt e
  simp [kOf, ho, hd]

section
variable {prog : Program} {w : World} {A : Around} {E : Value → Shared → Prop} {s : Shared}

theorem pair_lt {x y : Value} {j k : Int × Int} {Q : Bool → Shared → Prop} (hx : V s.heap x (pr j)) (hy : V s.heap y (pr k)) (h : Q (ltP j k) s) :
    wpAny (model prog w) A (keyLt' (tuples' true) x y) Q E s := by
  obtain ⟨a, o, n, t, u, rfl, ho, hc, hd⟩ := pairAt hx
  obtain ⟨b, q, m, t', u', rfl, hq, hc', hd'⟩ := pairAt hy
  refine kat_lt ho hd hq hd' ?_
  unfold ltP at h
  refine kat_cons (wpAny_eqBool_int ?_)
  by_cases e : (j.1 == k.1) = true
  · rw [e, if_pos rfl] at h
    rw [e]
    refine kat_yes (kat_cons (wpAny_eqBool_int ?_))
    by_cases e2 : (j.2 == k.2) = true
    · rw [e2]
      refine kat_yes (kat_nil ?_)
      have e3 : j.2 = k.2 := by simpa using e2
      rw [e3] at h
      simpa using h
    · rw [Bool.eq_false_iff.mpr e2]
      exact kat_no (kat_one _ _ (lt_int h))
  · rw [if_neg e] at h
    rw [Bool.eq_false_iff.mpr e]
    exact kat_no (oneLt_int h)

theorem asks_pairs {vs : List Value} {ks : List (Int × Int)} (hv : Vs s.heap vs (ks.map pr)) :
    Asks prog w A E s (tuples' true) (vs.map fun v => (v, v)) (fun p q => ltP (kOf s.heap p.1) (kOf s.heap q.1)) := by
  have key : ∀ p, p ∈ vs.map (fun v => ((v, v) : Keyed)) → ∃ k, V s.heap p.1 (pr k) := by
    intro p hp
    obtain ⟨v, hm, rfl⟩ := List.mem_map.mp hp
    obtain ⟨i, hi⟩ := List.getElem?_of_mem hm
    obtain ⟨d, hd, hV⟩ := hv.get' hi
    rw [List.getElem?_map] at hd
    obtain ⟨k, hk, rfl⟩ := Option.map_eq_some_iff.mp hd
    exact ⟨k, hV⟩
  intro st p q Q hk hp hq h
  obtain ⟨j, hj⟩ := key p hp
  obtain ⟨k, hk'⟩ := key q hq
  dsimp only at h
  rw [kOf_eq hj, kOf_eq hk'] at h
  rw [lt'_eq]
  refine wpS_bind (wpS_get ?_)
  rw [hk]
  refine wpS_bind (wpS_lift (wpAny_attempt (pair_lt hj hk' ⟨rfl, ?_⟩)))
  exact wpS_pure h

theorem ltP_trans {a b c : Int × Int} (h1 : ltP a b = true) (h2 : ltP b c = true) : ltP a c = true := by
  unfold ltP at *
  simp only [beq_iff_eq] at *
  by_cases e1 : a.1 = b.1
  · rw [if_pos e1] at h1
    by_cases e2 : b.1 = c.1
    · rw [if_pos e2] at h2; rw [if_pos (e1.trans e2)]; simp only [decide_eq_true_eq] at *; omega
    · rw [if_neg e2] at h2; rw [if_neg (by omega)]; simp only [decide_eq_true_eq] at *; omega
  · rw [if_neg e1] at h1
    by_cases e2 : b.1 = c.1
    · rw [if_pos e2] at h2; rw [if_neg (by omega)]; simp only [decide_eq_true_eq] at *; omega
    · rw [if_neg e2] at h2; simp only [decide_eq_true_eq] at *; rw [if_neg (by omega)]; simp only [decide_eq_true_eq]; omega
theorem ltP_asymm {a b : Int × Int} (h1 : ltP a b = true) : ltP b a = false := by
  unfold ltP at *
  simp only [beq_iff_eq] at *
  by_cases e1 : a.1 = b.1
  · rw [if_pos e1] at h1; rw [if_pos e1.symm]; simp only [decide_eq_true_eq, decide_eq_false_iff_not] at *; omega
  · rw [if_neg e1] at h1; rw [if_neg (by omega)]; simp only [decide_eq_true_eq, decide_eq_false_iff_not] at *; omega

/-- where the last goes among the rising -/
theorem place_ok {y : Int × Int} : ∀ {l : List (Int × Int)}, l.Pairwise (fun a b => ltP a b = true) → ∀ (i : Nat) x, l[i]? = some x → ltP y x = !decide (i < (l.takeWhile (fun x => !ltP y x)).length)
  | [], _, i, x, h => by simp at h
  | z :: l, hp, i, x, h => by
    rw [List.pairwise_cons] at hp
    cases hz : ltP y z with
    | true =>
      rw [List.takeWhile_cons_of_neg (by simp [hz])]
      cases i with
      | zero => simp at h; subst h; simp [hz]
      | succ i =>
        simp at h
        rw [ltP_trans hz (hp.1 x (List.mem_of_getElem? h))]; simp
    | false =>
      rw [List.takeWhile_cons_of_pos (by simp [hz])]
      cases i with
      | zero => simp at h; subst h; simp [hz]
      | succ i =>
        simp at h
        rw [place_ok hp.2 i x h]; simp
theorem takeW {y : Int × Int} (l : List (Int × Int)) : l.take (l.takeWhile (fun x => !ltP y x)).length = l.takeWhile (fun x => !ltP y x) := by
  conv => lhs; rw [← List.takeWhile_append_dropWhile (p := fun x => !ltP y x) (l := l)]
  rw [List.take_append_of_le_length (by simp)]
  simp
theorem dropW {y : Int × Int} (l : List (Int × Int)) : l.drop (l.takeWhile (fun x => !ltP y x)).length = l.dropWhile (fun x => !ltP y x) := by
  have e := List.takeWhile_append_dropWhile (p := fun x => !ltP y x) (l := l)
  generalize l.takeWhile (fun x => !ltP y x) = t at e ⊢
  generalize l.dropWhile (fun x => !ltP y x) = d at e ⊢
  subst e; simp

theorem zip_dup (vs : List Value) : vs.toArray.zip vs.toArray = (vs.map fun v => ((v, v) : Keyed)).toArray := by
  apply Array.toList_inj.mp
  simp [List.zip_eq_zipWith, List.zipWith_self]
theorem tups_of {h : Heap} : ∀ {vs : List Value} {ks : List (Int × Int)}, Vs h vs (ks.map pr) → ∃ fs, KatTups h vs fs ∧ fs.length = vs.length ∧ ∀ f ∈ fs, ∃ i t, f = Value.int i t
  | [], ks, x => ⟨[], KatTups.nil, rfl, by simp⟩
  | v :: vs, [], x => by cases x
  | v :: vs, k :: ks, x => by
    cases x with
    | cons a b =>
      obtain ⟨fs, h1, h2, h3⟩ := tups_of b
      obtain ⟨p, o, n, t, u, rfl, ho, hc, hd⟩ := pairAt a
      refine ⟨.int k.1 t :: fs, KatTups.cons ho hc hd rfl h1, by simp [h2], fun f hf => ?_⟩
      rcases List.mem_cons.mp hf with rfl | hf
      · exact ⟨_, _, rfl⟩
      · exact h3 f hf

theorem list_sort_pairs {h0 : Heap} {a : Addr} {vs : List Value} {ks r : List (Int × Int)} {n : Nat} {P : PySem.Fin → Shared → Prop} (ho : s.heap.get? a = some (seqObj "list" vs.toArray n)) (hv : Vs h0 vs (ks.map pr)) (hk0 : ∀ b o, h0.get? b = some o → s.heap.get? b = some o ∧ b ≠ a) (hlen : vs.length ≤ lim) (he : sortK ks = some r)
    (h : ∀ out : Array Value, Vs h0 out.toList (r.map pr) → P (.done (.ret .none)) { s with heap := sortedHeap s.heap a vs out }) :
    wpAny (model prog w) A (Builtin.«list.sort» ⟨[.ref a], []⟩) P E s := by
  have ll := lim_line
  rw [list_sort_plain]
  have ha : a < s.heap.objs.size := Heap.lt_size ho
  refine wpAny_bind (listItems_at ho rfl ?_)
  refine wpAny_bind (listUpdate_at ho rfl ?_ (by rw [List.size_toArray]; omega) (Nat.zero_le _))
  obtain ⟨e1, ho1⟩ : ∃ e1, (s.heap.update a (Obj.mapSeq fun _ => #[])).get? a = some (seqObj "list" #[] e1) := ⟨_, get?_update_seq ho (fun _ => #[])⟩
  refine wpAny_bind (seqEpoch_at ho1 rfl ?_)
  refine wpAny_bind (wpAny_newTuple ?_ (by show vs.length ≤ _; omega))
  refine wpAny_bind (wpAny_newList ?_ (Nat.zero_le _))
  refine wpAny_holding ?_
  have ho6 : (((s.heap.update a (Obj.mapSeq fun _ => #[])).push (seqObj "tuple" vs.toArray 0)).push (seqObj "list" #[] 0)).get? a = some (seqObj "list" #[] e1) := by
    rw [Heap.get?_push_ne _ _ _ (by rw [size_push', Heap.size_update]; exact Nat.ne_of_lt (Nat.lt_succ_of_lt ha)), Heap.get?_push_ne _ _ _ (by rw [Heap.size_update]; exact Nat.ne_of_lt ha)]
    exact ho1
  have hk6 : ∀ b o, h0.get? b = some o → (((s.heap.update a (Obj.mapSeq fun _ => #[])).push (seqObj "tuple" vs.toArray 0)).push (seqObj "list" #[] 0)).get? b = some o := fun b o q =>
    Heap.get?_push_of_some _ (Heap.get?_push_of_some _ (by rw [Heap.get?_update_ne _ _ _ _ (hk0 b o q).2]; exact (hk0 b o q).1))
  show wpAny (model prog w) A _ P E { s with heap := ((s.heap.update a (Obj.mapSeq fun _ => #[])).push (seqObj "tuple" vs.toArray 0)).push (seqObj "list" #[] 0) }
  dsimp only
  replace he := oi' he
  obtain ⟨hasc, he⟩ := he
  cases he
  have lk : vs.length = ks.length := by rw [hv.length, List.length_map]
  rcases List.eq_nil_or_concat vs with rfl | ⟨us, v, evs⟩
  · have : ks = [] := by cases ks <;> simp at lk ⊢
    subst this
    rw [if_pos (by simp), if_pos (by simp)]
    refine wpAny_bind (wpAny_pure ?_)
    rw [StateT.run_pure]
    refine wpAny_bind (wpAny_pure ?_)
    dsimp only
    refine wpAny_bind (seqEpoch_at ho6 rfl ?_)
    refine wpAny_bind (listUpdate_at ho6 rfl ?_ (Nat.zero_le _) (by rw [Array.size_map]; show ((#[] : Array Value).zip #[]).size ≤ _; simp))
    simp only [bne_self_eq_false, Bool.false_eq_true, if_false]
    exact wpAny_pure (h _ (by show Vs h0 (Array.map (fun x : Keyed => x.2) ((#[] : Array Value).zip #[])).toList []; simp; exact Vs.nil))
  · rw [List.concat_eq_append] at evs; subst evs
    rcases List.eq_nil_or_concat ks with rfl | ⟨js, y, eks⟩
    · simp at lk
    rw [List.concat_eq_append] at eks; subst eks
    have lu : us.length = js.length := by simpa using lk
    rw [List.dropLast_concat] at hasc h
    rw [List.getLast?_concat] at h
    rw [List.map_append] at hv
    have hvu : Vs h0 us (js.map pr) := by
      have := hv.take us.length
      rwa [List.take_left, List.take_append_of_le_length (by simp [lu]), List.take_of_length_le (by simp [lu])] at this
    have hvv : V h0 v (pr y) := by
      obtain ⟨d, hd, hV⟩ := hv.get' (k := us.length) (v := v) (by simp)
      simp [lu] at hd
      subst hd; exact hV
    have fin : ∀ (st' : SortSt), (arrOf st').toList = (us.map fun v => ((v, v) : Keyed)).take (js.takeWhile (fun x => !ltP y x)).length ++ (v, v) :: (us.map fun v => ((v, v) : Keyed)).drop (js.takeWhile (fun x => !ltP y x)).length →
        P (.done (.ret .none)) { s with heap := sortedHeap s.heap a (us ++ [v]) ((arrOf st').map (·.2)) } := by
      intro st' e
      refine h _ ?_
      rw [Array.toList_map, e, ← List.map_take, ← List.map_drop, List.map_append, List.map_cons, List.map_map, List.map_map]
      show Vs h0 (List.map (fun v => v) _ ++ v :: List.map (fun v => v) _) ((insP y js).map pr)
      rw [List.map_id', List.map_id']
      unfold insP
      rw [List.map_append, List.map_cons, ← takeW, ← dropW (y := y) js, List.map_take, List.map_drop]
      rw [takeW]
      exact (hvu.take _).append (.cons hvv (hvu.drop _))
    have fsz : ∀ (st' : SortSt), (arrOf st').toList = (us.map fun v => ((v, v) : Keyed)).take (js.takeWhile (fun x => !ltP y x)).length ++ (v, v) :: (us.map fun v => ((v, v) : Keyed)).drop (js.takeWhile (fun x => !ltP y x)).length →
        ((arrOf st').map (·.2)).size ≤ sizeLine + 1 := by
      intro st' e
      rw [Array.size_map, ← Array.length_toList, e]
      simp at hlen ⊢
      omega
    by_cases h2 : (us ++ [v]).toArray.size < 2
    · have un : us = [] := by cases us with | nil => rfl | cons _ _ => (simp at h2; omega)
      subst un
      have jn : js = [] := by cases js with | nil => rfl | cons _ _ => simp at lu
      subst jn
      rw [if_pos h2, if_pos h2]
      refine wpAny_bind (wpAny_pure ?_)
      rw [StateT.run_pure]
      refine wpAny_bind (wpAny_pure ?_)
      dsimp only
      refine wpAny_bind (seqEpoch_at ho6 rfl ?_)
      have e0 : (arrOf (SortSt.mk' general' (([] ++ [v]).toArray.zip ([] ++ [v]).toArray) #[] 7 none)).toList = [((v, v) : Keyed)] := by
        show (([v].toArray.zip [v].toArray)).toList = _; simp
      refine wpAny_bind (listUpdate_at ho6 rfl ?_ (Nat.zero_le _) (fsz _ e0))
      simp only [bne_self_eq_false, Bool.false_eq_true, if_false]
      exact wpAny_pure (fin _ e0)
    · rw [if_neg h2, if_neg h2]
      obtain ⟨fs, t1, t2, t3⟩ := tups_of (h := (((s.heap.update a (Obj.mapSeq fun _ => #[])).push (seqObj "tuple" (us ++ [v]).toArray 0)).push (seqObj "list" #[] 0))) (vs := us ++ [v]) (ks := js ++ [y]) (by rw [List.map_append]; exact hv.mono hk6)
      refine wpAny_bind (kat_kind (T := .type "int") t1 (by rw [t2]; simp) (fun f hf => ?_) rfl ?_)
      · obtain ⟨i, t, rfl⟩ := t3 f hf; exact Looks.now
      rw [zip_dup, List.map_append]
      have hvu6 := hvu.mono hk6
      have hvv6 := hvv.mono hk6
      have g1 : ∀ (i : Nat) x, (us.map fun v => ((v, v) : Keyed))[i]? = some x → ∃ k, js[i]? = some k ∧ kOf (((s.heap.update a (Obj.mapSeq fun _ => #[])).push (seqObj "tuple" (us ++ [v]).toArray 0)).push (seqObj "list" #[] 0)) x.1 = k := by
        intro i x hx
        rw [List.getElem?_map] at hx
        obtain ⟨u, hu, rfl⟩ := Option.map_eq_some_iff.mp hx
        obtain ⟨d, hd, hV⟩ := hvu6.get' hu
        rw [List.getElem?_map] at hd
        obtain ⟨k, hk, rfl⟩ := Option.map_eq_some_iff.mp hd
        exact ⟨k, hk, kOf_eq hV⟩
      refine wpAny_bind (wpAny_mono (runs_ok (kd := tuples' true) (l := us.map fun v => ((v, v) : Keyed)) (y := (v, v)) (k := (js.takeWhile (fun x => !ltP y x)).length)
        (Q := fun _ st' => failedOf st' = none ∧ (arrOf st').toList = (us.map fun v => ((v, v) : Keyed)).take (js.takeWhile (fun x => !ltP y x)).length ++ (v, v) :: (us.map fun v => ((v, v) : Keyed)).drop (js.takeWhile (fun x => !ltP y x)).length)
        (asks_pairs (vs := us ++ [v]) (ks := js ++ [y]) (by rw [List.map_append]; exact hv.mono hk6)) (by simp at h2 ⊢; omega) (fun x hx => by rw [List.map_append]; exact List.mem_append_left _ hx) (by simp)
        (by rw [List.length_map, lu]; exact (List.takeWhile_sublist _).length_le) (fun i j x z hij hx hz => ?_) (fun i x hx => ?_) (fun st' a1 a2 => ⟨a1, a2⟩)) ?_ fun _ _ e => e)
      · obtain ⟨k1, e1, e2⟩ := g1 i x hx
        obtain ⟨k2, e3, e4⟩ := g1 j z hz
        have := List.pairwise_iff_getElem.mp hasc i j (List.getElem?_eq_some_iff.mp e1).1 (List.getElem?_eq_some_iff.mp e3).1 hij
        rw [(List.getElem?_eq_some_iff.mp e1).2, (List.getElem?_eq_some_iff.mp e3).2] at this
        dsimp only
        rw [e2, e4]
        exact ⟨this, ltP_asymm this⟩
      · obtain ⟨k1, e1, e2⟩ := g1 i x hx
        dsimp only
        rw [kOf_eq hvv6, e2]
        exact place_ok hasc i k1 e1
      · rintro ⟨⟨⟩, st'⟩ s' ⟨rfl, hf, hs⟩
        dsimp only at hf hs ⊢
        refine wpAny_bind (seqEpoch_at ho6 rfl ?_)
        refine wpAny_bind (listUpdate_at ho6 rfl ?_ (Nat.zero_le _) (fsz _ hs))
        rw [hf]
        simp only [bne_self_eq_false, Bool.false_eq_true, if_false]
        exact wpAny_pure (fin _ hs)

theorem sortK_len {ks r : List (Int × Int)} (h : sortK ks = some r) : r.length = ks.length := by
  replace h := oi' h
  obtain ⟨_, he⟩ := h
  cases he
  rcases List.eq_nil_or_concat ks with rfl | ⟨js, y, e⟩
  · rfl
  · rw [List.concat_eq_append] at e; subst e
    rw [List.getLast?_concat, List.dropLast_concat]
    have e := congrArg List.length (List.takeWhile_append_dropWhile (p := fun x => !ltP y x) (l := js))
    rw [List.length_append] at e
    show (insP y js).length = _
    unfold insP
    rw [List.length_append, List.length_cons, List.length_append, List.length_singleton]; omega
theorem sortedHeap_at {h : Heap} {a : Addr} {xs : Array Value} {vs : List Value} {out : Array Value} {n : Nat} (ho : h.get? a = some (seqObj "list" xs n)) :
    (∃ m, (sortedHeap h a vs out).get? a = some (seqObj "list" out m)) ∧ ∀ b o, b ≠ a → h.get? b = some o → (sortedHeap h a vs out).get? b = some o := by
  have ha : a < h.objs.size := Heap.lt_size ho
  constructor
  · have h1 := get?_update_seq ho (fun _ => (#[] : Array Value))
    have h2 := Heap.get?_push_of_some (seqObj "tuple" vs.toArray 0) h1
    have h3 := Heap.get?_push_of_some (seqObj "list" #[] 0) h2
    exact ⟨_, get?_update_seq h3 (fun _ => out)⟩
  · intro b o hb e
    unfold sortedHeap
    rw [Heap.get?_update_ne _ _ _ _ hb]
    exact Heap.get?_push_of_some _ (Heap.get?_push_of_some _ (by rw [Heap.get?_update_ne _ _ _ _ hb]; exact e))

/-- sorted of a list of int pairs -/
theorem sorted_ok {v : Value} {x d : D} (hV : V s.heap v x) (e : sortD x = some d) : wpAny (model prog w) A (call (.builtin "sorted") [v]) (Post s d) E s := by
  replace e := ob e
  obtain ⟨ds, h1, e⟩ := e
  replace e := ob e
  obtain ⟨ks, h2, e⟩ := e
  replace e := om e
  obtain ⟨r, h3, rfl⟩ := e
  have := lstOf_some h1; subst this
  have := keysP_some h2; subst this
  cases hV with
  | lst hp hv hl =>
    rename_i l vs
    have ll := lim_line
    have lv := hv.length
    refine Calls.call_function_entry kind_sorted plain_sorted entry_sorted (args_sorted1 _) ?_
    unfold Builtin.«sorted»
    refine wpAny_bind (m := checkCount "sorted" 1 1 _) (wpAny_pure ?_)
    refine wpAny_bind (collect_list hp.isList ?_ (by omega))
    refine wpAny_bind (wpAny_newList ?_ (by omega))
    have hsz : ((s.heap.push (seqObj "list" #[] 0)).update s.heap.objs.size (Obj.mapSeq (· ++ vs.toArray))).objs.size = s.heap.objs.size + 1 := by
      rw [Heap.size_update, size_push']
    have hoL : (((s.heap.push (seqObj "list" #[] 0)).update s.heap.objs.size (Obj.mapSeq (· ++ vs.toArray))).push (seqObj "list" vs.toArray 0)).get? (s.heap.objs.size + 1) = some (seqObj "list" vs.toArray 0) := by
      rw [← hsz]; exact Heap.get?_push_size _ rfl
    have keep : ∀ b o, s.heap.get? b = some o → (((s.heap.push (seqObj "list" #[] 0)).update s.heap.objs.size (Obj.mapSeq (· ++ vs.toArray))).push (seqObj "list" vs.toArray 0)).get? b = some o ∧ b ≠ s.heap.objs.size + 1 := fun b o q => by
      have hlt : b < s.heap.objs.size := Heap.lt_size q
      refine ⟨?_, Nat.ne_of_lt (Nat.lt_succ_of_lt hlt)⟩
      rw [Heap.get?_push_ne _ _ _ (by rw [hsz]; exact Nat.ne_of_lt (Nat.lt_succ_of_lt hlt)), Heap.get?_update_ne _ _ _ _ (Nat.ne_of_lt hlt), Heap.get?_push_ne _ _ _ (Nat.ne_of_lt hlt)]
      exact q
    show wpAny _ _ _ _ _ { s with heap := ((s.heap.push (seqObj "list" #[] 0)).update s.heap.objs.size (Obj.mapSeq (· ++ vs.toArray))).push (seqObj "list" vs.toArray 0) }
    rw [hsz]
    refine wpAny_bind (wpAny_holding (wpAny_call_entry slot_list_sort ⟨_, hoL, rfl⟩ entry_list_sort (list_sort_pairs (h0 := s.heap) hoL hv keep (by omega) h3 fun out ho => ⟨_, rfl, ?_⟩) (args_list_sort _)))
    refine wpAny_pure ⟨_, rfl, ?_⟩
    obtain ⟨⟨m, g1⟩, g2⟩ := sortedHeap_at (vs := vs) (out := out) hoL
    have k2 : ∀ b o, s.heap.get? b = some o → (sortedHeap (((s.heap.push (seqObj "list" #[] 0)).update s.heap.objs.size (Obj.mapSeq (· ++ vs.toArray))).push (seqObj "list" vs.toArray 0)) (s.heap.objs.size + 1) vs out).get? b = some o :=
      fun b o q => g2 b o (keep b o q).2 (keep b o q).1
    refine ⟨⟨_, _, rfl, k2⟩, .lst (vs := out.toList) ⟨m, g1⟩ (ho.mono k2) (by rw [List.length_map, sortK_len h3]; rw [List.length_map] at hl; exact hl)⟩
end
end Mine

namespace Mine
open PySem PySem.Calls PyProof.Rows PySem.SeqAt

noncomputable def cut {α : Type} (vs : List α) (lo hi : Option Int) : List α :=
  ((match hi with | some j => vs.take j.toNat | none => vs)).drop (match lo with | some i => i.toNat | none => 0)

theorem part_index {prog : Program} {w : World} {A : Around} {E : Value → Shared → Prop} {s : Shared} {v : Value} {k : Option Int} {Q : Option Int → Shared → Prop} (p : IsPart v k) (h : Q k s) :
    wpAny (model prog w) A (Builtin.Slice.slicePartIndex v) Q E s := by
  cases p with
  | none => exact slicePart_none h
  | int i t => exact slicePart_int h

/-- the bounds that a slice with parts from nought has -/
noncomputable def loOf (lo : Option Int) (n : Nat) : Nat := match lo with | some i => min i.toNat n | none => 0
noncomputable def hiOf (hi : Option Int) (n : Nat) : Nat := match hi with | some i => min i.toNat n | none => n

theorem adjust_nn (lo hi : Option Int) (n : Nat) (h1 : ∀ i, lo = some i → 0 ≤ i) (h2 : ∀ i, hi = some i → 0 ≤ i) :
    Builtin.Slice.sliceAdjust lo hi 1 (n : Int) = ((loOf lo n : Int), (hiOf hi n : Int)) := by
  unfold Builtin.Slice.sliceAdjust loOf hiOf
  have h0 : ¬ ((1 : Int) < 0) := by omega
  simp only [h0, if_false]
  refine Prod.ext ?_ ?_
  · cases lo with
    | none => rfl
    | some i =>
      have := h1 i rfl
      have q : ¬ (i < 0) := by omega
      simp only [q, if_false]; omega
  · cases hi with
    | none => rfl
    | some i =>
      have := h2 i rfl
      have q : ¬ (i < 0) := by omega
      simp only [q, if_false]; omega

theorem places_nn (a b : Nat) : Builtin.Slice.slicePlaces (a : Int) (b : Int) 1 = b - a := by
  unfold Builtin.Slice.slicePlaces
  have h1 : (1 : Int) > 0 := by omega
  simp only [h1, if_true, Int.ediv_one]
  split <;> omega

theorem cut_eq {α : Type} (vs : List α) (lo hi : Option Int) : cut vs lo hi = (vs.drop (loOf lo vs.length)).take (hiOf hi vs.length - loOf lo vs.length) := by
  unfold cut loOf hiOf
  have key : ∀ (i j : Nat), (vs.take j).drop i = (vs.drop (min i vs.length)).take (min j vs.length - min i vs.length) := by
    intro i j
    rw [List.drop_take]
    by_cases h : i ≤ vs.length
    · rw [Nat.min_eq_left h]
      by_cases h' : j ≤ vs.length
      · rw [Nat.min_eq_left h']
      · rw [Nat.min_eq_right (by omega), List.take_of_length_le (by simp; omega), List.take_of_length_le (by simp)]
    · rw [List.drop_eq_nil_of_le (by omega : vs.length ≤ i), List.drop_eq_nil_of_le (by omega : vs.length ≤ min i vs.length)]
      simp
  cases lo with
  | none =>
    cases hi with
    | none => simp
    | some j => have := key 0 j.toNat; simpa using this
  | some i =>
    cases hi with
    | none => have := key i.toNat vs.length; simpa using this
    | some j => exact key i.toNat j.toNat

section
variable {prog : Program} {w : World} {A : Around} {E : Value → Shared → Prop} {s : Shared}
theorem sliceApplied_nn {sl : Addr} {vl vu : Value} {lo hi : Option Int} {n : Nat} {Q : Int × Int × Nat → Shared → Prop} (hs : s.heap.IsSliceOf sl vl vu .none) (pl : IsPart vl lo) (pu : IsPart vu hi)
    (h1 : ∀ i, lo = some i → 0 ≤ i) (h2 : ∀ i, hi = some i → 0 ≤ i)
    (h : Q ((loOf lo n : Int), 1, hiOf hi n - loOf lo n) s) : wpAny (model prog w) A (Builtin.Slice.sliceApplied (.ref sl) (pure (n : Int))) Q E s := by
  obtain ⟨os, hos, hcs, hds⟩ := id hs
  unfold Builtin.Slice.sliceApplied Builtin.Slice.sliceFields
  refine wpAny_bind (wpAny_bind (wpAny_field hos hds (x := vl) rfl (wpAny_bind (wpAny_field hos hds (x := vu) rfl (wpAny_bind (wpAny_field hos hds (x := .none) rfl (wpAny_pure ?_)))))))
  refine wpAny_bind (slicePart_none ?_)
  show wpAny _ _ (if ((1 : Int) == 0) = true then _ else _) _ _ s
  rw [if_neg (by decide)]
  refine wpAny_bind (part_index pl (wpAny_bind (part_index pu (wpAny_bind (wpAny_pure ?_)))))
  show wpAny _ _ (match Builtin.Slice.sliceAdjust lo hi 1 (n : Int) with | (lo, hi) => pure (lo, (1 : Int), Builtin.Slice.slicePlaces lo hi 1)) _ _ s
  rw [adjust_nn lo hi n h1 h2]
  show wpAny _ _ (pure ((loOf lo n : Int), (1 : Int), Builtin.Slice.slicePlaces (loOf lo n : Int) (hiOf hi n : Int) 1)) _ _ s
  rw [places_nn]
  exact wpAny_pure h

theorem tuple_cut {t sl : Addr} {vs : List Value} {vl vu : Value} {lo hi : Option Int} {Q : Value → Shared → Prop} (ht : s.heap.IsTuple t vs.toArray) (hs : s.heap.IsSliceOf sl vl vu .none) (pl : IsPart vl lo) (pu : IsPart vu hi)
    (h1 : ∀ i, lo = some i → 0 ≤ i) (h2 : ∀ i, hi = some i → 0 ≤ i) (hsz : vs.length ≤ sizeLine)
    (hw : cut vs lo hi = vs → Q (.ref t) s) (h : Q (.ref s.heap.objs.size) { s with heap := s.heap.push { cls := .type "tuple", data := .seq (cut vs lo hi).toArray } }) :
    wpAny (model prog w) A (getItem (.ref t) (.ref sl)) Q E s := by
  have hcl : (cut vs lo hi).length ≤ vs.length := by rw [cut_eq]; simp only [List.length_take, List.length_drop]; omega
  have hdrop : sizeOk (.seq (cut vs lo hi).toArray) := by
    show (cut vs lo hi).toArray.size ≤ sizeLine
    rw [List.size_toArray]; omega
  obtain ⟨os, hos, hcs, hds⟩ := id hs
  have hTs : s.TypeIs (.ref sl) "slice" := ⟨os, hos, hcs⟩
  have hTt : s.TypeIs (.ref t) "tuple" := ht.typeIs
  unfold getItem
  try with_reducible refine wpAny_holding ?_
  first | refine wpAny_bind (wpAny_pure ?_) | skip
  refine wpAny_bind (wpAny_sequenceKey ht.typeIs (by decide) ?_)
  refine wpAny_bind (wpAny_callSpecial?_slot (name := Str.ofString "__getitem__") ht.typeIs slot_tuple_getitem
    (wpAny_call_entry slot_tuple_getitem ht.typeIs entry_tuple_getitem ?_ (args_tuple_getitem _ _)))
  show wpAny _ _ (Builtin.Tuple.tupleItemsOf (.ref t) >>= _) _ _ s
  refine wpAny_bind (tupleItemsOf_ ht ?_)
  refine wpAny_bind (wpAny_typeOf hTs ?_)
  rw [if_pos (by decide)]
  have hn : vs.toArray.size = vs.length := by simp
  refine wpAny_bind ?_
  rw [hn]
  refine sliceApplied_nn hs pl pu h1 h2 ?_
  have hpick : ((List.range (hiOf hi vs.length - loOf lo vs.length)).filterMap fun (k : Nat) => vs.toArray[((loOf lo vs.length : Int) + (k : Int) * 1).toNat]?).toArray = (cut vs lo hi).toArray := by
    have e : (fun (k : Nat) => vs.toArray[((loOf lo vs.length : Int) + (k : Int) * 1).toNat]?) = fun k => vs.toArray[loOf lo vs.length + k]? := by
      funext k
      have : ((loOf lo vs.length : Int) + (k : Int) * 1).toNat = loOf lo vs.length + k := by omega
      rw [this]
    rw [e]
    have := pick_run vs.toArray (loOf lo vs.length) (hiOf hi vs.length - loOf lo vs.length)
    rw [List.filterMap_map] at this
    have e2 : ((fun x => vs.toArray[x]?) ∘ fun x => loOf lo vs.length + x) = fun k => vs.toArray[loOf lo vs.length + k]? := rfl
    rw [e2] at this
    rw [this, cut_eq]
  show wpAny _ _ (if ((loOf lo vs.length : Int) == 0 && (1 : Int) == 1 && (hiOf hi vs.length - loOf lo vs.length) == vs.length) = true then _ else _) _ _ s
  by_cases hwh : ((loOf lo vs.length : Int) == 0 && (1 : Int) == 1 && (hiOf hi vs.length - loOf lo vs.length) == vs.length) = true
  · rw [if_pos hwh]
    simp only [Bool.and_eq_true, beq_iff_eq] at hwh
    have hc : cut vs lo hi = vs := by
      rw [cut_eq]
      have : loOf lo vs.length = 0 := by omega
      rw [this] at hwh ⊢
      rw [hwh.2]; simp
    unfold Builtin.Tuple.tupleIsExact
    refine wpAny_bind (wpAny_bind (wpAny_typeOf hTt (wpAny_pure ?_)))
    rw [if_pos (by decide)]
    exact wpAny_bind (wpAny_rule (wpAny_pure ⟨_, rfl, wpAny_pure (hw hc)⟩))
  · rw [if_neg hwh, hpick]
    first
      | exact wpAny_bind (m := Builtin.Tuple.tupleExact _) (wpAny_newObj_type (wpAny_pure ⟨_, rfl, wpAny_pure h⟩) hdrop)
      | exact wpAny_bind (m := Builtin.Tuple.tupleExact _) (wpAny_newObj_type (wpAny_bind (wpAny_pure (wpAny_pure ⟨_, rfl, wpAny_pure h⟩))) hdrop)
      | exact wpAny_bind (wpAny_bind (m := Builtin.Tuple.tupleExact _) (wpAny_newObj_type (wpAny_pure (wpAny_pure ⟨_, rfl, wpAny_pure h⟩)) hdrop))
      | exact wpAny_bind (wpAny_bind (m := Builtin.Tuple.tupleExact _) (wpAny_newObj_type (wpAny_pure ⟨_, rfl, wpAny_pure h⟩) hdrop))

theorem Vs.cut {h : Heap} {vs : List Value} {ds : List D} (x : Vs h vs ds) (lo hi : Option Int) : Vs h (Mine.cut vs lo hi) (Mine.cut ds lo hi) := by
  unfold Mine.cut
  cases hi with
  | none => exact x.drop _
  | some j => exact (x.take _).drop _
theorem cut_len {α : Type} (vs : List α) (lo hi : Option Int) : (cut vs lo hi).length ≤ vs.length := by
  rw [cut_eq]; simp only [List.length_take, List.length_drop]; omega

theorem cut_ok {a : Value} {sl : Addr} {ds : List D} {vl vu : Value} {lo hi : Option Int} (h0 : V s.heap a (.tup ds)) (hs : s.heap.IsSliceOf sl vl vu .none) (pl : IsPart vl lo) (pu : IsPart vu hi)
    (h1 : ∀ i, lo = some i → 0 ≤ i) (h2 : ∀ i, hi = some i → 0 ≤ i) : wpAny (model prog w) A (getItem a (.ref sl)) (Post s (.tup (cut ds lo hi))) E s := by
  cases h0 with
  | tup hp hv hl =>
    have l1 := hv.length
    have := cut_len ds lo hi
    refine tuple_cut hp hs pl pu h1 h2 (by have := lim_line; omega) (fun e => ?_) (new_tuple (hv.cut lo hi) (by omega))
    refine ⟨keeps_refl s, .tup hp ?_ (by omega)⟩
    have := hv.cut lo hi
    rwa [e] at this
end
end Mine

namespace Mine
open PySem PySem.Calls PyProof.Rows PySem.SeqAt

structure Sc where
  kd : List (Str × NameKind)
  ix : List (Str × Nat)
  n : Nat

noncomputable def isVarK : Option NameKind → Bool
  | some .local => true
  | some .cell => true
  | _ => false
noncomputable def cV (sc : Sc) (x : Str) : Option E := if isVarK (sc.kd.lookup x) && !(x == ("__debug__" : Str)) then (sc.ix.lookup x).map .v else none
noncomputable def cConst : Const → Option D
  | .none => some .none
  | .bool b => some (.bool b)
  | .int i => some (.int i)
  | .str s => some (.str s)
  | _ => none
noncomputable def cOp : Operator → Option Op
  | .Add => some .add
  | .Sub => some .sub
  | .Mult => some .mul
  | .FloorDiv => some .div
  | .Mod => some .mod
  | .Pow => some .pow
  | _ => none
noncomputable def cCm : CmpOp → Option Cm
  | .Eq => some .eq
  | .NotEq => some .ne
  | .Lt => some .lt
  | .LtE => some .le
  | .Gt => some .gt
  | .GtE => some .ge
  | .Is => some .is
  | .IsNot => some .isNot
  | _ => none
noncomputable def cTy (x : Str) : Option Ty :=
  if x == ("tuple" : Str) then some .tuple else if x == ("int" : Str) then some .int else if x == ("bool" : Str) then some .bool else if x == ("str" : Str) then some .str else none

noncomputable def cEs (f : Expr → Option E) : List Expr → Option Es
  | [] => some .nil
  | e :: r => (f e).bind fun a => (cEs f r).map fun b => .cons a b
noncomputable def Es.size : Es → Nat
  | .nil => 0
  | .cons _ r => r.size + 1

noncomputable def boolE (op : BoolOp) (x y : E) : E := match op with
  | .And => .and x y
  | .Or => .or x y
noncomputable def cBool (f : Expr → Option E) (op : BoolOp) (a : Expr) : List Expr → Option E
  | [] => f a
  | b :: r => (f a).bind fun x => (cBool f op b r).map fun y => boolE op x y

noncomputable def glob (sc : Sc) (x : Str) : Bool := sc.kd.lookup x == some .globalImplicit && !(x == ("__debug__" : Str))

noncomputable def cB1 (f : Expr → Option E) (name : Str) (a : Expr) : Option E :=
  if name == ("len" : Str) then (f a).map .len
  else if name == ("int" : Str) then (f a).map .toInt
  else if name == ("tuple" : Str) then (f a).map .toTup
  else if name == ("list" : Str) then (f a).map .toLst
  else if name == ("sorted" : Str) then (f a).map .sorted
  else none
noncomputable def cIsi (f : Expr → Option E) (sc : Sc) (a : Expr) : Expr → Option E
  | .Name t _ => if glob sc t = true then (f a).bind fun x => (cTy t).map fun y => .isi x y else none
  | _ => none
noncomputable def cB2 (f : Expr → Option E) (sc : Sc) (name : Str) (a b : Expr) : Option E :=
  if name == ("isinstance" : Str) then cIsi f sc a b
  else if name == ("max" : Str) then (f a).bind fun x => (f b).map fun y => .max x y
  else none
noncomputable def cBuiltin (f : Expr → Option E) (sc : Sc) (name : Str) : List Expr → Option E
  | [] => none
  | a :: r => match r with
    | [] => cB1 f name a
    | b :: r' => if r'.isEmpty = true then cB2 f sc name a b else none

noncomputable def cCall (f : Expr → Option E) (fns : List Str) (sc : Sc) (name : Str) (args : List Expr) : Option E :=
  if glob sc name = true then
    match fns.idxOf? name with
    | some i => if args.isEmpty = true then none else (cEs f args).map (.call i)
    | none => cBuiltin f sc name args
  else none

noncomputable def cRange (f : Expr → Option E) : List Expr → Option It
  | [] => none
  | a :: r => match r with
    | [] => (f a).map .range
    | b :: r' => if r'.isEmpty = true then (f a).bind fun x => (f b).map fun y => .range2 x y else none
noncomputable def nameIs (r : Str) : Expr → Bool
  | .Name x _ => x == r
  | _ => false
theorem nameIs_some {r : Str} {e : Expr} (h : nameIs r e = true) : ∃ p, e = .Name r p := by
  cases e <;> first | cases h; done | skip
  rename_i x p
  have := beq_iff_eq.mp h
  subst this
  exact ⟨p, rfl⟩
noncomputable def cIt (f : Expr → Option E) (sc : Sc) (e : Expr) : Option It :=
  match e with
  | .Call fn args kws _ => if nameIs "range" fn = true then (if glob sc "range" = true ∧ kws.isEmpty = true then cRange f args else none) else (f e).map .seq
  | .Name .. => (f e).map .seq
  | .Subscript .. => (f e).map .seq
  | .BinOp .. => (f e).map .seq
  | .List .. => (f e).map .seq
  | _ => none

noncomputable def relabelN (names kd : List (Str × NameKind)) : List (Str × NameKind) := names.map fun y => if y.2 == NameKind.free && kd.lookup y.1 == some .cell then (y.1, NameKind.cell) else y
noncomputable def compSc (sc : Sc) (names : List (Str × NameKind)) (x : Str) : Sc :=
  { kd := relabelN names sc.kd, ix := (x, sc.n) :: names.filterMap (fun y => if y.2 == NameKind.free then (sc.ix.lookup y.1).map (y.1, ·) else none), n := sc.n + 1 }
noncomputable def compOk (sc : Sc) (scope : Scope) (x : Str) : Bool :=
  scope.kind == .function && scope.names.lookup x == some .local &&
  scope.names.all (fun y => (y.2 == .local && scope.names.lookup y.1 == some .local) || (y.2 == .free && sc.kd.lookup y.1 == some .cell && y.1 != x && scope.names.lookup y.1 == some .free) || y.2 == .globalImplicit) && sc.ix.all (fun p => decide (p.2 < sc.n))

noncomputable def cUn (op : UnaryOp) (x : Option E) : Option E := match op with
  | .USub => x.map .neg
  | .Not => x.map .not
  | _ => none
noncomputable def cCmp1 (f : Expr → Option E) (l : Expr) (op : CmpOp) (r : Expr) : Option E := (cCm op).bind fun o => (f l).bind fun a => (f r).map fun b => .cmp o a b
noncomputable def cCmp2 (f : Expr → Option E) (l : Expr) (op₁ op₂ : CmpOp) (r₁ r₂ : Expr) : Option E := (cCm op₁).bind fun o₁ => (cCm op₂).bind fun o₂ => (f l).bind fun a => (f r₁).bind fun b => (f r₂).map fun c => .chain o₁ o₂ a b c
/-- the two lists of a comparison -/
inductive Cv : List CmpOp → List Expr → Type where
  | one (op : CmpOp) (r : Expr) : Cv [op] [r]
  | two (op₁ op₂ : CmpOp) (r₁ r₂ : Expr) : Cv [op₁, op₂] [r₁, r₂]
noncomputable def cv : (a : List CmpOp) → (b : List Expr) → Option (Cv a b)
  | [op], [r] => some (.one op r)
  | [op₁, op₂], [r₁, r₂] => some (.two op₁ op₂ r₁ r₂)
  | _, _ => none
noncomputable def cCmpE (f : Expr → Option E) (l : Expr) (a : List CmpOp) (b : List Expr) : Option E := (cv a b).bind fun c => match a, b, c with
  | _, _, .one op r => cCmp1 f l op r
  | _, _, .two op₁ op₂ r₁ r₂ => cCmp2 f l op₁ op₂ r₁ r₂
noncomputable def cSlice (f : Expr → Option E) (v : Expr) (lo hi : Option Expr) : Option E := (f v).bind fun a => match lo with
  | some lo => (f lo).bind fun l => match hi with
    | some hi => (f hi).map fun h => .slBoth a l h
    | none => some (.slFrom a l)
  | none => match hi with
    | some hi => (f hi).map fun h => .slTo a h
    | none => none
noncomputable def isSlice : Expr → Bool
  | .Slice .. => true
  | _ => false
noncomputable def cSl (f : Expr → Option E) (v : Expr) : Expr → Option E
  | .Slice lo hi st _ => if st.isNone = true then cSlice f v lo hi else none
  | _ => none
noncomputable def cSubE (f : Expr → Option E) (v sl : Expr) : Option E := if isSlice sl = true then cSl f v sl else (f v).bind fun a => (f sl).map fun b => .idx a b
noncomputable def cIndex (f : Expr → Option E) (o : Expr) (at' : Str) (apos pos : Pos) : List Expr → Option E
  | [] => none
  | a :: r => if r.isEmpty = true ∧ at' = ("index" : Str) ∧ (apos.endLine == pos.line) = true then (f o).bind fun x => (f a).map fun y => .index x y else none
noncomputable def isList : Expr → Bool
  | .List .. => true
  | _ => false
noncomputable def cCallE (f : Expr → Option E) (fns : List Str) (sc : Sc) (args : List Expr) (pos : Pos) : Expr → Option E
  | .Name nm _ => cCall f fns sc nm args
  | .Attribute o at' apos => if isList o = true then cIndex f o at' apos pos args else none
  | _ => none
noncomputable def nameOf : Expr → Option Str
  | .Name x _ => some x
  | _ => none
theorem nameOf_some {e : Expr} {x : Str} (h : nameOf e = some x) : ∃ p, e = .Name x p := by
  cases e <;> first | exact nns h | exact nnb h | skip
  cases h; exact ⟨_, rfl⟩
noncomputable def cComp (g : Sc → Expr → Option E) (sc : Sc) (elt : Expr) (scope : Scope) : List Comprehension → Option E
  | [] => none
  | c :: r => if r.isEmpty = true ∧ c.is_async = 0 then (nameOf c.target).bind fun x => if compOk sc scope x = true then
      (cIt (g sc) sc c.iter).bind fun it => (g (compSc sc scope.names x) elt).bind fun el => match c.ifs with
        | [] => some (.comp el it (.k (.bool true)))
        | t :: r => if r.isEmpty = true then (g (compSc sc scope.names x) t).map fun cd => .comp el it cd else none
    else none else none

noncomputable def cE (fns : List Str) : Nat → Sc → Expr → Option E
  | 0, _, _ => none
  | n + 1, sc, e => match e with
    | .Constant c _ _ => (cConst c).map .k
    | .Name x _ => cV sc x
    | .BinOp l op r _ => (cOp op).bind fun o => (cE fns n sc l).bind fun a => (cE fns n sc r).map fun b => .bin o a b
    | .UnaryOp op x _ => cUn op (cE fns n sc x)
    | .BoolOp op vs _ => match vs with
      | [] => none
      | a :: r => if r.isEmpty = true then none else cBool (cE fns n sc) op a r
    | .Compare l ops rs _ => cCmpE (cE fns n sc) l ops rs
    | .Subscript v sl _ => cSubE (cE fns n sc) v sl
    | .Tuple es _ _ => (cEs (cE fns n sc) es).bind fun x => if x.size ≤ 1000 then some (.tup x) else none
    | .List es _ => (cEs (cE fns n sc) es).bind fun x => if x.size ≤ 1000 then some (.lst x) else none
    | .Call fn args kws pos => if kws.isEmpty = true then cCallE (cE fns n sc) fns sc args pos fn else none
    | .ListComp elt gens scope _ => cComp (cE fns n) sc elt scope gens
    | _ => none
end Mine

namespace Mine
open PySem PySem.Calls PyProof.Rows PySem.SeqAt

noncomputable def blNames : List Str := ["len", "int", "tuple", "list", "isinstance", "max", "range", "bool", "str", "enumerate", "sorted", "ValueError"]

/-- what stands at the top -/
structure Gl (fns : List Str) (base : Heap) (mg mb : Str → Option Value) (fa : Nat → Addr) : Prop where
  g : base.Ns mainGlobals mg
  b : base.Ns builtinsNs mb
  lim : base.NoLimit
  fn : ∀ (i : Nat) n, fns[i]? = some n → ∃ o fd, mg n = some (.ref (fa i)) ∧ base.get? (fa i) = some o ∧ o.data = .func fd
  bl : ∀ x ∈ blNames, mg x = none ∧ mb x = bootBuiltins x

structure Ok (base : Heap) (k : Nat) (A : Around) (h : Heap) : Prop where
  hand : A.handled = none
  room : A.depth + k < recursionLimit
  units : A.units + 10 * k + 100 < cLine
  fr : ∃ l, Below A base l h

theorem Ok.mono {base : Heap} {k : Nat} {A : Around} {h h' : Heap} (x : Ok base k A h) (e : ∀ b o, h.get? b = some o → h'.get? b = some o) : Ok base k A h' := by
  obtain ⟨a, b, c, l, L⟩ := x
  exact ⟨a, b, c, l, L.stack, fun b o q => e b o (L.stays b o q), L.frames.of_keeps fun b o q _ => ⟨o, e b o q, rfl⟩⟩
theorem Ok.stays {base : Heap} {k : Nat} {A : Around} {h : Heap} (x : Ok base k A h) : ∀ b o, base.get? b = some o → h.get? b = some o := let ⟨_, L⟩ := x.fr; L.stays
theorem Ok.le {base : Heap} {k j : Nat} {A : Around} {h : Heap} (x : Ok base k A h) (e : j ≤ k) : Ok base j A h := by
  obtain ⟨a, b, c, l⟩ := x
  exact ⟨a, by omega, by omega, l⟩

/-- the name x holds v -/
inductive At (h : Heap) (env : Env) (x : Str) (v : Value) : Prop
  | loc (m : Str → Option Value) : env.kindOf x = some .local → h.Ns env.locals m → m x = some v → At h env x v
  | cell (c : Addr) : env.kindOf x = some .cell → env.cells.lookup x = some c → h.IsCell c (some v) → At h env x v
theorem At.mono {h h' : Heap} {env : Env} {x : Str} {v : Value} (a : At h env x v) (e : ∀ b o, h.get? b = some o → h'.get? b = some o) : At h' env x v := by
  cases a with
  | loc m a b c => exact .loc m a (b.keeps e) c
  | cell c a b d => exact .cell c a b (d.keeps e)

structure Cx (base : Heap) (k : Nat) (sc : Sc) (env : Env) (ρ : Rho) (A : Around) (h : Heap) : Prop where
  names : env.scope.names = sc.kd
  kind : env.scope.kind = .function
  glob : env.globals = mainGlobals
  blt : env.builtins = builtinsNs
  cells : ∀ x, sc.kd.lookup x = some .cell → (env.cells.lookup x).isSome = true
  len : ρ.length = sc.n
  binds : ∀ x i lo, isVarK (sc.kd.lookup x) = true → sc.ix.lookup x = some i → ρ.get i = some lo → ∃ v, At h env x v ∧ V h v lo.val
  ok : Ok base k A h
theorem Cx.mono {base : Heap} {k : Nat} {sc : Sc} {env : Env} {ρ : Rho} {A : Around} {h h' : Heap} (c : Cx base k sc env ρ A h) (e : ∀ b o, h.get? b = some o → h'.get? b = some o) : Cx base k sc env ρ A h' :=
  ⟨c.names, c.kind, c.glob, c.blt, c.cells, c.len, fun x i lo h1 h2 h3 => let ⟨v, a, b⟩ := c.binds x i lo h1 h2 h3; ⟨v, a.mono e, b.mono e⟩, c.ok.mono e⟩
theorem Cx.kindOf {base : Heap} {k : Nat} {sc : Sc} {env : Env} {ρ : Rho} {A : Around} {h : Heap} (c : Cx base k sc env ρ A h) (x : Str) : env.kindOf x = sc.kd.lookup x := by
  show env.scope.names.lookup x = _; rw [c.names]

noncomputable def FnsOk (prog : Program) (w : World) (base : Heap) (Φ : Fns) (fa : Nat → Addr) (k : Nat) : Prop :=
  ∀ f ds d A s vs E, Φ f ds = some (.ok d) → Ok base k A s.heap → Vs s.heap vs ds → wpAny (model prog w) A (call (.ref (fa f)) vs) (Post s d) E s

section
variable {prog : Program} {w : World} {base : Heap} {fns : List Str} {mg mb : Str → Option Value} {fa : Nat → Addr} {Φ : Fns} {k : Nat}

noncomputable def EvOK (prog : Program) (w : World) (base : Heap) (Φ : Fns) (k : Nat) (sc : Sc) (e : Expr) (e' : E) : Prop :=
  ∀ env ρ A s d E, Cx base k sc env ρ A s.heap → ev Φ ρ e' = some d → wpAny (model prog w) A (eval e env) (Post s d) E s
noncomputable def TrOK (prog : Program) (w : World) (base : Heap) (Φ : Fns) (k : Nat) (sc : Sc) (e : Expr) (e' : E) : Prop :=
  ∀ env ρ A s b E, Cx base k sc env ρ A s.heap → ev Φ ρ e' = some (.bool b) → wpAny (model prog w) A (isTrue e env (eval e env)) (fun r s' => r = b ∧ Keeps s s') E s

theorem tr_plain {sc : Sc} {e : Expr} {e' : E} (h : EvOK prog w base Φ k sc e e')
    (he : ∀ env whole, isTrue e env whole = (do let v ← whole; standAt e.pos; holding [v] (truthy v))) : TrOK prog w base Φ k sc e e' := by
  intro env ρ A s b E c hv
  refine isTrue_plain (wpAny_mono (h env ρ A s _ E c hv) (fun v s₁ h₁ => ?_) fun _ _ x => x) (he env _)
  obtain ⟨k1, v1⟩ := h₁
  cases v1
  exact wpAny_truthy_bool ⟨rfl, k1⟩

theorem starEach_plain {e : Expr} (h : ∀ a b, e ≠ .Starred a b) (rest : List Expr) (env : Env) : starEach (e :: rest) env = (false, eval e env) :: starEach rest env := by
  cases e <;> first | rfl | (exact absurd rfl (h _ _))

noncomputable def Judged (prog : Program) (w : World) (base : Heap) (Φ : Fns) (k : Nat) (sc : Sc) (f : Expr → Option E) : Prop :=
  (∀ e e', f e = some e' → EvOK prog w base Φ k sc e e' ∧ TrOK prog w base Φ k sc e e') ∧ ∀ a b, f (.Starred a b) = none

theorem Judged.plain {sc : Sc} {f : Expr → Option E} (J : Judged prog w base Φ k sc f) {e : Expr} {e' : E} (h : f e = some e') : ∀ a b, e ≠ .Starred a b := by
  rintro a b rfl; rw [J.2] at h; cases h

theorem args_ok {sc : Sc} {f : Expr → Option E} (J : Judged prog w base Φ k sc f) : ∀ (es : List Expr) (es' : Es), cEs f es = some es' → ∀ env ρ A s ds E pos, Cx base k sc env ρ A s.heap → evs Φ ρ es' = some ds →
    wpAny (model prog w) A (spliced (backTo pos (starEach es env))) (fun vs s' => Keeps s s' ∧ Vs s'.heap vs ds) E s
  | [], es', h, env, ρ, A, s, ds, E, pos, c, hv => by
    simp only [cEs, Option.some.injEq] at h
    subst h
    simp only [evs, Option.some.injEq] at hv
    subst hv
    exact args_nil ⟨keeps_refl s, .nil⟩
  | e :: r, es', h, env, ρ, A, s, ds, E, pos, c, hv => by
    replace h := ob h
    obtain ⟨a, ha, h⟩ := h
    replace h := om h
    obtain ⟨b, hb, rfl⟩ := h
    simp only [evs] at hv
    replace hv := ob hv
    obtain ⟨d, hd, hv⟩ := hv
    replace hv := om hv
    obtain ⟨ds', hds, rfl⟩ := hv
    refine args_cons ?_ (starEach_plain (J.plain ha) r env)
    refine wpAny_mono ((J.1 e a ha).1 env ρ A s d E c hd) (fun v s₁ h₁ => ?_) fun _ _ x => x
    obtain ⟨k1, v1⟩ := h₁
    refine wpAny_mono (args_ok J r b hb env ρ A s₁ ds' E pos (c.mono (keeps_heap k1)) hds) (fun vs s₂ h₂ => ?_) fun _ _ x => x
    exact ⟨keeps_trans k1 h₂.1, .cons (v1.mono (keeps_heap h₂.1)) h₂.2⟩

theorem evs_size : ∀ (es : Es) (ρ : Rho) (ds : List D), evs Φ ρ es = some ds → ds.length = es.size
  | .nil, ρ, ds, h => by simp only [evs, Option.some.injEq] at h; subst h; rfl
  | .cons e r, ρ, ds, h => by
    simp only [evs] at h
    replace h := ob h
    obtain ⟨d, hd, h⟩ := h
    replace h := om h
    obtain ⟨ds', hds, rfl⟩ := h
    simp only [List.length_cons, Es.size, evs_size r ρ ds' hds]

theorem small_lim {n : Nat} (h : n ≤ 1000) : n ≤ lim := Nat.le_trans h (by decide)

theorem load_var {sc : Sc} {env : Env} {ρ : Rho} {A : Around} {s : Shared} {x : Str} {pos : Pos} {v : Value} {Q : Value → Shared → Prop} {E : Value → Shared → Prop} (hk : env.scope.kind = .function) (a : At s.heap env x v) (h : Q v s)
    (hd : (x == ("__debug__" : Str)) = false) : wpAny (model prog w) A (eval (.Name x pos) env) Q E s := by
  cases a with
  | loc m a b c => exact wpAny_Name (wpAny_loadName_local hk a b c h) hd
  | cell c a b d => exact wpAny_Name (wpAny_loadName_cell hk a b d h) hd

theorem load_builtin {sc : Sc} {env : Env} {ρ : Rho} {A : Around} {s : Shared} {x : Str} {pos : Pos} {v : Value} {Q : Value → Shared → Prop} {E : Value → Shared → Prop} (G : Gl fns base mg mb fa) (c : Cx base k sc env ρ A s.heap) (hg : glob sc x = true)
    (hx : x ∈ blNames) (hv : bootBuiltins x = some v) (h : Q v s) : wpAny (model prog w) A (eval (.Name x pos) env) Q E s := by
  simp only [Mine.glob, Bool.and_eq_true, beq_iff_eq, Bool.not_eq_true'] at hg
  obtain ⟨h1, h2⟩ := G.bl x hx
  refine Name_function_global c.kind ((c.kindOf x).trans hg.1) (loadGlobal_builtin (mg := mg) (mb := mb) ?_ h1 ?_ (h2.trans hv) h) hg.2
  · rw [c.glob]; exact G.g.keeps c.ok.stays
  · rw [c.blt]; exact G.b.keeps c.ok.stays

theorem load_fn {sc : Sc} {env : Env} {ρ : Rho} {A : Around} {s : Shared} {i : Nat} {n : Str} {pos : Pos} {Q : Value → Shared → Prop} {E : Value → Shared → Prop} (G : Gl fns base mg mb fa) (c : Cx base k sc env ρ A s.heap) (hg : glob sc n = true)
    (hn : fns[i]? = some n) (h : Q (.ref (fa i)) s) : wpAny (model prog w) A (eval (.Name n pos) env) Q E s := by
  simp only [Mine.glob, Bool.and_eq_true, beq_iff_eq, Bool.not_eq_true'] at hg
  obtain ⟨o, fd, h1, _, _⟩ := G.fn i n hn
  refine Name_function_global c.kind ((c.kindOf n).trans hg.1) (loadGlobal_global (mg := mg) ?_ h1 h) hg.2
  rw [c.glob]; exact G.g.keeps c.ok.stays

theorem idxOf?_get {l : List Str} {x : Str} {i : Nat} (h : l.idxOf? x = some i) : l[i]? = some x := by
  induction l generalizing i with
  | nil => simp at h
  | cons y l ih =>
    rw [List.idxOf?_cons] at h
    split at h
    · rename_i hb
      simp only [Option.some.injEq] at h
      subst h
      simp [beq_iff_eq.mp hb]
    · simp only [Option.map_eq_some_iff] at h
      obtain ⟨j, hj, rfl⟩ := h
      simpa using ih hj

theorem V.bool_inv {h : Heap} {v : Value} {b : Bool} (x : V h v (.bool b)) : v = .bool b := by cases x; rfl

theorem bool_ok {sc : Sc} {f : Expr → Option E} (J : Judged prog w base Φ k sc f) (op : BoolOp) (pos : Pos) : ∀ (r : List Expr) (a : Expr) (e' : E), cBool f op a r = some e' →
    (∀ env ρ A s d E, Cx base k sc env ρ A s.heap → ev Φ ρ e' = some d → wpAny (model prog w) A (boolOp pos op (evalEach (a :: r) env)) (Post s d) E s) ∧
    (∀ env ρ A s b E, Cx base k sc env ρ A s.heap → ev Φ ρ e' = some (.bool b) → wpAny (model prog w) A (allTrue op (a :: r) env) (fun r s' => r = b ∧ Keeps s s') E s)
  | [], a, e', h => by
    refine ⟨fun env ρ A s d E c hv => ?_, fun env ρ A s b E c hv => ?_⟩
    · exact (J.1 a e' h).1 env ρ A s d E c hv
    · show wpAny _ _ (do match op, ← isTrue a env (eval a env) with
        | .And, false => pure false
        | .Or, true => pure true
        | _, _ => allTrue op [] env) _ _ _
      refine wpAny_bind (wpAny_mono ((J.1 a e' h).2 env ρ A s b E c hv) (fun r s₁ h₁ => ?_) fun _ _ x => x)
      obtain ⟨rfl, k1⟩ := h₁
      cases op <;> cases r <;> exact wpAny_pure ⟨rfl, k1⟩
  | a' :: r, a, e', h => by
    replace h := ob h
    obtain ⟨x, hx, h⟩ := h
    replace h := om h
    obtain ⟨y, hy, rfl⟩ := h
    obtain ⟨ih1, ih2⟩ := bool_ok J op pos r a' y hy
    obtain ⟨ja, jb⟩ := J.1 a x hx
    -- what the first gives, and what is left
    have parts : ∀ ρ d, ev Φ ρ (boolE op x y) = some d → ∃ p, ev Φ ρ x = some (.bool p) ∧ ((op = .And ↔ p = true) → ∃ q, d = .bool q ∧ ev Φ ρ y = some (.bool q)) ∧ (¬(op = .And ↔ p = true) → d = .bool p) := by
      intro ρ d hv
      cases op with
      | And =>
        simp only [boolE, ev] at hv
        obtain ⟨v, hv1, hva⟩ := ob hv
        obtain ⟨p, hp, hvb⟩ := ob hva
        have := isTrueD_some hp; subst this
        clear hv hva
        refine ⟨p, hv1, fun q => ?_, fun q => ?_⟩
        · rw [if_pos (q.mp rfl)] at hvb
          obtain ⟨v2, hv2, hvc⟩ := ob hvb
          obtain ⟨q2, hq2, rfl⟩ := om hvc
          have := isTrueD_some hq2; subst this
          exact ⟨q2, rfl, hv2⟩
        · cases p with
          | true => exact absurd ⟨fun _ => rfl, fun _ => rfl⟩ q
          | false => cases hvb; rfl
      | Or =>
        simp only [boolE, ev] at hv
        obtain ⟨v, hv1, hva⟩ := ob hv
        obtain ⟨p, hp, hvb⟩ := ob hva
        have := isTrueD_some hp; subst this
        clear hv hva
        refine ⟨p, hv1, fun q => ?_, fun q => ?_⟩
        · cases p with
          | true => cases q.mpr rfl
          | false =>
            obtain ⟨v2, hv2, hvc⟩ := ob hvb
            replace hvc := om hvc
            obtain ⟨q2, hq2, rfl⟩ := hvc
            have := isTrueD_some hq2; subst this
            exact ⟨q2, rfl, hv2⟩
        · cases p with
          | true => cases hvb; rfl
          | false => exact absurd ⟨(fun q => by cases q), (fun q => by cases q)⟩ q
    refine ⟨fun env ρ A s d E c hv => ?_, fun env ρ A s b E c hv => ?_⟩
    · show wpAny _ _ (do
        let v ← eval a env
        standAt pos
        let t ← holding [v] (truthy v)
        match op, t with
        | .And, false | .Or, true => pure v
        | _, _ => boolOp pos op (evalEach (a' :: r) env)) _ _ _
      obtain ⟨p, hp, h1, h2⟩ := parts ρ d hv
      refine wpAny_bind (wpAny_mono (ja env ρ A s _ E c hp) (fun v s₁ h₁ => wpAny_bind (wpAny_standAt (wpAny_bind (wpAny_holding ?_)))) fun _ _ x => x)
      obtain ⟨k1, v1⟩ := h₁
      have := v1.bool_inv; subst this
      refine wpAny_truthy_bool ?_
      have go : (op = .And ↔ p = true) → wpAny (model prog w) A (boolOp pos op (evalEach (a' :: r) env)) (Post s d) E s₁ := fun q => by
        obtain ⟨q2, rfl, hq2⟩ := h1 q
        exact wpAny_mono (ih1 env ρ A s₁ _ E (c.mono (keeps_heap k1)) hq2) (fun v s₂ h₂ => ⟨keeps_trans k1 h₂.1, h₂.2⟩) fun _ _ x => x
      have stop : ¬(op = .And ↔ p = true) → wpAny (model prog w) A (pure (.bool p)) (Post s d) E s₁ := fun q => by
        rw [h2 q]; exact wpAny_pure ⟨k1, .bool _⟩
      cases op <;> cases p
      · exact stop fun q => by cases q.mp rfl
      · exact go ⟨fun _ => rfl, fun _ => rfl⟩
      · exact go ⟨(fun q => by cases q), (fun q => by cases q)⟩
      · exact stop fun q => by cases q.mpr rfl
    · show wpAny _ _ (do match op, ← isTrue a env (eval a env) with
        | .And, false => pure false
        | .Or, true => pure true
        | _, _ => allTrue op (a' :: r) env) _ _ _
      obtain ⟨p, hp, h1, h2⟩ := parts ρ _ hv
      refine wpAny_bind (wpAny_mono (jb env ρ A s _ E c hp) (fun v s₁ h₁ => ?_) fun _ _ x => x)
      obtain ⟨rfl, k1⟩ := h₁
      have go : (op = .And ↔ v = true) → wpAny (model prog w) A (allTrue op (a' :: r) env) (fun r s' => r = b ∧ Keeps s s') E s₁ := fun q => by
        obtain ⟨q2, e2, hq2⟩ := h1 q
        cases e2
        exact wpAny_mono (ih2 env ρ A s₁ _ E (c.mono (keeps_heap k1)) hq2) (fun v s₂ h₂ => ⟨h₂.1, keeps_trans k1 h₂.2⟩) fun _ _ x => x
      have stop : ¬(op = .And ↔ v = true) → wpAny (model prog w) A (pure v) (fun r s' => r = b ∧ Keeps s s') E s₁ := fun q => by
        cases h2 q
        exact wpAny_pure ⟨rfl, k1⟩
      cases op <;> cases v
      · exact stop fun q => by cases q.mp rfl
      · exact go ⟨fun _ => rfl, fun _ => rfl⟩
      · exact go ⟨(fun q => by cases q), (fun q => by cases q)⟩
      · exact stop fun q => by cases q.mpr rfl
end
end Mine

namespace Mine
open PySem PySem.Calls PyProof.Rows PySem.SeqAt

noncomputable def Wk (prog : Program) (w : World) (A : Around) (h₁ : Heap) (s₂ : Shared) (I : Addr) (fp : List Addr) (ds : List D) : Prop :=
  ∃ P St, Walks prog w A I fp [I] ds.length P St ∧ St 0 s₂.heap ∧ (∀ b ∈ fp, b < s₂.heap.objs.size) ∧ h₁.get? I = none ∧ (∀ b o, h₁.get? b = some o → s₂.heap.get? b = some o) ∧ (∀ i v, P i v → ∃ d, ds[i]? = some d ∧ V h₁ v d) ∧ (∀ i h, St i h → ∃ o, h.get? I = some o ∧ ∃ fs, o.data = .fields fs)

section
variable {prog : Program} {w : World} {A : Around} {E : Value → Shared → Prop} {s : Shared}

theorem size_none (h : Heap) : h.get? h.objs.size = none := by
  cases q : h.get? h.objs.size with
  | none => rfl
  | some o => exact absurd (Heap.lt_size q) (Nat.lt_irrefl _)

theorem iter_seq {a : Value} {d : D} {ds : List D} (hh : A.handled = none) (hv : V s.heap a d) (hi : items d = some ds) :
    wpAny (model prog w) A (pyIter a) (fun it s₂ => ∃ I ax, it = .ref I ∧ a = .ref ax ∧ Keeps s s₂ ∧ Wk prog w A s.heap s₂ I [I, ax] ds) E s := by
  cases hv <;> simp only [items, reduceCtorEq, Option.some.injEq] at hi
  · rename_i p vs ds' hp hvs hl
    subst hi
    have l1 := hvs.length
    obtain ⟨o, ho, _⟩ := id hp
    have hlt := Heap.lt_size ho
    have hne : p ≠ s.heap.objs.size := Nat.ne_of_lt hlt
    have W := Walks.tuple (prog := prog) (w := w) hh s.heap.objs.size p hne vs.toArray
    rw [show vs.toArray.size = ds'.length by simp [l1]] at W
    refine wpAny_pyIter_tuple hp ⟨_, p, rfl, rfl, keeps_push s _ s.toks, _, _, W, ?_, ?_, size_none _, fun b o e => Heap.get?_push_of_some _ e, ?_, ?_⟩
    · exact ⟨⟨_, Heap.get?_push_size _ rfl, rfl, rfl⟩, IsTuple_keep hp fun b o e => Heap.get?_push_of_some _ e⟩
    · intro b hb
      rw [Heap.size_push]
      rcases List.mem_cons.mp hb with rfl | hb
      · exact Nat.lt_succ_self _
      · rw [List.mem_singleton.mp hb]; exact Nat.lt_succ_of_lt hlt
    · intro i v hv
      exact hvs.get' (by simpa using hv)
    · rintro i h ⟨⟨o, ho, _, hd⟩, _⟩
      exact ⟨o, ho, _, hd⟩
  · rename_i p vs ds' hp hvs hl
    subst hi
    have l1 := hvs.length
    obtain ⟨o, ho, _⟩ := hp.isList
    have hlt := Heap.lt_size ho
    have hne : p ≠ s.heap.objs.size := Nat.ne_of_lt hlt
    have W := Walks.list (prog := prog) (w := w) hh s.heap.objs.size p hne vs.toArray
    rw [show vs.toArray.size = ds'.length by simp [l1]] at W
    refine wpAny_pyIter_list hp.isList ⟨_, p, rfl, rfl, keeps_push s _ s.toks, _, _, W, ?_, ?_, size_none _, fun b o e => Heap.get?_push_of_some _ e, ?_, ?_⟩
    · exact ⟨⟨_, Heap.get?_push_size _ rfl, rfl, rfl⟩, IsList_keep hp.isList fun b o e => Heap.get?_push_of_some _ e⟩
    · intro b hb
      rw [Heap.size_push]
      rcases List.mem_cons.mp hb with rfl | hb
      · exact Nat.lt_succ_self _
      · rw [List.mem_singleton.mp hb]; exact Nat.lt_succ_of_lt hlt
    · intro i v hv
      exact hvs.get' (by simpa using hv)
    · rintro i h ⟨⟨o, ho, _, hd⟩, _⟩
      exact ⟨o, ho, _, hd⟩

theorem iter_range {r : Addr} {a b : Int} {t u v : Tok} (hh : A.handled = none) (hr : IsRange s.heap r a b 1 t u v) (h1 : -lim ≤ a ∧ a ≤ lim) (h2 : -lim ≤ b ∧ b ≤ lim) :
    wpAny (model prog w) A (pyIter (.ref r)) (fun it s₂ => ∃ I, it = .ref I ∧ Keeps s s₂ ∧ Wk prog w A s.heap s₂ I [I] (rangeD a b)) E s := by
  have hlen : ((rangeD a b).length : Int) = Builtin.Range.rangeSize a b 1 := by
    rw [rangeSize_one]
    simp only [rangeD, List.length_map, List.length_range]
    split <;> omega
  have hlim : (lim : Int) < 2 ^ 62 := by decide +kernel
  have W := (Walks.range (prog := prog) (w := w) hh s.heap.objs.size a 1 (rangeD a b).length).bound
  refine wpAny_pyIter_range hr (small_one (by omega) (by omega) (by omega) (by omega)) ⟨_, rfl, keeps_push s _ s.toks, _, _, W, ?_, ?_, size_none _, fun b o e => Heap.get?_push_of_some _ e, ?_, ?_⟩
  · show IsRangeIter _ _ _ _ _
    rw [← hlen]
    simpa using Heap.get?_push_size s.heap (o := { cls := .type "range_iterator", data := .fields #[rawInt a, rawInt ((rangeD a b).length : Int), rawInt 1] }) rfl
  · intro b hb
    rw [List.mem_singleton.mp hb, Heap.size_push]; exact Nat.lt_succ_self _
  · rintro i v ⟨hi, t, rfl⟩
    exact ⟨_, rangeD_get hi, by rw [Int.mul_one]; exact .int _ _⟩
  · intro i h hst
    exact ⟨_, hst, _, rfl⟩
end

/-- the closure that a comprehension draws -/
noncomputable def clList (names : List (Str × NameKind)) (cells : List (Str × Addr)) (acc : List (Str × Addr)) : List (Str × Addr) :=
  match names with
  | [] => acc
  | (n, k) :: r => clList r cells (if k == .free then (match cells.lookup n with | some c => (n, c) :: acc | none => acc) else acc)

theorem closure_go {env : Env} (f : Str × NameKind → List (Str × Addr) → Sem (ForInStep (List (Str × Addr))))
    (hf : ∀ n k cs, f (n, k) cs = if k == .free then (do let c ← cellOf env n; pure (.yield ((n, c) :: cs))) else pure (.yield cs)) :
    ∀ (names : List (Str × NameKind)) (acc : List (Str × Addr)), (∀ y ∈ names, y.2 = .free → (env.cells.lookup y.1).isSome = true) → forIn names acc f = pure (clList names env.cells acc)
  | [], acc, _ => rfl
  | (n, k) :: r, acc, h => by
    rw [List.forIn_cons, hf]
    unfold clList
    by_cases hk : (k == NameKind.free) = true
    · obtain ⟨c, hc⟩ := Option.isSome_iff_exists.mp (h (n, k) (.head _) (by simpa using hk))
      have hc' : cellOf env n = pure c := by unfold cellOf; rw [show env.cells.lookup n = some c from hc]
      rw [if_pos hk, if_pos hk, hc', show env.cells.lookup n = some c from hc]
      simp only [pure_bind]
      exact closure_go f hf r _ fun y hy => h y (.tail _ hy)
    · rw [if_neg hk, if_neg hk]
      simp only [pure_bind]
      exact closure_go f hf r _ fun y hy => h y (.tail _ hy)
theorem closure_eq {scope : Scope} {env : Env} (h : ∀ y ∈ scope.names, y.2 = .free → (env.cells.lookup y.1).isSome = true) : closureFor scope env = pure (clList scope.names env.cells []) := by
  unfold closureFor
  have := closure_go (env := env) (fun x cs => if x.2 == .free then (do let c ← cellOf env x.1; pure (.yield ((x.1, c) :: cs))) else pure (.yield cs)) (fun _ _ _ => rfl) scope.names [] h
  simp only [bind_pure]
  exact this

end Mine

namespace Mine
open PySem PySem.Calls PyProof.Rows PySem.SeqAt

theorem compO_drop {α β : Type} {c : α → Option Bool} {f : α → Option β} {as : List α} {i : Nat} {a : α} (h : as[i]? = some a) : compO c f (as.drop i) = (c a).bind fun p => if p = true then (f a).bind fun b => (compO c f (as.drop (i + 1))).map fun bs => b :: bs else compO c f (as.drop (i + 1)) := by
  obtain ⟨hi, rfl⟩ := List.getElem?_eq_some_iff.mp h
  rw [List.drop_eq_getElem_cons hi, compO]

/-- tuples stay where only what is no tuple was changed -/
theorem tup_keep {H h' : Heap} (bad : List Addr) (hk : ∀ b o, b ∉ bad → H.get? b = some o → h'.get? b = some o) (hb : ∀ b ∈ bad, ∀ o, H.get? b = some o → o.cls ≠ .type "tuple" ∨ ∀ xs n, o.data ≠ .seq xs n) :
    ∀ a items, H.IsTuple a items → h'.IsTuple a items := by
  rintro a items ⟨o, ho, hc, n, hd⟩
  refine ⟨o, hk a o (fun q => ?_) ho, hc, n, hd⟩
  rcases hb a q o ho with e | e
  · exact e hc
  · exact e _ _ hd

theorem compO_len {α β : Type} {c : α → Option Bool} {f : α → Option β} : ∀ {as : List α} {bs : List β}, compO c f as = some bs → bs.length ≤ as.length
  | [], bs, h => by simp only [compO, Option.some.injEq] at h; subst h; simp
  | a :: as, bs, h => by
    replace h := ob h
    obtain ⟨p, _, h⟩ := h
    cases p with
    | true =>
      rw [if_pos rfl] at h
      replace h := ob h
      obtain ⟨b, _, h⟩ := h
      obtain ⟨bs', hbs, rfl⟩ := om h
      have := compO_len hbs
      simp only [List.length_cons]; omega
    | false =>
      have := compO_len h
      simp only [List.length_cons]; omega

theorem bad0 {H : Heap} {I : Addr} (hI : ∃ o, H.get? I = some o ∧ ∃ fs, o.data = .fields fs) : ∀ b ∈ [I], ∀ o, H.get? b = some o → o.cls ≠ .type "tuple" ∨ ∀ xs n, o.data ≠ .seq xs n := by
  intro b hb o ho
  rw [List.mem_singleton.mp hb] at ho
  obtain ⟨o', ho', fs, hd⟩ := hI
  rw [ho] at ho'; cases ho'
  exact .inr fun xs n q => by rw [hd] at q; cases q
theorem bad1 {H : Heap} {D : Addr} {xs : Array Value} (hD : H.PlainList D xs) : ∀ b ∈ [D], ∀ o, H.get? b = some o → o.cls ≠ .type "tuple" ∨ ∀ xs n, o.data ≠ .seq xs n := by
  intro b hb o ho
  rw [List.mem_singleton.mp hb] at ho
  obtain ⟨n, hD⟩ := hD
  rw [ho] at hD; cases hD
  exact .inl (by simp)
theorem badNs {H : Heap} {C : Addr} {m : Str → Option Value} (hC : H.Ns C m) : ∀ o, H.get? C = some o → o.cls ≠ .type "tuple" ∨ ∀ xs n, o.data ≠ .seq xs n := by
  intro o ho
  obtain ⟨o', es, ep, ho', hd, _⟩ := hC
  rw [ho] at ho'; cases ho'
  exact .inr fun xs n q => by rw [hd] at q; cases q
theorem bad2 {H : Heap} {C I : Addr} {m : Str → Option Value} (hC : H.Ns C m) (hI : ∃ o, H.get? I = some o ∧ ∃ fs, o.data = .fields fs) : ∀ b ∈ [C, I], ∀ o, H.get? b = some o → o.cls ≠ .type "tuple" ∨ ∀ xs n, o.data ≠ .seq xs n := by
  intro b hb o ho
  rcases List.mem_cons.mp hb with rfl | hb
  · exact badNs hC o ho
  · exact bad0 hI b hb o ho

section
variable {prog : Program} {w : World} {A : Around} {E : Value → Shared → Prop} {env : Env}

/-- the loop of a comprehension -/
theorem compLoop_ok {elt iter : Expr} {x : Str} {px : Pos} {ifs : List Expr} {scope : Scope} {pos : Pos} {I D : Addr} {fp : List Addr} {ds res : List Mine.D} {h₁ : Heap} {c : Mine.D → Option Bool} {f : Mine.D → Option Mine.D}
    {cenv : Env} {m : Str → Option Value} {s : Shared} {R : Result → Shared → Prop} {P : Nat → Value → Prop} {St : Nat → Heap → Prop}
    (W : Walks prog w A I fp [I] ds.length P St) (hst : St 0 s.heap) (hI : h₁.get? I = none) (hD1 : h₁.get? D = none) (hC1 : h₁.get? cenv.locals = none) (hk1 : ∀ b o, h₁.get? b = some o → s.heap.get? b = some o) (hP : ∀ i v, P i v → ∃ d, ds[i]? = some d ∧ V h₁ v d) (hSt : ∀ i h, St i h → ∃ o, h.get? I = some o ∧ ∃ fs, o.data = .fields fs)
    (hres : compO c f ds = some res) (hpure : Mine.D.pures res = true) (hdl : ds.length ≤ lim)
    (hx : cenv.kindOf x = some .local) (hp : (cenv.scope.kind == .class || (cenv.scope.kind == .module && cenv.locals != cenv.globals)) = false)
    (hDC : D ≠ cenv.locals) (hDf : D ∉ fp) (hCf : cenv.locals ∉ fp)
    (hacc : s.heap.PlainList D #[]) (hn : s.heap.Ns cenv.locals m)
    (htests : ∀ d v b s₂ m₂ E', V h₁ v d → s₂.heap.Ns cenv.locals m₂ → m₂ x = some v → (∀ b o, h₁.get? b = some o → s₂.heap.get? b = some o) → c d = some b →
      wpAny (model prog w) A (forIn ifs true fun c r => if r = true then do let ok ← isTrue c cenv (eval c cenv); pure (ForInStep.yield ok) else pure (ForInStep.yield r)) (fun ok s₃ => ok = b ∧ Keeps s₂ s₃) E' s₂)
    (helt : ∀ d v y s₂ m₂ E', V h₁ v d → s₂.heap.Ns cenv.locals m₂ → m₂ x = some v → (∀ b o, h₁.get? b = some o → s₂.heap.get? b = some o) → f d = some y → wpAny (model prog w) A (eval elt cenv) (Post s₂ y) E' s₂)
    (hR : ∀ h' tk m' ys, h'.Ns cenv.locals m' → h'.PlainList D (List.toArray ys) → Vs h' ys res → (∀ b o, b ≠ cenv.locals → b ≠ I → b ≠ D → s.heap.get? b = some o → h'.get? b = some o) → R (.ok .next) { s with heap := h', toks := tk }) :
    codeAny (model prog w) A (.compLoop (.ListComp elt [⟨.Name x px, iter, ifs, 0⟩] scope pos) 0 (.ref I) (.ref D) cenv) R s := by
  refine codeAny_compLoop_tests
    (fun k s' => ∃ h' tk m' ys acc rest i, s' = { s with heap := h', toks := tk } ∧ St i h' ∧ h'.PlainList D (List.toArray ys) ∧ h'.Ns cenv.locals m' ∧ Vs h' ys acc ∧ acc ++ rest = res ∧ compO c f (ds.drop i) = some rest ∧ i ≤ ds.length ∧ acc.length ≤ i ∧ k = ds.length + 1 - i ∧
      (∀ b o, b ≠ cenv.locals → b ≠ I → b ≠ D → s.heap.get? b = some o → h'.get? b = some o)) ?_ (ds.length + 1)
    ⟨s.heap, s.toks, m, [], [], res, 0, rfl, hst, hacc, hn, .nil, rfl, by simpa using hres, Nat.zero_le _, Nat.zero_le _, rfl, fun _ _ _ _ _ e => e⟩
  rintro k s' ⟨H, tk, m', ys, acc, rest, i, rfl, hst', hacc', hn', hvs, hcat, hrest, hi, hai, rfl, hk⟩
  have hpacc : Mine.D.pures acc = true := by
    rw [← hcat] at hpure
    simp only [Mine.D.pures, List.all_append, Bool.and_eq_true] at hpure
    exact hpure.1
  have hIfp : cenv.locals ≠ I := fun h => hCf (W.sub _ (by simp [h]))
  have hDI : D ≠ I := fun h => hDf (W.sub _ (by simp [h]))
  have kH : ∀ b o, h₁.get? b = some o → H.get? b = some o := fun b o e => hk b o (fun q => by rw [q, hC1] at e; cases e) (fun q => by rw [q, hI] at e; cases e) (fun q => by rw [q, hD1] at e; cases e) (hk1 b o e)
  by_cases hlt : i < ds.length
  · refine W.item i _ _ _ hlt hst' fun v h₂ tk₂ hPv hst₂ hk₂ => ?_
    have hk₂' : ∀ b o, b ≠ I → H.get? b = some o → h₂.get? b = some o := fun b o hb e => hk₂ b o (by simpa using hb) e
    obtain ⟨d, hd, hVd⟩ := hP i v hPv
    rw [compO_drop hd] at hrest
    refine wpAny_assign_Name (wpAny_storeName_local hx (hn'.at' fun o e => hk₂' _ o hIfp e) (fun h₃ hn₃ hs₃ => ?_) hp)
    have up : ∀ b o, b ≠ cenv.locals → b ≠ I → H.get? b = some o → h₃.get? b = some o := fun b o hb hbI e => hs₃.extBut b o hb (hk₂' b o hbI e)
    have k1 : ∀ b o, h₁.get? b = some o → h₃.get? b = some o := fun b o e => up b o (fun q => by rw [q, hC1] at e; cases e) (fun q => by rw [q, hI] at e; cases e) (kH b o e)
    have hst₃ : St (i + 1) h₃ := W.frame _ _ _ hst₂ fun b hb o e => hs₃.extBut b o (fun h => hCf (h ▸ hb)) e
    replace hrest := ob hrest
    obtain ⟨cb, hc, hrest⟩ := hrest
    · 
      refine wpAny_mono (htests d v cb _ _ _ hVd hn₃ (by simp) k1 hc) (fun ok s₄ h₄ => ?_) fun _ _ e => e
      obtain ⟨rfl, h₄, tk₄, rfl, hk₄⟩ := h₄
      have hacc₄ : h₄.PlainList D (List.toArray ys) := hacc'.at fun o e => hk₄ _ o (up D o hDC hDI e)
      have hn₄ := hn₃.keeps hk₄
      have hst₄ : St (i + 1) h₄ := W.frame _ _ _ hst₃ fun b _ o e => hk₄ b o e
      have kk : ∀ b o, b ≠ cenv.locals → b ≠ I → b ≠ D → s.heap.get? b = some o → h₄.get? b = some o := fun b o hb1 hb2 hb3 e => hk₄ b o (up b o hb1 hb2 (hk b o hb1 hb2 hb3 e))
      have tk4 : ∀ a items, H.IsTuple a items → h₄.IsTuple a items := tup_keep [cenv.locals, I] (fun b o hb e => by
        simp only [List.mem_cons, List.not_mem_nil, or_false, not_or] at hb
        exact hk₄ b o (up b o hb.1 hb.2 e)) (bad2 hn' (hSt _ _ hst'))
      have hvs₄ : Vs h₄ ys acc := hvs.pureKeep tk4 (hpacc)
      cases ok with
      | false =>
        simp only [Bool.false_eq_true, if_false]
        exact ⟨ds.length + 1 - (i + 1), by omega, h₄, tk₄, _, ys, acc, rest, i + 1, rfl, hst₄, hacc₄, hn₄, hvs₄, hcat, hrest, hlt, by omega, rfl, kk⟩
      | true =>
        simp only [if_true]
        rw [if_pos rfl] at hrest
        replace hrest := ob hrest
        obtain ⟨y, hy, hrest⟩ := hrest
        obtain ⟨bs, hbs, rfl⟩ := om hrest
        · 
          refine wpAny_mono (helt d v y _ _ _ hVd hn₄ (by simp) (fun b o e => hk₄ b o (k1 b o e)) hy) (fun yv s₅ h₅ => ?_) fun _ _ e => e
          obtain ⟨⟨h₅, tk₅, rfl, hk₅⟩, hVy⟩ := h₅
          have hlys := hvs.length
          have hacc₅ := hacc₄.at fun o e => hk₅ _ o e
          refine wpAny_list_append_plain (hsz := by simp only [List.size_toArray]; have := lim_line; omega) hacc₅ fun h₆ hl₆ hs₆ => ?_
          have tk6 : ∀ a items, h₅.IsTuple a items → h₆.IsTuple a items := tup_keep [D] (fun b o hb e => by
            simp only [List.mem_cons, List.not_mem_nil, or_false] at hb
            exact hs₆.extBut b o hb e) (bad1 hacc₅)
          have hpy : y.pure = true ∧ Mine.D.pures acc = true := by
            rw [← hcat] at hpure
            simp only [Mine.D.pures, List.all_append, List.all_cons, Bool.and_eq_true] at hpure
            exact ⟨hpure.2.1, hpure.1⟩
          refine ⟨ds.length + 1 - (i + 1), by omega, h₆, tk₅, _, ys ++ [yv], acc ++ [y], bs, i + 1, rfl, ?_, by simpa using hl₆, (hn₄.keeps hk₅).sameBut hs₆ (Ne.symm hDC), ?_, by simpa using hcat, hbs, hlt, by simp only [List.length_append, List.length_singleton]; omega, rfl, fun b o hb1 hb2 hb3 e => hs₆.extBut b o hb3 (hk₅ b o (kk b o hb1 hb2 hb3 e))⟩
          · exact W.frame _ _ _ hst₄ fun b hb o e => hs₆.extBut b o (fun h => hDf (h ▸ hb)) (hk₅ b o e)
          · exact ((hvs₄.mono hk₅).pureKeep tk6 hpy.2).append (.one (hVy.pureKeep tk6 hpy.1))
  · have hin : i = ds.length := by omega
    subst hin
    rw [List.drop_length] at hrest
    simp only [compO, Option.some.injEq] at hrest
    subst hrest
    rw [List.append_nil] at hcat
    subst hcat
    refine W.done _ _ _ hst' fun h₂ tk₂ hk₂ => ?_
    have hk₂' : ∀ b o, b ≠ I → H.get? b = some o → h₂.get? b = some o := fun b o hb e => hk₂ b o (by simpa using hb) e
    have tk2 : ∀ a items, H.IsTuple a items → h₂.IsTuple a items := tup_keep [I] (fun b o hb e => by
      simp only [List.mem_cons, List.not_mem_nil, or_false] at hb
      exact hk₂' b o hb e) (bad0 (hSt _ _ hst'))
    exact hR h₂ tk₂ m' ys (hn'.at' fun o e => hk₂' _ o hIfp e) (hacc'.at fun o e => hk₂' _ o hDI e) (hvs.pureKeep tk2 hpure) fun b o hb1 hb2 hb3 e => hk₂' b o hb2 (hk b o hb1 hb2 hb3 e)
end
end Mine

namespace Mine
open PySem PySem.Calls PyProof.Rows PySem.SeqAt

theorem clList_lookup {cells : List (Str × Addr)} {x : Str} {c : Addr} (hc : cells.lookup x = some c) : ∀ (names : List (Str × NameKind)) (acc : List (Str × Addr)), ((x, NameKind.free) ∈ names ∨ acc.lookup x = some c) → (∀ c', (x, c') ∈ acc → c' = c) → (clList names cells acc).lookup x = some c
  | [], acc, h, _ => by
    rcases h with h | h
    · cases h
    · exact h
  | (n, k) :: r, acc, h, ha => by
    unfold clList
    by_cases hk : (k == NameKind.free) = true
    · rw [if_pos hk]
      cases hn : cells.lookup n with
      | none =>
        refine clList_lookup hc r acc ?_ ha
        rcases h with h | h
        · rcases List.mem_cons.mp h with e | h
          · cases e; rw [hn] at hc; cases hc
          · exact .inl h
        · exact .inr h
      | some c' =>
        refine clList_lookup hc r _ ?_ ?_
        · by_cases hx : x = n
          · subst hx
            rw [hn] at hc; cases hc
            exact .inr (by simp)
          · rcases h with h | h
            · rcases List.mem_cons.mp h with e | h
              · cases e; exact absurd rfl hx
              · exact .inl h
            · exact .inr (by rw [List.lookup_cons, beq_eq_false_iff_ne.mpr hx]; exact h)
        · intro c'' hm
          rcases List.mem_cons.mp hm with e | hm
          · cases e
            rw [hn] at hc; cases hc; rfl
          · exact ha _ hm
    · rw [if_neg hk]
      refine clList_lookup hc r acc ?_ ha
      rcases h with h | h
      · rcases List.mem_cons.mp h with e | h
        · cases e; exact absurd rfl hk
        · exact .inl h
      · exact .inr h

theorem relabelN_eq (names kd : List (Str × NameKind)) {scope : Scope} {env : Env} (h1 : env.scope.names = kd) (h2 : env.scope.kind = .function) (h3 : scope.names = names) : (relabel scope env).names = relabelN names kd := by
  subst h3
  unfold relabel relabelN
  simp only
  refine List.map_congr_left fun y _ => ?_
  have : env.kindOf y.1 = kd.lookup y.1 := by show env.scope.names.lookup y.1 = _; rw [h1]
  rw [h2, this]
  simp

theorem relabelN_local {kd : List (Str × NameKind)} {x : Str} : ∀ {names : List (Str × NameKind)}, names.lookup x = some .local → (relabelN names kd).lookup x = some .local
  | [], h => by simp at h
  | (n, k) :: r, h => by
    unfold relabelN
    rw [List.map_cons]
    by_cases hx : x = n
    · subst hx
      rw [List.lookup_cons, beq_self_eq_true] at h
      cases h
      simp
    · rw [List.lookup_cons, beq_eq_false_iff_ne.mpr hx] at h
      have := relabelN_local (kd := kd) h
      unfold relabelN at this
      split <;> rw [List.lookup_cons, beq_eq_false_iff_ne.mpr hx] <;> exact this
theorem relabelN_free {kd : List (Str × NameKind)} {x : Str} (hk : kd.lookup x = some .cell) : ∀ {names : List (Str × NameKind)}, names.lookup x = some .free → (relabelN names kd).lookup x = some .cell
  | [], h => by simp at h
  | (n, k) :: r, h => by
    unfold relabelN
    rw [List.map_cons]
    by_cases hx : x = n
    · subst hx
      rw [List.lookup_cons, beq_self_eq_true] at h
      cases h
      simp [hk]
    · rw [List.lookup_cons, beq_eq_false_iff_ne.mpr hx] at h
      have := relabelN_free hk h
      unfold relabelN at this
      split <;> rw [List.lookup_cons, beq_eq_false_iff_ne.mpr hx] <;> exact this
theorem relabelN_back {kd : List (Str × NameKind)} {x : Str} {q : NameKind} : ∀ {names : List (Str × NameKind)}, (relabelN names kd).lookup x = some q → ∃ k, names.lookup x = some k ∧ (x, k) ∈ names ∧ (q = k ∨ (k = .free ∧ q = .cell))
  | [], h => by simp [relabelN] at h
  | (n, k) :: r, h => by
    unfold relabelN at h
    rw [List.map_cons] at h
    by_cases hx : x = n
    · subst hx
      refine ⟨k, by simp, .head _, ?_⟩
      split at h
      · rename_i hc
        simp only [Bool.and_eq_true, beq_iff_eq] at hc
        rw [List.lookup_cons, beq_self_eq_true] at h
        cases h
        exact .inr ⟨hc.1, rfl⟩
      · rw [List.lookup_cons, beq_self_eq_true] at h
        cases h
        exact .inl rfl
    · have h' : (relabelN r kd).lookup x = some q := by
        unfold relabelN
        split at h <;> rw [List.lookup_cons, beq_eq_false_iff_ne.mpr hx] at h <;> exact h
      obtain ⟨k', e1, e2, e3⟩ := relabelN_back h'
      exact ⟨k', by rw [List.lookup_cons, beq_eq_false_iff_ne.mpr hx]; exact e1, .tail _ e2, e3⟩

structure CompOk (sc : Sc) (scope : Scope) (x : Str) : Prop where
  kind : scope.kind = .function
  loc : scope.names.lookup x = some .local
  each : ∀ y ∈ scope.names, (y.2 = .local ∧ scope.names.lookup y.1 = some .local) ∨ (y.2 = .free ∧ sc.kd.lookup y.1 = some .cell ∧ y.1 ≠ x ∧ scope.names.lookup y.1 = some .free) ∨ y.2 = .globalImplicit
  lt : ∀ p ∈ sc.ix, p.2 < sc.n
theorem compOk_of {sc : Sc} {scope : Scope} {x : Str} (h : compOk sc scope x = true) : CompOk sc scope x := by
  simp only [compOk, Bool.and_eq_true, List.all_eq_true, Bool.or_eq_true, beq_iff_eq, bne_iff_ne, decide_eq_true_eq] at h
  obtain ⟨⟨⟨a, b⟩, c⟩, d⟩ := h
  refine ⟨a, b, fun y hy => ?_, d⟩
  rcases c y hy with (q | q) | q
  · exact .inl q
  · exact .inr (.inl ⟨q.1.1.1, q.1.1.2, q.1.2, q.2⟩)
  · exact .inr (.inr q)

theorem rho_app_get {ρ : Rho} {lo : Option Lo} {i : Nat} (h : i < ρ.length) : Rho.get (ρ ++ [lo]) i = Rho.get ρ i := by
  simp [Rho.get, List.getElem?_append_left h]
theorem rho_app_last {ρ : Rho} {lo : Option Lo} : Rho.get (ρ ++ [lo]) ρ.length = lo := by
  simp [Rho.get]

/-- the context within a comprehension -/
theorem Cx.comp {base : Heap} {k : Nat} {sc : Sc} {env : Env} {ρ : Rho} {A : Around} {h h₃ : Heap} {scope : Scope} {x : Str} {C : Addr} {m : Str → Option Value} {v : Value} {d : D} (c : Cx base k sc env ρ A h) (o : CompOk sc scope x)
    (hk : ∀ b o, h.get? b = some o → h₃.get? b = some o) (hn : h₃.Ns C m) (hx : m x = some v) (hv : V h₃ v d) :
    Cx base k (compSc sc scope.names x) (compEnvC scope (clList scope.names env.cells []) C env) (ρ ++ [some (.dat d)]) A h₃ := by
  have hnames := relabelN_eq scope.names sc.kd (scope := scope) (env := env) c.names c.kind rfl
  have hkx : (relabelN scope.names sc.kd).lookup x = some .local := relabelN_local o.loc
  have cell : ∀ y, (relabelN scope.names sc.kd).lookup y = some .cell → sc.kd.lookup y = some .cell ∧ (y, NameKind.free) ∈ scope.names ∧ y ≠ x := by
    intro y hy
    obtain ⟨q, e1, e2, e3⟩ := relabelN_back hy
    rcases e3 with e3 | ⟨rfl, _⟩
    · subst e3
      rcases o.each _ e2 with ⟨q, _⟩ | ⟨q, _⟩ | q <;> cases q
    · rcases o.each _ e2 with ⟨q, _⟩ | ⟨_, q, q2, _⟩ | q
      · cases q
      · exact ⟨q, e2, q2⟩
      · cases q
  refine ⟨hnames, o.kind, c.glob, c.blt, fun y hy => ?_, by simp [compSc, c.len], fun y i lo h1 h2 h3 => ?_, c.ok.mono hk⟩
  · obtain ⟨q1, q2, _⟩ := cell y hy
    obtain ⟨a, ha⟩ := Option.isSome_iff_exists.mp (c.cells y q1)
    show ((clList scope.names env.cells []).lookup y).isSome = true
    rw [clList_lookup ha scope.names [] (.inl q2) (fun _ hm => nomatch hm)]; rfl
  · by_cases hyx : y = x
    · subst hyx
      simp only [compSc, List.lookup_cons, beq_self_eq_true, Option.some.injEq] at h2
      subst h2
      rw [← c.len, rho_app_last] at h3
      cases h3
      exact ⟨v, .loc m ((congrArg (List.lookup y) hnames).trans hkx) hn hx, hv⟩
    · simp only [compSc, List.lookup_cons, beq_eq_false_iff_ne.mpr hyx] at h2
      have h1' : isVarK ((relabelN scope.names sc.kd).lookup y) = true := h1
      have hm := PySem.mem_of_lookup h2
      obtain ⟨⟨y', k'⟩, hm1, hm2⟩ := List.mem_filterMap.mp hm
      split at hm2
      · rename_i hfr
        simp only [Option.map_eq_some_iff, Prod.mk.injEq] at hm2
        obtain ⟨i', hi, rfl, rfl⟩ := hm2
        have hkf : k' = .free := by simpa using hfr
        subst hkf
        rcases o.each _ hm1 with ⟨q, _⟩ | ⟨_, q, _, q4⟩ | q
        · cases q
        · have hlt := o.lt _ (PySem.mem_of_lookup hi)
          rw [rho_app_get (by rw [c.len]; exact hlt)] at h3
          obtain ⟨v', a', w'⟩ := c.binds y' i' lo (by show isVarK (sc.kd.lookup y') = true; rw [show sc.kd.lookup y' = some .cell from q]; rfl) hi h3
          refine ⟨v', ?_, w'.mono hk⟩
          cases a' with
          | loc m' e1 e2 e3 =>
            rw [c.kindOf, show sc.kd.lookup y' = some .cell from q] at e1; cases e1
          | cell c' e1 e2 e3 =>
            refine .cell c' ((congrArg (List.lookup y') hnames).trans (relabelN_free q q4)) ?_ (e3.keeps hk)
            exact clList_lookup e2 scope.names [] (.inl hm1) (fun _ hm => nomatch hm)
        · cases q
      · cases hm2

section
variable {prog : Program} {w : World} {base : Heap} {Φ : Fns} {k : Nat} {A : Around} {E : Value → Shared → Prop} {env : Env} {sc : Sc} {ρ : Rho}

/-- what a comprehension ends in -/
theorem comp_ok {elt iter : Expr} {x : Str} {px : Pos} {ifs : List Expr} {scope : Scope} {pos pos' : Pos} {s : Shared} {use : Option (Value → Sem Unit)} {Q : Value → Shared → Prop} {ds res : List D} {el cd : Mine.E}
    (c : Cx base k sc env ρ A s.heap) (o : CompOk sc scope x) (hs : ∀ x, foldedSetIterable iter env x = pure x)
    (hit : wpAny (model prog w) A (eval iter env) (fun xv s₁ => wpAny (model prog w) A (pyIter xv) (fun itv s₂ => ds.length ≤ lim ∧ ∃ I fp, itv = .ref I ∧ Keeps s s₁ ∧ Keeps s₁ s₂ ∧ Wk prog w A s₁.heap s₂ I fp ds) E s₁) E s)
    (hel : EvOK prog w base Φ k (compSc sc scope.names x) elt el)
    (hcd : (ifs = [] ∧ cd = .k (.bool true)) ∨ ∃ t, ifs = [t] ∧ TrOK prog w base Φ k (compSc sc scope.names x) t cd)
    (hres : compO (fun d => (ev Φ (ρ ++ [some (.dat d)]) cd).bind isTrueD) (fun d => ev Φ (ρ ++ [some (.dat d)]) el) ds = some res) (hpure : D.pures res = true)
    (hQ : ∀ Dd C s' m' ys, ds.length ≤ lim → Keeps s s' → s.heap.get? Dd = none → s.heap.get? C = none → Dd ≠ C → s'.heap.Ns C m' → s'.heap.PlainList Dd (List.toArray ys) → Vs s'.heap ys res → compPost (model prog w) A E use Q (.ref Dd) C (.ok .next) s') :
    wpAny (model prog w) A (comprehension (.ListComp elt [⟨.Name x px, iter, ifs, 0⟩] scope pos) scope env pos' (newList []) false (eval iter env) use) Q E s := by
  have hfree : ∀ y ∈ scope.names, y.2 = .free → (env.cells.lookup y.1).isSome = true := by
    intro y hy hf
    rcases o.each y hy with ⟨q, _⟩ | ⟨_, q, _⟩ | q
    · rw [hf] at q; cases q
    · exact c.cells _ q
    · rw [hf] at q; cases q
  have hcell : ∀ y ∈ scope.names, y.2 ≠ .cell := by
    intro y hy e
    rcases o.each y hy with ⟨q, _⟩ | ⟨q, _⟩ | q <;> rw [e] at q <;> cases q
  have hnames : ∀ y ∈ scope.names, y.2 = .local → scope.names.lookup y.1 = some .local := by
    intro y hy e
    rcases o.each y hy with ⟨_, q⟩ | ⟨q, _⟩ | q
    · exact q
    · rw [e] at q; cases q
    · rw [e] at q; cases q
  refine wpAny_comprehension_free (use := use) rfl hs (closure_eq hfree) o.kind hnames (wpAny_mono hit (fun xv s₁ h₁ => wpAny_mono h₁ (fun itv s₂ h₂ => ?_) fun _ _ e => e) fun _ _ e => e)
  obtain ⟨hdl, I, fp, rfl, K1, K2, P, St, W, hst, hfp, hI, hk12, hP, hSt⟩ := h₂
  refine wpAny_newObj_type (wpAny_newFunctionEnv hcell (by intro y hy; simp at hy) (fun h₃ hns₃ hsb₃ => ?_) o.kind)
  dsimp only at hns₃ hsb₃ ⊢
  generalize hH2 : s₂.heap.push { cls := .type "list", dict := none, data := .seq ([] : List Value).toArray } = H2 at hns₃ hsb₃ ⊢
  have hC : H2.objs.size = s₂.heap.objs.size + 1 := by rw [← hH2, Heap.size_push]
  have hDC : s₂.heap.objs.size ≠ H2.objs.size := by rw [hC]; exact Nat.ne_of_lt (Nat.lt_succ_self _)
  have below : ∀ b, b < s₂.heap.objs.size → b ≠ H2.objs.size ∧ b ≠ s₂.heap.objs.size := fun b hb => ⟨by rw [hC]; exact Nat.ne_of_lt (Nat.lt_succ_of_lt hb), Nat.ne_of_lt hb⟩
  have hDf : s₂.heap.objs.size ∉ fp := fun hm => Nat.lt_irrefl _ (hfp _ hm)
  have hCf : H2.objs.size ∉ fp := fun hm => by have := hfp _ hm; rw [hC] at this; exact Nat.lt_irrefl _ (Nat.lt_of_succ_lt this)
  have old : ∀ b o, s₂.heap.get? b = some o → h₃.get? b = some o := fun b o e => hsb₃.extBut b o (below b (Heap.lt_size e)).1 (Heap.get?_push_of_some _ (hH2 ▸ Heap.get?_push_of_some _ e))
  have hacc : h₃.PlainList s₂.heap.objs.size #[] := ⟨_, hsb₃.extBut _ _ hDC (Heap.get?_push_of_some _ (hH2 ▸ Heap.get?_push_size _ rfl))⟩
  have hst₃ : St 0 h₃ := W.frame _ _ _ hst fun b _ o e => old b o e
  have fresh : ∀ a, s₂.heap.objs.size ≤ a → s₂.heap.get? a = none := fun a ha => by
    cases e : s₂.heap.get? a with
    | none => rfl
    | some o' => exact absurd (Heap.lt_size e) (Nat.not_lt.mpr ha)
  have fresh1 : ∀ a, s₂.heap.objs.size ≤ a → s₁.heap.get? a = none := fun a ha => by
    cases e : s₁.heap.get? a with
    | none => rfl
    | some o' => have := fresh a ha; rw [hk12 _ _ e] at this; cases this
  have fresh0 : ∀ a, s₂.heap.objs.size ≤ a → s.heap.get? a = none := fun a ha => by
    cases e : s.heap.get? a with
    | none => rfl
    | some o' => have := fresh1 a ha; rw [keeps_heap K1 _ _ e] at this; cases this
  have k01 := keeps_heap K1
  have sI : s.heap.get? I = none := by
    cases e : s.heap.get? I with
    | none => rfl
    | some o' => rw [k01 _ _ e] at hI; cases hI
  have fin : ∀ s₃ : Shared, s₃ = { s₂ with heap := h₃, toks := s₂.toks + ([] : List (Str × Value)).length } →
      codeAny (model prog w) A (.compLoop (.ListComp elt [⟨.Name x px, iter, ifs, 0⟩] scope pos) 0 (.ref I) (.ref s₂.heap.objs.size) (compEnvC scope (clList scope.names env.cells []) H2.objs.size env))
        (compPost (model prog w) A E use Q (.ref s₂.heap.objs.size) H2.objs.size) s₃ := by
    rintro s₃ rfl
    refine compLoop_ok (cenv := compEnvC scope (clList scope.names env.cells []) H2.objs.size env) (h₁ := s₁.heap) W hst₃ hI (fresh1 _ (Nat.le_refl _)) (fresh1 _ (by show _ ≤ H2.objs.size; rw [hC]; exact Nat.le_succ _)) (fun b o e => old b o (hk12 b o e)) hP hSt hres hpure hdl
      (lookup_relabel_local o.loc) (by simp [compEnvC, relabel, o.kind]) hDC hDf hCf hacc hns₃ ?_ ?_ ?_
    · intro d v b s₄ m₄ E' hv hn hm hk hcb
      have c' := (c.mono k01).comp o hk hn hm (hv.mono hk)
      rcases hcd with ⟨rfl, rfl⟩ | ⟨t, rfl, ht⟩
      · have hcb : some true = some b := hcb
        cases hcb
        rw [List.forIn_nil]
        exact wpAny_pure ⟨rfl, keeps_refl _⟩
      · rw [List.forIn_cons]
        rw [if_pos rfl]
        refine wpAny_bind (wpAny_bind ?_)
        have hb' : ev Φ (ρ ++ [some (.dat d)]) cd = some (.bool b) := by
          obtain ⟨q, hq1, hq2⟩ := Option.bind_eq_some_iff.mp hcb
          cases q <;> simp only [isTrueD, reduceCtorEq, Option.some.injEq] at hq2
          subst hq2; exact hq1
        refine wpAny_mono (ht _ _ _ _ _ E' c' hb') (fun r s₅ h₅ => ?_) fun _ _ e => e
        exact wpAny_pure (wpAny_pure h₅)
    · intro d v y s₄ m₄ E' hv hn hm hk hy
      have c' := (c.mono k01).comp o hk hn hm (hv.mono hk)
      exact hel _ _ _ _ _ E' c' hy
    · intro h' tk m' ys hn hl hvs hk
      have keep : ∀ b o, s.heap.get? b = some o → h'.get? b = some o := fun b o' e => by
        have e1 := k01 b o' e
        have e2 := hk12 b o' e1
        have lt := Heap.lt_size e2
        exact hk b o' (below b lt).1 (fun q => by rw [q, hI] at e1; cases e1) (below b lt).2 (old b o' e2)
      refine hQ _ _ _ m' ys hdl ?_ (fresh0 _ (Nat.le_refl _)) (fresh0 _ (by rw [hC]; exact Nat.le_succ _)) hDC hn hl hvs
      obtain ⟨a1, b1, e1, _⟩ := K1
      obtain ⟨a2, b2, e2, _⟩ := K2
      exact ⟨h', tk, by rw [e2, e1], keep⟩
  exact codeAny_compStart_list (fin _ rfl) (W.self 0 _ _ _ hst₃ (fin _ rfl))

end
end Mine

namespace Mine
open PySem PySem.Calls PyProof.Rows PySem.SeqAt

section
variable {prog : Program} {w : World} {base : Heap} {fns : List Str} {mg mb : Str → Option Value} {fa : Nat → Addr} {Φ : Fns} {k : Nat}

theorem sub_plain {e : Expr} {o i : Value} (h : ∀ a b c d, e ≠ .Slice a b c d) : subscripted e false o i = operate [o, i] (getItem o i) := by
  cases e <;> first | rfl | (exact absurd rfl (h _ _ _ _))

theorem getitem_look {s : Shared} {a : Value} {x : D} {ds : List D} (hv : V s.heap a x) (hi : items x = some ds) : ∃ T id, s.TypeIs a T ∧ typeLookup (.type T) "__getitem__" = pure (some (.builtin id)) := by
  cases hv <;> simp only [items, reduceCtorEq] at hi
  · rename_i hp _ _; exact ⟨"tuple", _, Heap.IsTuple.typeIs hp, slot_tuple_getitem.lookup⟩
  · rename_i hp _ _; exact ⟨"list", _, Heap.IsList.typeIs hp.isList, slot_list_getitem.lookup⟩

theorem evIdx_items {x y d : D} (h : evIdx x y = some d) : ∃ ds, items x = some ds := by
  obtain ⟨ds, h1, _⟩ := ob h; exact ⟨ds, h1⟩

theorem cE_star (n : Nat) (sc : Sc) (a : Expr) (b : Pos) : cE fns n sc (.Starred a b) = none := by cases n <;> rfl
theorem cE_slice (n : Nat) (sc : Sc) (a b c : Option Expr) (d : Pos) : cE fns n sc (.Slice a b c d) = none := by cases n <;> rfl

theorem opA_of {op : Operator} {o : Op} (h : cOp op = some o) : op = opA o := by
  cases op <;> simp only [cOp, reduceCtorEq, Option.some.injEq] at h <;> subst h <;> rfl
theorem cmA_of {op : CmpOp} {o : Cm} (h : cCm op = some o) : op = cmA o := by
  cases op <;> simp only [cCm, reduceCtorEq, Option.some.injEq] at h <;> subst h <;> rfl
theorem cmA_marks (o : Cm) (r : Expr) : behindInMarks (cmA o) r = false := by
  cases o <;> cases r <;> simp [behindInMarks, cmA] <;> (intros; first | rfl | decide)

theorem call1_builtin {sc : Sc} {env : Env} {ρ : Rho} {A : Around} {s : Shared} {E : Value → Shared → Prop} {name : Str} {id : String} {p pos : Pos} {a : Expr} {a' : Mine.E} {x d : D} {f : Expr → Option Mine.E}
    (G : Gl fns base mg mb fa) (J : Judged prog w base Φ k sc f) (c : Cx base k sc env ρ A s.heap) (hg : glob sc name = true) (hx : name ∈ blNames) (hv : bootBuiltins name = some (.builtin id))
    (ha : f a = some a') (he : ev Φ ρ a' = some x) (h : ∀ v s', V s'.heap v x → wpAny (model prog w) A (call (.builtin id) [v]) (Post s' d) E s') :
    wpAny (model prog w) A (eval (.Call (.Name name p) [a] [] pos) env) (Post s d) E s := by
  refine Call_ (load_builtin G c hg hx hv (callWith_builtin1 ?_ (starEach_plain (J.plain ha) _ _)))
  refine args_cons ?_ (starEach_plain (J.plain ha) _ _)
  refine wpAny_mono ((J.1 a a' ha).1 env ρ A s x E c he) (fun v s₁ h₁ => args_nil ?_) fun _ _ x => x
  exact wpAny_mono (h v s₁ h₁.2) (fun r s₂ h₂ => ⟨keeps_trans h₁.1 h₂.1, h₂.2⟩) fun _ _ x => x
theorem call1_type {sc : Sc} {env : Env} {ρ : Rho} {A : Around} {s : Shared} {E : Value → Shared → Prop} {name : Str} {T : String} {p pos : Pos} {a : Expr} {a' : Mine.E} {x d : D} {f : Expr → Option Mine.E}
    (G : Gl fns base mg mb fa) (J : Judged prog w base Φ k sc f) (c : Cx base k sc env ρ A s.heap) (hg : glob sc name = true) (hx : name ∈ blNames) (hv : bootBuiltins name = some (.type T))
    (ha : f a = some a') (he : ev Φ ρ a' = some x) (h : ∀ v s', V s'.heap v x → wpAny (model prog w) A (call (.type T) [v]) (Post s' d) E s') :
    wpAny (model prog w) A (eval (.Call (.Name name p) [a] [] pos) env) (Post s d) E s := by
  refine Call_ (load_builtin G c hg hx hv (callWith_type1 ?_ (starEach_plain (J.plain ha) _ _)))
  refine args_cons ?_ (starEach_plain (J.plain ha) _ _)
  refine wpAny_mono ((J.1 a a' ha).1 env ρ A s x E c he) (fun v s₁ h₁ => args_nil ?_) fun _ _ x => x
  exact wpAny_mono (h v s₁ h₁.2) (fun r s₂ h₂ => ⟨keeps_trans h₁.1 h₂.1, h₂.2⟩) fun _ _ x => x

theorem boot_len : bootBuiltins "len" = some (.builtin "len") := by decide +kernel
theorem boot_sorted : bootBuiltins "sorted" = some (.builtin "sorted") := by decide +kernel
theorem boot_isinstance : bootBuiltins "isinstance" = some (.builtin "isinstance") := by decide +kernel
theorem boot_max : bootBuiltins "max" = some (.builtin "max") := by decide +kernel
theorem boot_int : bootBuiltins "int" = some (.type "int") := by decide +kernel
theorem boot_tuple : bootBuiltins "tuple" = some (.type "tuple") := by decide +kernel
theorem boot_list : bootBuiltins "list" = some (.type "list") := by decide +kernel
theorem boot_range : bootBuiltins "range" = some (.type "range") := by decide +kernel
theorem boot_bool : bootBuiltins "bool" = some (.type "bool") := by decide +kernel
theorem boot_str : bootBuiltins "str" = some (.type "str") := by decide +kernel

theorem cTy_of {t : Str} {y : Ty} (h : cTy t = some y) : t ∈ blNames ∧ bootBuiltins t = some (.type (tyA y)) := by
  unfold cTy at h
  split at h
  · rename_i e; cases h; rw [beq_iff_eq.mp e]; exact ⟨by decide +kernel, boot_tuple⟩
  · split at h
    · rename_i e; cases h; rw [beq_iff_eq.mp e]; exact ⟨by decide +kernel, boot_int⟩
    · split at h
      · rename_i e; cases h; rw [beq_iff_eq.mp e]; exact ⟨by decide +kernel, boot_bool⟩
      · split at h
        · rename_i e; cases h; rw [beq_iff_eq.mp e]; exact ⟨by decide +kernel, boot_str⟩
        · cases h

theorem b1_ok {sc : Sc} {f : Expr → Option Mine.E} (G : Gl fns base mg mb fa) (J : Judged prog w base Φ k sc f) {name : Str} {a : Expr} {e' : Mine.E} {p pos : Pos} (hg : glob sc name = true) (h : cB1 f name a = some e') :
    EvOK prog w base Φ k sc (.Call (.Name name p) [a] [] pos) e' := by
  intro env ρ A s d E c hv
  unfold cB1 at h
  by_cases n1 : (name == ("len" : Str)) = true
  · rw [if_pos n1] at h
    have := beq_iff_eq.mp n1; subst this
    obtain ⟨a', ha, rfl⟩ := om h
    replace hv := ob hv
    obtain ⟨x, hx, hv⟩ := hv
    obtain ⟨ds, hi, rfl⟩ := om hv
    exact call1_builtin G J c hg (by decide +kernel) boot_len ha hx fun v s' hV => len_ok hV hi
  rw [if_neg n1] at h
  by_cases n2 : (name == ("int" : Str)) = true
  · rw [if_pos n2] at h
    have := beq_iff_eq.mp n2; subst this
    obtain ⟨a', ha, rfl⟩ := om h
    replace hv := ob hv
    obtain ⟨x, hx, hv⟩ := hv
    obtain ⟨b, hb, rfl⟩ := om hv
    have := isTrueD_some hb; subst this
    refine call1_type G J c hg (by decide +kernel) boot_int ha hx fun v s' hV => ?_
    have := hV.bool_inv; subst this
    exact call_int_bool post_int
  rw [if_neg n2] at h
  by_cases n3 : (name == ("tuple" : Str)) = true
  · rw [if_pos n3] at h
    have := beq_iff_eq.mp n3; subst this
    obtain ⟨a', ha, rfl⟩ := om h
    replace hv := ob hv
    obtain ⟨x, hx, hv⟩ := hv
    obtain ⟨ds, hi, rfl⟩ := om hv
    exact call1_type G J c hg (by decide +kernel) boot_tuple ha hx fun v s' hV => toTup_ok hV hi
  rw [if_neg n3] at h
  by_cases n4 : (name == ("list" : Str)) = true
  · rw [if_pos n4] at h
    have := beq_iff_eq.mp n4; subst this
    obtain ⟨a', ha, rfl⟩ := om h
    replace hv := ob hv
    obtain ⟨x, hx, hv⟩ := hv
    obtain ⟨ds, hi, rfl⟩ := om hv
    exact call1_type G J c hg (by decide +kernel) boot_list ha hx fun v s' hV => toLst_ok hV hi
  rw [if_neg n4] at h
  replace h := oi' h
  obtain ⟨n5, h⟩ := h
  have := beq_iff_eq.mp n5; subst this
  replace h := om h
  obtain ⟨a', ha, rfl⟩ := h
  replace hv := ob hv
  obtain ⟨x, hx, hv⟩ := hv
  exact call1_builtin G J c hg (by decide +kernel) boot_sorted ha hx fun v s' hV => sorted_ok hV hv

theorem isi_call {sc : Sc} {f : Expr → Option Mine.E} (G : Gl fns base mg mb fa) (J : Judged prog w base Φ k sc f) {a b : Expr} {e' : Mine.E} {p pos : Pos} (hg : glob sc "isinstance" = true) (h : cIsi f sc a b = some e') :
    EvOK prog w base Φ k sc (.Call (.Name "isinstance" p) [a, b] [] pos) e' := by
  intro env ρ A s d E c hv
  cases b <;> first | exact nns h | exact nnb h | skip
  rename_i t pt
  replace h := oi' h
  obtain ⟨hgt, h⟩ := h
  replace h := ob h
  obtain ⟨x, hx, h⟩ := h
  replace h := om h
  obtain ⟨y, hy, rfl⟩ := h
  replace hv := om hv
  obtain ⟨q, hq, rfl⟩ := hv
  obtain ⟨t1, t2⟩ := cTy_of hy
  refine Call_ (load_builtin G c hg (by decide +kernel) boot_isinstance (callWith_builtin1 ?_ (starEach_plain (J.plain hx) _ _) rfl))
  refine args_cons ?_ (starEach_plain (J.plain hx) _ _)
  refine wpAny_mono ((J.1 a x hx).1 env ρ A s q E c hq) (fun v s₁ h₁ => ?_) fun _ _ x => x
  have c1 := c.mono (keeps_heap h₁.1)
  refine args_cons (load_builtin G c1 hgt t1 t2 (args_nil ?_)) rfl
  exact wpAny_mono (isi_ok h₁.2) (fun r s₂ h₂ => ⟨keeps_trans h₁.1 h₂.1, h₂.2⟩) fun _ _ x => x

theorem b2_ok {sc : Sc} {f : Expr → Option Mine.E} (G : Gl fns base mg mb fa) (J : Judged prog w base Φ k sc f) {name : Str} {a b : Expr} {e' : Mine.E} {p pos : Pos} (hg : glob sc name = true) (h : cB2 f sc name a b = some e') :
    EvOK prog w base Φ k sc (.Call (.Name name p) [a, b] [] pos) e' := by
  unfold cB2 at h
  by_cases n1 : (name == ("isinstance" : Str)) = true
  · rw [if_pos n1] at h
    have := beq_iff_eq.mp n1; subst this
    exact isi_call G J hg h
  rw [if_neg n1] at h
  replace h := oi' h
  obtain ⟨n2, h⟩ := h
  have := beq_iff_eq.mp n2; subst this
  replace h := ob h
  obtain ⟨x, hx, h⟩ := h
  replace h := om h
  obtain ⟨y, hy, rfl⟩ := h
  intro env ρ A s d E c hv
  replace hv := ob hv
  obtain ⟨u, hu, hv⟩ := hv
  replace hv := ob hv
  obtain ⟨v', hv', hv⟩ := hv
  obtain ⟨i, j, rfl, rfl, hv⟩ := i2_some hv
  cases hv
  have e1 : starEach [b] env = [(false, eval b env)] := by rw [starEach_plain (J.plain hy)]; rfl
  refine Call_ (load_builtin G c hg (by decide +kernel) boot_max (callWith_builtin1 ?_ (starEach_plain (J.plain hx) _ _) (by rw [e1]; rfl)))
  refine args_cons ?_ (starEach_plain (J.plain hx) _ _)
  refine wpAny_mono ((J.1 a x hx).1 env ρ A s _ E c hu) (fun v s₁ h₁ => ?_) fun _ _ x => x
  have c1 := c.mono (keeps_heap h₁.1)
  refine args_cons ?_ (starEach_plain (J.plain hy) _ _)
  refine wpAny_mono ((J.1 b y hy).1 env ρ A s₁ _ E c1 hv') (fun u s₂ h₂ => args_nil ?_) fun _ _ x => x
  obtain ⟨t, rfl⟩ := h₁.2.int_inv; obtain ⟨t', rfl⟩ := h₂.2.int_inv
  exact wpAny_mono (max_ok c.ok.hand) (fun r s₃ h₃ => ⟨keeps_trans (keeps_trans h₁.1 h₂.1) h₃.1, h₃.2⟩) fun _ _ x => x

theorem call_ok {sc : Sc} {f : Expr → Option Mine.E} (G : Gl fns base mg mb fa) (hΦ : FnsOk prog w base Φ fa k) (J : Judged prog w base Φ k sc f) {name : Str} {args : List Expr} {e' : Mine.E} {p pos : Pos} (h : cCall f fns sc name args = some e') :
    EvOK prog w base Φ k sc (.Call (.Name name p) args [] pos) e' := by
  replace h := oi' h
  obtain ⟨hg, h⟩ := h
  cases hi : fns.idxOf? name with
  | none =>
    rw [hi] at h
    cases args with
    | nil => cases h
    | cons a r =>
      cases r with
      | nil => exact b1_ok G J hg h
      | cons b r' =>
        replace h := oi' h
        obtain ⟨q, h⟩ := h
        cases r' with
        | nil => exact b2_ok G J hg h
        | cons => cases q
  | some i =>
    rw [hi] at h
    cases args with
    | nil => cases h
    | cons a r =>
      obtain ⟨es, hes, rfl⟩ := om (show (cEs f (a :: r)).map (.call i) = some e' from h)
      intro env ρ A s d E c hv
      replace hv := ob hv
      obtain ⟨ds, hds, hv⟩ := hv
      replace hv := ob hv
      obtain ⟨o, ho, hv⟩ := hv
      have := okOf_some hv; subst this
      have hn := idxOf?_get hi
      obtain ⟨o, fd, h1, h2, h3⟩ := G.fn i name hn
      obtain ⟨a', ha, _⟩ := ob hes
      refine Call_ (load_fn G c hg hn (callWith_def h3 ?_ (starEach_plain (J.plain ha) _ _)))
      refine wpAny_mono (args_ok J (a :: r) es hes env ρ A s ds E pos c hds) (fun vs s₁ h₁ => ?_) fun _ _ x => x
      have c1 := c.mono (keeps_heap h₁.1)
      exact ⟨c1.ok.stays _ _ h2, wpAny_mono (hΦ i ds d A s₁ vs E ho c1.ok h₁.2) (fun r s₂ h₂ => ⟨keeps_trans h₁.1 h₂.1, h₂.2⟩) fun _ _ x => x⟩

/-- what a walk stands on -/
noncomputable def Src (Φ : Fns) (ρ : Rho) (it : It) (xv : Value) (h : Heap) (g : List Addr) : Prop :=
  ((∀ e', it ≠ .seq e') ∧ g = []) ∨ ∃ e' d ax, it = .seq e' ∧ ev Φ ρ e' = some d ∧ xv = .ref ax ∧ V h xv d ∧ g = [ax]

theorem items_len {h : Heap} {v : Value} {d : D} {ds : List D} (hv : V h v d) (hi : items d = some ds) : ds.length ≤ lim := by
  cases hv <;> cases hi <;> assumption

theorem rangeD_lim {a b : Int} (h1 : 0 ≤ a) (h2 : b ≤ lim) : (rangeD a b).length ≤ lim := by
  simp only [rangeD, List.length_map, List.length_range]; omega

abbrev ItPost (prog : Program) (w : World) (Φ : Fns) (ρ : Rho) (A : Around) (it : It) (ds : List D) (s : Shared) (xv : Value) (s₁ : Shared) : Value → Shared → Prop := fun itv s₂ =>
  ds.length ≤ lim ∧ ∃ I g, itv = .ref I ∧ Keeps s s₁ ∧ Keeps s₁ s₂ ∧ Wk prog w A s₁.heap s₂ I (I :: g) ds ∧ Src Φ ρ it xv s₁.heap g

theorem seq_ok {sc : Sc} {f : Expr → Option Mine.E} (J : Judged prog w base Φ k sc f) {iter : Expr} {e' : Mine.E} (he : f iter = some e') {env : Env} {ρ : Rho} {A : Around} {s : Shared} {ds : List D} {E : Value → Shared → Prop}
    (c : Cx base k sc env ρ A s.heap) (hv : evIt Φ ρ (.seq e') = some ds) :
    wpAny (model prog w) A (eval iter env) (fun xv s₁ => wpAny (model prog w) A (pyIter xv) (ItPost prog w Φ ρ A (.seq e') ds s xv s₁) E s₁) E s := by
  simp only [evIt] at hv
  replace hv := ob hv
  obtain ⟨d, hd, hv⟩ := hv
  replace hv := ob hv
  obtain ⟨ds', hds, hv⟩ := hv
  replace hv := oi hv
  obtain ⟨_, rfl⟩ := hv
  refine wpAny_mono ((J.1 iter e' he).1 env ρ A s d E c hd) (fun xv s₁ h₁ => ?_) fun _ _ x => x
  refine wpAny_mono (iter_seq c.ok.hand h₁.2 hds) (fun itv s₂ h₂ => ?_) fun _ _ x => x
  obtain ⟨I, ax, e1, e2, e3, e4⟩ := h₂
  exact ⟨items_len h₁.2 hds, I, [ax], e1, h₁.1, e3, e4, .inr ⟨e', d, ax, rfl, hd, e2, h₁.2, rfl⟩⟩

theorem range_ok {sc : Sc} {f : Expr → Option Mine.E} (G : Gl fns base mg mb fa) (J : Judged prog w base Φ k sc f) {args : List Expr} {it : It} {p pos : Pos} (hg : glob sc "range" = true) (h : cRange f args = some it) {env : Env} {ρ : Rho} {A : Around} {s : Shared} {ds : List D} {E : Value → Shared → Prop}
    (c : Cx base k sc env ρ A s.heap) (hv : evIt Φ ρ it = some ds) :
    wpAny (model prog w) A (eval (.Call (.Name "range" p) args [] pos) env) (fun xv s₁ => wpAny (model prog w) A (pyIter xv) (ItPost prog w Φ ρ A it ds s xv s₁) E s₁) E s := by
  cases args with
  | nil => cases h
  | cons a r =>
    cases r with
    | nil =>
      obtain ⟨a', ha, rfl⟩ := om (show (f a).map .range = some it from h)
      simp only [evIt] at hv
      replace hv := ob hv
      obtain ⟨x, hx, hv⟩ := hv
      replace hv := ob hv
      obtain ⟨n, hn, hv⟩ := hv
      have := intOf_some hn; subst this
      obtain ⟨hb, rfl⟩ := oi hv
      refine Call_ (load_builtin G c hg (by decide +kernel) boot_range (callWith_type1 ?_ (starEach_plain (J.plain ha) _ _)))
      refine args_cons ?_ (starEach_plain (J.plain ha) _ _)
      refine wpAny_mono ((J.1 a a' ha).1 env ρ A s _ E c hx) (fun v s₁ h₁ => args_nil ?_) fun _ _ x => x
      obtain ⟨k1, v1⟩ := h₁
      obtain ⟨t, rfl⟩ := v1.int_inv
      refine call_range_1 (wpAny_mono (iter_range c.ok.hand (IsRange.new _ _ _ _ _ _ _) ⟨by omega, by omega⟩ hb) (fun itv s₂ h₂ => ?_) fun _ _ x => x)
      obtain ⟨I, e1, e2, e3⟩ := h₂
      exact ⟨rangeD_lim (by omega) hb.2, I, [], e1, keeps_trans k1 (keeps_push _ _ _), e2, e3, .inl ⟨fun _ q => (by cases q), rfl⟩⟩
    | cons b r' =>
      obtain ⟨hr, h⟩ := oi' (show (if r'.isEmpty = true then (f a).bind fun x => (f b).map fun y => .range2 x y else none) = some it from h)
      cases r' with
      | cons => cases hr
      | nil =>
      replace h := ob h
      obtain ⟨x, hx, h⟩ := h
      replace h := om h
      obtain ⟨y, hy, rfl⟩ := h
      simp only [evIt] at hv
      replace hv := ob hv
      obtain ⟨u, hu, hv⟩ := hv
      replace hv := ob hv
      obtain ⟨u', hu', hv⟩ := hv
      obtain ⟨m, n, rfl, rfl, hv⟩ := i2_some hv
      replace hv := oi hv
      obtain ⟨hb, rfl⟩ := hv
      have e1 : starEach [b] env = [(false, eval b env)] := by rw [starEach_plain (J.plain hy)]; rfl
      refine Call_ (load_builtin G c hg (by decide +kernel) boot_range (callWith_type1 ?_ (starEach_plain (J.plain hx) _ _) (by rw [e1]; rfl)))
      refine args_cons ?_ (starEach_plain (J.plain hx) _ _)
      refine wpAny_mono ((J.1 a x hx).1 env ρ A s _ E c hu) (fun v s₁ h₁ => ?_) fun _ _ x => x
      have c1 := c.mono (keeps_heap h₁.1)
      refine args_cons ?_ (starEach_plain (J.plain hy) _ _)
      refine wpAny_mono ((J.1 b y hy).1 env ρ A s₁ _ E c1 hu') (fun u s₂ h₂ => args_nil ?_) fun _ _ x => x
      obtain ⟨k1, v1⟩ := h₁
      obtain ⟨k2, v2⟩ := h₂
      obtain ⟨t, rfl⟩ := v1.int_inv; obtain ⟨t', rfl⟩ := v2.int_inv
      refine call_range_2 (wpAny_mono (iter_range c.ok.hand (IsRange.new _ _ _ _ _ _ _) ⟨by omega, hb.2.1⟩ hb.2.2) (fun itv s₂ h₂ => ?_) fun _ _ x => x)
      obtain ⟨I, e1, e2, e3⟩ := h₂
      exact ⟨rangeD_lim hb.1 hb.2.2.2, I, [], e1, keeps_trans (keeps_trans k1 k2) (keeps_push _ _ _), e2, e3, .inl ⟨fun _ q => (by cases q), rfl⟩⟩

/-- an iterable -/
theorem it_ok {sc : Sc} {f : Expr → Option Mine.E} (G : Gl fns base mg mb fa) (J : Judged prog w base Φ k sc f) {iter : Expr} {it : It} (h : cIt f sc iter = some it) {env : Env} {ρ : Rho} {A : Around} {s : Shared} {ds : List D} {E : Value → Shared → Prop}
    (c : Cx base k sc env ρ A s.heap) (hv : evIt Φ ρ it = some ds) :
    (∀ x, foldedSetIterable iter env x = pure x) ∧
    wpAny (model prog w) A (eval iter env) (fun xv s₁ => wpAny (model prog w) A (pyIter xv) (ItPost prog w Φ ρ A it ds s xv s₁) E s₁) E s := by
  have seq : (f iter).map .seq = some it → wpAny (model prog w) A (eval iter env) (fun xv s₁ => wpAny (model prog w) A (pyIter xv) (ItPost prog w Φ ρ A it ds s xv s₁) E s₁) E s := fun h => by
    obtain ⟨e', he, rfl⟩ := om h
    exact seq_ok J he c hv
  cases iter with
  | Call fn args kws pos =>
    refine ⟨fun _ => rfl, ?_⟩
    by_cases hr : nameIs "range" fn = true
    · obtain ⟨p, rfl⟩ := nameIs_some hr
      have h : (if nameIs "range" (.Name "range" p) = true then (if glob sc "range" = true ∧ kws.isEmpty = true then cRange f args else none) else (f (.Call (.Name "range" p) args kws pos)).map .seq) = some it := h
      rw [if_pos hr] at h
      obtain ⟨⟨hg, hk⟩, h2⟩ := oi' h
      cases kws with
      | cons => cases hk
      | nil => exact range_ok G J hg h2 c hv
    · have h : (if nameIs "range" fn = true then (if glob sc "range" = true ∧ kws.isEmpty = true then cRange f args else none) else (f (.Call fn args kws pos)).map .seq) = some it := h
      rw [if_neg hr] at h
      exact seq h
  | Name x p => exact ⟨fun _ => rfl, seq h⟩
  | Subscript => exact ⟨fun _ => rfl, seq h⟩
  | BinOp => exact ⟨fun _ => rfl, seq h⟩
  | List => exact ⟨fun _ => rfl, seq h⟩
  | _ => exact nns h
end
end Mine

namespace Mine
open PySem PySem.Calls PyProof.Rows PySem.SeqAt

section
variable {prog : Program} {w : World} {base : Heap} {fns : List Str} {mg mb : Str → Option Value} {fa : Nat → Addr} {Φ : Fns} {k : Nat}

theorem units8 {A : Around} {h : Heap} (o : Ok base k A h) : A.units + 8 < cLine := by have := o.units; omega

/-- what a chain of two gives -/
theorem chain_parts {ρ : Rho} {a b c : Mine.E} {o₁ o₂ : Cm} {d : D} (hv : ev Φ ρ (.chain o₁ o₂ a b c) = some d) : ∃ x y p, ev Φ ρ a = some x ∧ ev Φ ρ b = some y ∧ evCmp o₁ x y = some p ∧
    ((p = true ∧ ∃ z r, ev Φ ρ c = some z ∧ evCmp o₂ y z = some r ∧ d = .bool r) ∨ (p = false ∧ d = .bool false)) := by
  replace hv := ob hv
  obtain ⟨x, hx, hv⟩ := hv
  replace hv := ob hv
  obtain ⟨y, hy, hv⟩ := hv
  replace hv := ob hv
  obtain ⟨p, hp, hv⟩ := hv
  refine ⟨x, y, p, hx, hy, hp, ?_⟩
  cases p with
  | true =>
    rw [if_pos rfl] at hv
    replace hv := ob hv
    obtain ⟨z, hz, hv⟩ := hv
    obtain ⟨r, hr, rfl⟩ := om hv
    exact .inl ⟨rfl, z, r, hz, hr, rfl⟩
  | false => cases hv; exact .inr ⟨rfl, rfl⟩

theorem chain_eval {sc : Sc} {f : Expr → Option Mine.E} (J : Judged prog w base Φ k sc f) {l r₁ r₂ : Expr} {a b c : Mine.E} {o₁ o₂ : Cm} {pos : Pos} (hl : f l = some a) (h1 : f r₁ = some b) (h2 : f r₂ = some c) :
    EvOK prog w base Φ k sc (.Compare l [cmA o₁, cmA o₂] [r₁, r₂] pos) (.chain o₁ o₂ a b c) ∧ TrOK prog w base Φ k sc (.Compare l [cmA o₁, cmA o₂] [r₁, r₂] pos) (.chain o₁ o₂ a b c) := by
  have marks : lastMarks [cmA o₁, cmA o₂] [r₁, r₂] = false := cmA_marks o₂ r₂
  constructor
  · intro env ρ A s d E cx hv
    obtain ⟨x, y, p, hx, hy, hc, hrest⟩ := chain_parts hv
    refine Compare_chain (wpAny_mono ((J.1 l a hl).1 env ρ A s x E cx hx) (fun lv s₁ q₁ => ?_) fun _ _ x => x) marks
    have c1 := cx.mono (keeps_heap q₁.1)
    show wpAny _ _ (do
      let rv ← holding [lv] (eval r₁ env)
      standAt pos
      let c ← holding [lv, rv] (compareOp (cmA o₁) lv rv)
      release [lv, rv] [c]
      if ← holding [c, rv] (truthy c) then compareChain pos rv [cmA o₂] [eval r₂ env] else pure c) _ _ _
    refine wpAny_bind (wpAny_holding (wpAny_mono ((J.1 r₁ b h1).1 env ρ A s₁ y E c1 hy) (fun rv s₂ q₂ => wpAny_bind (wpAny_standAt (wpAny_bind (wpAny_holding ?_)))) fun _ _ x => x))
    have k12 := keeps_trans q₁.1 q₂.1
    have c2 := cx.mono (keeps_heap k12)
    refine wpAny_mono (cmp_ok (q₁.2.mono (keeps_heap q₂.1)) q₂.2 hc (units8 c2.ok)) (fun cv s₃ q₃ => wpAny_bind (wpAny_release (wpAny_bind (wpAny_holding ?_)))) fun _ _ x => x
    obtain ⟨rfl, k3⟩ := q₃
    refine wpAny_truthy_bool ?_
    have k13 := keeps_trans k12 k3
    rcases hrest with ⟨rfl, z, r, hz, hr, rfl⟩ | ⟨rfl, rfl⟩
    · rw [if_pos rfl]
      have c3 := cx.mono (keeps_heap k13)
      show wpAny _ _ (do
        let rv' ← holding [rv] (eval r₂ env)
        standAt pos
        operate [rv, rv'] (compareOp (cmA o₂) rv rv')) _ _ _
      refine wpAny_bind (wpAny_holding (wpAny_mono ((J.1 r₂ c h2).1 env ρ A s₃ z E c3 hz) (fun rv' s₄ q₄ => wpAny_bind (wpAny_standAt (wpAny_operate' ?_))) fun _ _ x => x))
      have k14 := keeps_trans k13 q₄.1
      refine wpAny_mono (cmp_ok (q₂.2.mono (keeps_heap (keeps_trans k3 q₄.1))) q₄.2 hr (units8 (cx.mono (keeps_heap k14)).ok)) (fun cv s₅ q₅ => ?_) fun _ _ x => x
      obtain ⟨rfl, k5⟩ := q₅
      exact ⟨keeps_trans k14 k5, .bool _⟩
    · exact wpAny_pure ⟨k13, .bool _⟩
  · intro env ρ A s t E cx hv
    obtain ⟨x, y, p, hx, hy, hc, hrest⟩ := chain_parts hv
    refine isTrue_chain (wpAny_mono ((J.1 l a hl).1 env ρ A s x E cx hx) (fun lv s₁ q₁ => ?_) fun _ _ x => x) marks
    have c1 := cx.mono (keeps_heap q₁.1)
    show wpAny _ _ (do
      let rv ← holding [lv] (eval r₁ env)
      standAt pos
      let c ← holding [lv, rv] (compareOp (cmA o₁) lv rv)
      release [lv, rv] [c]
      if ← holding [c, rv] (truthy c) then testChain pos rv [cmA o₂] [eval r₂ env] else pure false) _ _ _
    refine wpAny_bind (wpAny_holding (wpAny_mono ((J.1 r₁ b h1).1 env ρ A s₁ y E c1 hy) (fun rv s₂ q₂ => wpAny_bind (wpAny_standAt (wpAny_bind (wpAny_holding ?_)))) fun _ _ x => x))
    have k12 := keeps_trans q₁.1 q₂.1
    have c2 := cx.mono (keeps_heap k12)
    refine wpAny_mono (cmp_ok (q₁.2.mono (keeps_heap q₂.1)) q₂.2 hc (units8 c2.ok)) (fun cv s₃ q₃ => wpAny_bind (wpAny_release (wpAny_bind (wpAny_holding ?_)))) fun _ _ x => x
    obtain ⟨rfl, k3⟩ := q₃
    refine wpAny_truthy_bool ?_
    have k13 := keeps_trans k12 k3
    rcases hrest with ⟨rfl, z, r, hz, hr, he⟩ | ⟨rfl, he⟩
    · cases he
      rw [if_pos rfl]
      have c3 := cx.mono (keeps_heap k13)
      show wpAny _ _ (do
        let rv' ← holding [rv] (eval r₂ env)
        standAt pos
        let c ← operate [rv, rv'] (compareOp (cmA o₂) rv rv')
        holding [c] (truthy c)) _ _ _
      refine wpAny_bind (wpAny_holding (wpAny_mono ((J.1 r₂ c h2).1 env ρ A s₃ z E c3 hz) (fun rv' s₄ q₄ => wpAny_bind (wpAny_standAt (wpAny_bind (wpAny_operate' ?_)))) fun _ _ x => x))
      have k14 := keeps_trans k13 q₄.1
      refine wpAny_mono (cmp_ok (q₂.2.mono (keeps_heap (keeps_trans k3 q₄.1))) q₄.2 hr (units8 (cx.mono (keeps_heap k14)).ok)) (fun cv s₅ q₅ => wpAny_holding ?_) fun _ _ x => x
      obtain ⟨rfl, k5⟩ := q₅
      exact wpAny_truthy_bool ⟨rfl, keeps_trans k14 k5⟩
    · cases he
      exact wpAny_pure ⟨rfl, k13⟩

theorem cmp1_ok {sc : Sc} {f : Expr → Option Mine.E} (J : Judged prog w base Φ k sc f) {l r : Expr} {a b : Mine.E} {o : Cm} {pos : Pos} (ha : f l = some a) (hb : f r = some b) :
    EvOK prog w base Φ k sc (.Compare l [cmA o] [r] pos) (.cmp o a b) ∧ TrOK prog w base Φ k sc (.Compare l [cmA o] [r] pos) (.cmp o a b) := by
  constructor
  · intro env ρ A s d E c hv
    replace hv := ob hv
    obtain ⟨x, hx, hv⟩ := hv
    replace hv := ob hv
    obtain ⟨y, hy, hv⟩ := hv
    obtain ⟨t, ht, rfl⟩ := om hv
    refine wpAny_Compare1 (wpAny_mono ((J.1 l a ha).1 env ρ A s x E c hx) (fun lv s₁ q₁ => wpAny_mono ((J.1 r b hb).1 env ρ A s₁ y E (c.mono (keeps_heap q₁.1)) hy) (fun rv s₂ q₂ => ?_) fun _ _ x => x) fun _ _ x => x) (cmA_marks o r)
    have k2 := keeps_trans q₁.1 q₂.1
    refine wpAny_mono (cmp_ok (q₁.2.mono (keeps_heap q₂.1)) q₂.2 ht (units8 (c.mono (keeps_heap k2)).ok)) (fun v s₃ q₃ => ?_) fun _ _ x => x
    obtain ⟨rfl, k3⟩ := q₃
    exact ⟨keeps_trans k2 k3, .bool _⟩
  · intro env ρ A s t E c hv
    replace hv := ob hv
    obtain ⟨x, hx, hv⟩ := hv
    replace hv := ob hv
    obtain ⟨y, hy, hv⟩ := hv
    replace hv := om hv
    obtain ⟨t', ht, he⟩ := hv
    cases he
    refine wpAny_isTrue_Compare1 (wpAny_mono ((J.1 l a ha).1 env ρ A s x E c hx) (fun lv s₁ q₁ => wpAny_mono ((J.1 r b hb).1 env ρ A s₁ y E (c.mono (keeps_heap q₁.1)) hy) (fun rv s₂ q₂ => ?_) fun _ _ x => x) fun _ _ x => x) (cmA_marks o r)
    have k2 := keeps_trans q₁.1 q₂.1
    refine wpAny_mono (cmp_ok (q₁.2.mono (keeps_heap q₂.1)) q₂.2 ht (units8 (c.mono (keeps_heap k2)).ok)) (fun v s₃ q₃ => ?_) fun _ _ x => x
    obtain ⟨rfl, k3⟩ := q₃
    exact wpAny_truthy_bool ⟨rfl, keeps_trans k2 k3⟩

theorem sliced {s : Shared} {A : Around} {E : Value → Shared → Prop} {a : Value} {ds : List D} {vl vu : Value} {lo hi : Option Int} {value : Expr} {l u : Option Expr} {p : Pos} (h0 : V s.heap a (.tup ds)) (pl : IsPart vl lo) (pu : IsPart vu hi)
    (h1 : ∀ i, lo = some i → 0 ≤ i) (h2 : ∀ i, hi = some i → 0 ≤ i) :
    wpAny (model prog w) A (subscriptTail value (.Slice l u none p) a (.ref s.heap.objs.size)) (Post s (.tup (cut ds lo hi))) E { s with heap := s.heap.push { cls := .type "slice", data := .fields #[vl, vu, .none] } } := by
  have hk : Keeps s { s with heap := s.heap.push { cls := .type "slice", data := .fields #[vl, vu, .none] } } := keeps_push s _ s.toks
  have h0' := h0.mono (keeps_heap hk)
  obtain ⟨T, id, t1, t2⟩ := getitem_look h0' rfl
  refine tail_any t1 t2 (wpAny_mono (cut_ok h0' (Heap.IsSliceOf.new ..) pl pu h1 h2) (fun v s' q => ⟨keeps_trans hk q.1, q.2⟩) fun _ _ x => x) rfl

section
variable {sc : Sc} {f : Expr → Option Mine.E} (J : Judged prog w base Φ k sc f)

include J in
theorem unary_ok {op : UnaryOp} {x : Expr} {pos : Pos} {e' : Mine.E} (h : cUn op (f x) = some e') : EvOK prog w base Φ k sc (.UnaryOp op x pos) e' ∧ TrOK prog w base Φ k sc (.UnaryOp op x pos) e' := by
  cases op with
  | USub =>
    obtain ⟨a, ha, rfl⟩ := om (show (f x).map .neg = some e' from h)
    have : EvOK prog w base Φ k sc (.UnaryOp .USub x pos) (.neg a) := by
      intro env ρ A s d E c hv
      replace hv := ob hv
      obtain ⟨i, hi, hv⟩ := hv
      obtain ⟨j, hj, rfl⟩ := om hv
      have := intOf_some hj; subst this
      refine wpAny_UnaryOp (wpAny_mono ((J.1 x a ha).1 env ρ A s _ E c hi) (fun v s₁ q₁ => ?_) fun _ _ x => x)
      obtain ⟨k1, v1⟩ := q₁
      obtain ⟨t, rfl⟩ := v1.int_inv
      exact P.neg_int ⟨keeps_trans k1 (keeps_toks _ _), .int _ _⟩
    exact ⟨this, tr_plain this fun _ _ => rfl⟩
  | Not =>
    obtain ⟨a, ha, rfl⟩ := om (show (f x).map .not = some e' from h)
    constructor
    · intro env ρ A s d E c hv
      replace hv := ob hv
      obtain ⟨i, hi, hv⟩ := hv
      obtain ⟨b, hb, rfl⟩ := om hv
      have := isTrueD_some hb; subst this
      refine wpAny_UnaryOp (wpAny_mono ((J.1 x a ha).1 env ρ A s _ E c hi) (fun v s₁ q₁ => ?_) fun _ _ x => x)
      obtain ⟨k1, v1⟩ := q₁
      have := v1.bool_inv; subst this
      exact not_of (wpAny_truthy_bool ⟨k1, .bool _⟩)
    · intro env ρ A s b E c hv
      replace hv := ob hv
      obtain ⟨i, hi, hv⟩ := hv
      replace hv := om hv
      obtain ⟨b', hb, he⟩ := hv
      have := isTrueD_some hb; subst this
      cases he
      refine isTrue_not (wpAny_mono ((J.1 x a ha).2 env ρ A s _ E c hi) (fun v s₁ q₁ => ?_) fun _ _ x => x)
      obtain ⟨rfl, k1⟩ := q₁
      exact ⟨rfl, k1⟩
  | _ => exact nns h

include J in
theorem compare_ok {l : Expr} {ops : List CmpOp} {rs : List Expr} {pos : Pos} {e' : Mine.E} (h : cCmpE f l ops rs = some e') : EvOK prog w base Φ k sc (.Compare l ops rs pos) e' ∧ TrOK prog w base Φ k sc (.Compare l ops rs pos) e' := by
  replace h := ob h
  obtain ⟨c, _, h⟩ := h
  cases c with
  | one op r =>
    replace h := ob h
    obtain ⟨o, ho, h⟩ := h
    replace h := ob h
    obtain ⟨a, ha, h⟩ := h
    obtain ⟨b, hb, rfl⟩ := om h
    have := cmA_of ho; subst this
    exact cmp1_ok J ha hb
  | two op₁ op₂ r₁ r₂ =>
    replace h := ob h
    obtain ⟨o₁, ho₁, h⟩ := h
    replace h := ob h
    obtain ⟨o₂, ho₂, h⟩ := h
    replace h := ob h
    obtain ⟨a, ha, h⟩ := h
    replace h := ob h
    obtain ⟨b, hb, h⟩ := h
    replace h := om h
    obtain ⟨c, hc, rfl⟩ := h
    have := cmA_of ho₁; subst this
    have := cmA_of ho₂; subst this
    exact chain_eval J ha hb hc

include J in
theorem slice_ok {v : Expr} {lo hi : Option Expr} {p pos : Pos} {e' : Mine.E} (h : cSlice f v lo hi = some e') : EvOK prog w base Φ k sc (.Subscript v (.Slice lo hi none p) pos) e' := by
  replace h := ob h
  obtain ⟨a, ha, h⟩ := h
  intro env ρ A s d E c hv
  cases lo with
  | some lo =>
    obtain ⟨l', hl, h⟩ := ob (show ((f lo).bind _) = some e' from h)
    cases hi with
    | some hi =>
      obtain ⟨h', hh, rfl⟩ := om (show (f hi).map _ = some e' from h)
      replace hv := ob hv
      obtain ⟨x, hx, hv⟩ := hv
      replace hv := ob hv
      obtain ⟨y, hy, hv⟩ := hv
      replace hv := ob hv
      obtain ⟨z, hz, hv⟩ := hv
      replace hv := ob hv
      obtain ⟨ds, hds, hv⟩ := hv
      replace hv := ob hv
      obtain ⟨i, hi', hv⟩ := hv
      replace hv := ob hv
      obtain ⟨j, hj, hv⟩ := hv
      have := tupOf_some hds; subst this
      have := intOf_some hi'; subst this
      have := intOf_some hj; subst this
      obtain ⟨hb, rfl⟩ := oi hv
      refine Subscript_ (wpAny_mono ((J.1 v a ha).1 env ρ A s _ E c hx) (fun o s₁ q₁ => wpAny_Slice ?_) fun _ _ x => x)
      rw [evalPart_some, evalPart_some, evalPart_none]
      refine wpAny_mono ((J.1 _ l' hl).1 env ρ A s₁ _ E (c.mono (keeps_heap q₁.1)) hy) (fun lv s₂ q₂ => ?_) fun _ _ x => x
      refine wpAny_mono ((J.1 _ h' hh).1 env ρ A s₂ _ E (c.mono (keeps_heap (keeps_trans q₁.1 q₂.1))) hz) (fun hv s₃ q₃ => wpAny_pure ?_) fun _ _ x => x
      obtain ⟨k1, v1⟩ := q₁; obtain ⟨k2, v2⟩ := q₂; obtain ⟨k3, v3⟩ := q₃
      obtain ⟨t, rfl⟩ := v2.int_inv; obtain ⟨t', rfl⟩ := v3.int_inv
      exact wpAny_mono (sliced (v1.mono (keeps_heap (keeps_trans k2 k3))) (.int i _) (.int j _) (fun _ e => by cases e; exact hb.1) (fun _ e => by cases e; exact hb.2)) (fun r s₄ q₄ => ⟨keeps_trans (keeps_trans k1 (keeps_trans k2 k3)) q₄.1, q₄.2⟩) fun _ _ x => x
    | none =>
      cases h
      replace hv := ob hv
      obtain ⟨x, hx, hv⟩ := hv
      replace hv := ob hv
      obtain ⟨y, hy, hv⟩ := hv
      replace hv := ob hv
      obtain ⟨ds, hds, hv⟩ := hv
      replace hv := ob hv
      obtain ⟨i, hi', hv⟩ := hv
      have := tupOf_some hds; subst this
      have := intOf_some hi'; subst this
      obtain ⟨hb, rfl⟩ := oi hv
      refine Subscript_ (wpAny_mono ((J.1 v a ha).1 env ρ A s _ E c hx) (fun o s₁ q₁ => wpAny_Slice ?_) fun _ _ x => x)
      rw [evalPart_some, evalPart_none]
      refine wpAny_mono ((J.1 _ l' hl).1 env ρ A s₁ _ E (c.mono (keeps_heap q₁.1)) hy) (fun lv s₂ q₂ => wpAny_pure (wpAny_pure ?_)) fun _ _ x => x
      obtain ⟨k1, v1⟩ := q₁; obtain ⟨k2, v2⟩ := q₂
      obtain ⟨t, rfl⟩ := v2.int_inv
      exact wpAny_mono (sliced (v1.mono (keeps_heap k2)) (.int i _) .none (fun _ e => by cases e; exact hb) (fun _ e => by cases e)) (fun r s₄ q₄ => ⟨keeps_trans (keeps_trans k1 k2) q₄.1, q₄.2⟩) fun _ _ x => x
  | none =>
    cases hi with
    | none => cases h
    | some hi =>
      obtain ⟨h', hh, rfl⟩ := om (show (f hi).map _ = some e' from h)
      replace hv := ob hv
      obtain ⟨x, hx, hv⟩ := hv
      replace hv := ob hv
      obtain ⟨y, hy, hv⟩ := hv
      replace hv := ob hv
      obtain ⟨ds, hds, hv⟩ := hv
      replace hv := ob hv
      obtain ⟨i, hi', hv⟩ := hv
      have := tupOf_some hds; subst this
      have := intOf_some hi'; subst this
      replace hv := oi hv
      obtain ⟨hb, rfl⟩ := hv
      refine Subscript_ (wpAny_mono ((J.1 v a ha).1 env ρ A s _ E c hx) (fun o s₁ q₁ => wpAny_Slice ?_) fun _ _ x => x)
      rw [evalPart_some, evalPart_none]
      refine wpAny_pure (wpAny_mono ((J.1 _ h' hh).1 env ρ A s₁ _ E (c.mono (keeps_heap q₁.1)) hy) (fun lv s₂ q₂ => wpAny_pure ?_) fun _ _ x => x)
      obtain ⟨k1, v1⟩ := q₁; obtain ⟨k2, v2⟩ := q₂
      obtain ⟨t, rfl⟩ := v2.int_inv
      exact wpAny_mono (sliced (v1.mono (keeps_heap k2)) .none (.int i _) (fun _ e => by cases e) (fun _ e => by cases e; exact hb)) (fun r s₄ q₄ => ⟨keeps_trans (keeps_trans k1 k2) q₄.1, q₄.2⟩) fun _ _ x => x

include J in
theorem sub_ok {v sl : Expr} {pos : Pos} {e' : Mine.E} (h : cSubE f v sl = some e') : EvOK prog w base Φ k sc (.Subscript v sl pos) e' := by
  unfold cSubE at h
  by_cases hs : isSlice sl = true
  · rw [if_pos hs] at h
    cases sl <;> first | exact nns hs | exact nnb hs | skip
    rename_i lo hi st p
    obtain ⟨hst, h2⟩ := oi' (show (if st.isNone = true then cSlice f v lo hi else none) = some e' from h)
    cases st with
    | none => exact slice_ok J h2
    | some => cases hst
  · rw [if_neg hs] at h
    replace h := ob h
    obtain ⟨a, ha, h⟩ := h
    replace h := om h
    obtain ⟨b, hb, rfl⟩ := h
    have hns : ∀ a b c d, sl ≠ .Slice a b c d := by rintro a b c d rfl; exact hs rfl
    intro env ρ A s d E c hv
    replace hv := ob hv
    obtain ⟨x, hx, hv⟩ := hv
    replace hv := ob hv
    obtain ⟨y, hy, hv⟩ := hv
    refine Subscript_ (wpAny_mono ((J.1 v a ha).1 env ρ A s _ E c hx) (fun o s₁ q₁ => wpAny_mono ((J.1 _ b hb).1 env ρ A s₁ _ E (c.mono (keeps_heap q₁.1)) hy) (fun iv s₂ q₂ => ?_) fun _ _ x => x) fun _ _ x => x)
    have v1 := q₁.2.mono (keeps_heap q₂.1)
    obtain ⟨ds, hds⟩ := evIdx_items hv
    obtain ⟨T, id, t1, t2⟩ := getitem_look v1 hds
    exact tail_any t1 t2 (wpAny_mono (idx_ok v1 q₂.2 hv) (fun r s₃ q₃ => ⟨keeps_trans (keeps_trans q₁.1 q₂.1) q₃.1, q₃.2⟩) fun _ _ x => x) (sub_plain hns)
end
end
end Mine

namespace Mine
open PySem PySem.Calls PyProof.Rows PySem.SeqAt

section
variable {prog : Program} {w : World} {base : Heap} {fns : List Str} {mg mb : Str → Option Value} {fa : Nat → Addr} {Φ : Fns} {k : Nat}

theorem str2_some {ds : List D} {p : Str × Str} (h : str2 ds = some p) : ds = [.str p.1, .str p.2] := by
  cases ds with
  | nil => cases h
  | cons x r =>
    cases r with
    | nil => cases h
    | cons y r =>
      cases r with
      | cons => cases h
      | nil =>
        obtain ⟨a, ha, h⟩ := ob (show ((strOf x).bind fun a => (strOf y).map fun b => (a, b)) = some p from h)
        replace h := om h
        obtain ⟨b, hb, rfl⟩ := h
        rw [strOf_some ha, strOf_some hb]

theorem meth_ok {sc : Sc} {f : Expr → Option Mine.E} (J : Judged prog w base Φ k sc f) {o : Expr} {at' : Str} {apos pos : Pos} {args : List Expr} {e' : Mine.E} (hl : isList o = true) (h : cIndex f o at' apos pos args = some e') :
    EvOK prog w base Φ k sc (.Call (.Attribute o at' apos) args [] pos) e' := by
  cases o <;> first | exact nns hl | exact nnb hl | skip
  rename_i os op
  cases args with
  | nil => cases h
  | cons a r =>
    obtain ⟨⟨hr, hat, hline⟩, h2⟩ := oi' (show (if r.isEmpty = true ∧ at' = ("index" : Str) ∧ (apos.endLine == pos.line) = true then (f (.List os op)).bind fun x => (f a).map fun y => .index x y else none) = some e' from h)
    subst hat
    cases r with
    | cons => cases hr
    | nil =>
    replace h2 := ob h2
    obtain ⟨x, hx, h3⟩ := h2
    replace h3 := om h3
    obtain ⟨y, hy, rfl⟩ := h3
    intro env ρ A s d E c hv
    replace hv := ob hv
    obtain ⟨u, hu, hv⟩ := hv
    replace hv := ob hv
    obtain ⟨z', hz', hv⟩ := hv
    replace hv := ob hv
    obtain ⟨ds, hds, hv⟩ := hv
    replace hv := ob hv
    obtain ⟨p, hp, hv⟩ := hv
    replace hv := ob hv
    obtain ⟨sz, hsz, hv5⟩ := hv
    have := lstOf_some hds; subst this
    have := str2_some hp; subst this
    have := strOf_some hsz; subst this
    have fin : ∀ j : Nat, ((sz = p.1 ∧ j = 0) ∨ (sz ≠ p.1 ∧ sz = p.2 ∧ j = 1)) → d = .int j → wpAny (model prog w) A (eval (.Call (.Attribute (.List os op) "index" apos) [a] [] pos) env) (Post s d) E s := by
      rintro j hj rfl
      refine Call_method1 rfl (by rw [starEach_plain (J.plain hy)]; rfl) hline (wpAny_mono ((J.1 _ x hx).1 env ρ A s _ E c hu) (fun ov s₁ q₁ => ?_) fun _ _ x => x)
      have hV := q₁.2
      refine ⟨"list", "list.index", PySem.F.plainAttrs_list, PySem.F.slot_list_index, PySem.F.type_list_index, ?_, ?_, ?_⟩
      · cases hV; rename_i hp _ _; exact Heap.IsList.typeIs hp.isList
      · intro b e
        cases hV
        rename_i hp _ _
        cases e
        obtain ⟨n, ho⟩ := hp
        exact ⟨_, ho, rfl⟩
      · refine callWith_builtin (by rfl) (evalArgs_plain (spliced_cons ?_))
        refine wpAny_mono ((J.1 a y hy).1 env ρ A s₁ _ E (c.mono (keeps_heap q₁.1)) hz') (fun iv s₂ q₂ => spliced_nil ?_) fun _ _ x => x
        exact wpAny_mono (index_ok (hV.mono (keeps_heap q₂.1)) q₂.2 hj) (fun r s₃ q₃ => ⟨keeps_trans (keeps_trans q₁.1 q₂.1) q₃.1, q₃.2⟩) fun _ _ x => x
    by_cases e1 : sz = p.1
    · rw [if_pos e1] at hv5; cases hv5
      exact fin 0 (.inl ⟨e1, rfl⟩) rfl
    · rw [if_neg e1] at hv5
      replace hv5 := oi hv5
      obtain ⟨e2, rfl⟩ := hv5
      exact fin 1 (.inr ⟨e1, e2, rfl⟩) rfl

/-- what a comprehension is made of -/
theorem cComp_parts {g : Sc → Expr → Option Mine.E} {sc : Sc} {elt : Expr} {scope : Scope} {gens : List Comprehension} {e' : Mine.E} (h : cComp g sc elt scope gens = some e') :
    ∃ x px iter ifs it el cd, gens = [⟨.Name x px, iter, ifs, 0⟩] ∧ compOk sc scope x = true ∧ cIt (g sc) sc iter = some it ∧ g (compSc sc scope.names x) elt = some el ∧ e' = .comp el it cd ∧
      ((ifs = [] ∧ cd = .k (.bool true)) ∨ ∃ t, ifs = [t] ∧ g (compSc sc scope.names x) t = some cd) := by
  cases gens with
  | nil => cases h
  | cons c r =>
    obtain ⟨tg, iter, ifs, asy⟩ := c
    replace h := oi' h
    obtain ⟨⟨hr, ha⟩, h⟩ := h
    cases r with
    | cons => cases hr
    | nil =>
    have ha : asy = 0 := ha
    subst ha
    replace h := ob h
    obtain ⟨x, hx, h⟩ := h
    obtain ⟨px, hx'⟩ := nameOf_some hx
    have hx' : tg = .Name x px := hx'
    subst hx'
    replace h := oi' h
    obtain ⟨ho, h⟩ := h
    replace h := ob h
    obtain ⟨it, hit, h⟩ := h
    replace h := ob h
    obtain ⟨el, hel, h⟩ := h
    cases ifs with
    | nil => cases h; exact ⟨x, px, iter, [], it, el, _, rfl, ho, hit, hel, rfl, .inl ⟨rfl, rfl⟩⟩
    | cons t r =>
      obtain ⟨hr, h⟩ := oi' (show (if r.isEmpty = true then (g (compSc sc scope.names x) t).map fun cd => E.comp el it cd else none) = some e' from h)
      cases r with
      | cons => cases hr
      | nil =>
        replace h := om h
        obtain ⟨cd, hcd, rfl⟩ := h
        exact ⟨x, px, iter, [t], it, el, cd, rfl, ho, hit, hel, rfl, .inr ⟨t, rfl, hcd⟩⟩

theorem ev_comp_parts {ρ : Rho} {el cd : Mine.E} {it : It} {d : D} (hv : ev Φ ρ (.comp el it cd) = some d) : ∃ ds res, evIt Φ ρ it = some ds ∧ compO (fun d => (ev Φ (ρ ++ [some (.dat d)]) cd).bind isTrueD) (fun d => ev Φ (ρ ++ [some (.dat d)]) el) ds = some res ∧ D.pures res = true ∧ d = .lst res := by
  replace hv := ob hv
  obtain ⟨ds, hds, hv⟩ := hv
  replace hv := ob hv
  obtain ⟨res, hres, hv⟩ := hv
  replace hv := oi hv
  obtain ⟨hp, rfl⟩ := hv
  exact ⟨ds, res, hds, hres, hp, rfl⟩

theorem it_simple {A : Around} {s : Shared} {E : Value → Shared → Prop} {env : Env} {ρ : Rho} {iter : Expr} {it : It} {ds : List D}
    (h : wpAny (model prog w) A (eval iter env) (fun xv s₁ => wpAny (model prog w) A (pyIter xv) (ItPost prog w Φ ρ A it ds s xv s₁) E s₁) E s) :
    wpAny (model prog w) A (eval iter env) (fun xv s₁ => wpAny (model prog w) A (pyIter xv) (fun itv s₂ => ds.length ≤ lim ∧ ∃ I fp, itv = .ref I ∧ Keeps s s₁ ∧ Keeps s₁ s₂ ∧ Wk prog w A s₁.heap s₂ I fp ds) E s₁) E s :=
  wpAny_mono h (fun xv s₁ h₁ => wpAny_mono h₁ (fun itv s₂ h₂ => let ⟨a, I, g, b, c, d, e, _⟩ := h₂; ⟨a, I, _, b, c, d, e⟩) fun _ _ x => x) fun _ _ x => x

theorem ev_sound (G : Gl fns base mg mb fa) (hΦ : FnsOk prog w base Φ fa k) : ∀ (n : Nat) (sc : Sc), Judged prog w base Φ k sc (cE fns n sc)
  | 0, sc => ⟨(fun e e' h => by cases h), (fun _ _ => rfl)⟩
  | n + 1, sc => by
    have J := ev_sound G hΦ n sc
    refine ⟨fun e e' h => ?_, fun _ _ => rfl⟩
    cases e with
    | Constant cn k' pos =>
      obtain ⟨d', hd, rfl⟩ := om (show (cConst cn).map .k = some e' from h)
      have : EvOK prog w base Φ k sc (.Constant cn k' pos) (.k d') := by
        intro env ρ A s d E c hv
        have hv : some d' = some d := hv
        cases hv
        cases cn <;> first | exact nns hd | exact nnb hd | skip
        · cases hd; exact wpAny_pure ⟨keeps_refl s, .none⟩
        · cases hd; exact wpAny_pure ⟨keeps_refl s, .bool _⟩
        · cases hd; exact wpAny_Constant_int post_int
        · cases hd; exact Constant_str ⟨keeps_toks s _, .str _ _⟩
      exact ⟨this, tr_plain this fun _ _ => rfl⟩
    | Name x pos =>
      obtain ⟨hvk, hx⟩ := oi' (show (if (isVarK (sc.kd.lookup x) && !(x == ("__debug__" : Str))) = true then (sc.ix.lookup x).map .v else none) = some e' from h)
      simp only [Bool.and_eq_true, Bool.not_eq_true'] at hvk
      obtain ⟨i, hi, rfl⟩ := om hx
      have : EvOK prog w base Φ k sc (.Name x pos) (.v i) := by
        intro env ρ A s d E c hv
        obtain ⟨lo, hlo, rfl⟩ := om hv
        obtain ⟨v, ha, hV⟩ := c.binds x i lo hvk.1 hi hlo
        exact load_var (sc := sc) (ρ := ρ) c.kind ha ⟨keeps_refl s, hV⟩ hvk.2
      exact ⟨this, tr_plain this fun _ _ => rfl⟩
    | BinOp l op r pos =>
      obtain ⟨o, ho, h⟩ := ob (show ((cOp op).bind fun o => (cE fns n sc l).bind fun a => (cE fns n sc r).map fun b => .bin o a b) = some e' from h)
      replace h := ob h
      obtain ⟨a, ha, h⟩ := h
      obtain ⟨b, hb, rfl⟩ := om h
      have := opA_of ho; subst this
      have : EvOK prog w base Φ k sc (.BinOp l (opA o) r pos) (.bin o a b) := by
        intro env ρ A s d E c hv
        replace hv := ob hv
        obtain ⟨x, hx, hv⟩ := hv
        replace hv := ob hv
        obtain ⟨y, hy, hv⟩ := hv
        refine wpAny_BinOp (wpAny_mono ((J.1 l a ha).1 env ρ A s x E c hx) (fun lv s₁ q₁ => wpAny_mono ((J.1 r b hb).1 env ρ A s₁ y E (c.mono (keeps_heap q₁.1)) hy) (fun rv s₂ q₂ => ?_) fun _ _ x => x) fun _ _ x => x)
        exact wpAny_mono (bin_ok (q₁.2.mono (keeps_heap q₂.1)) q₂.2 hv) (fun v s₃ q₃ => ⟨keeps_trans (keeps_trans q₁.1 q₂.1) q₃.1, q₃.2⟩) fun _ _ x => x
      exact ⟨this, tr_plain this fun _ _ => rfl⟩
    | UnaryOp op x pos => exact unary_ok J h
    | BoolOp op vs pos =>
      cases vs with
      | nil => cases h
      | cons a r =>
        cases r with
        | nil => cases h
        | cons b r =>
          obtain ⟨h1, h2⟩ := bool_ok J op pos (b :: r) a e' h
          exact ⟨fun env ρ A s d E c hv => h1 env ρ A s d E c hv, fun env ρ A s b E c hv => h2 env ρ A s b E c hv⟩
    | Compare l ops rs pos => exact compare_ok J h
    | Subscript v sl pos =>
      have := sub_ok (pos := pos) J (show cSubE (cE fns n sc) v sl = some e' from h)
      exact ⟨this, tr_plain this fun _ _ => rfl⟩
    | Tuple es k' pos =>
      obtain ⟨x, hx, h⟩ := ob (show ((cEs (cE fns n sc) es).bind fun x => if x.size ≤ 1000 then some (.tup x) else none) = some e' from h)
      obtain ⟨hsz, rfl⟩ := oi h
      have : EvOK prog w base Φ k sc (.Tuple es k' pos) (.tup x) := by
        intro env ρ A s d E c hv
        obtain ⟨ds, hds, rfl⟩ := om hv
        refine Tuple_ (wpAny_mono (args_ok J es x hx env ρ A s ds E pos c hds) (fun vs s₁ q₁ => ?_) fun _ _ x => x)
        have hl := evs_size x ρ ds hds
        have hl2 := q₁.2.length
        have hlim : ds.length ≤ lim := small_lim (by omega)
        refine wpAny_newObj_type ?_ (by show vs.toArray.size ≤ sizeLine; rw [List.size_toArray]; have := lim_line; omega)
        have := new_tuple q₁.2 hlim
        exact ⟨keeps_trans q₁.1 this.1, this.2⟩
      exact ⟨this, tr_plain this fun _ _ => rfl⟩
    | List es pos =>
      obtain ⟨x, hx, h⟩ := ob (show ((cEs (cE fns n sc) es).bind fun x => if x.size ≤ 1000 then some (.lst x) else none) = some e' from h)
      obtain ⟨hsz, rfl⟩ := oi h
      have : EvOK prog w base Φ k sc (.List es pos) (.lst x) := by
        intro env ρ A s d E c hv
        obtain ⟨ds, hds, rfl⟩ := om hv
        refine List_ (wpAny_mono (args_ok J es x hx env ρ A s ds E pos c hds) (fun vs s₁ q₁ => ?_) fun _ _ x => x)
        have hl := evs_size x ρ ds hds
        have hl2 := q₁.2.length
        have hlim : ds.length ≤ lim := small_lim (by omega)
        refine wpAny_newObj_type ?_ (by show vs.toArray.size ≤ sizeLine; rw [List.size_toArray]; have := lim_line; omega)
        have := new_list q₁.2 hlim
        exact ⟨keeps_trans q₁.1 this.1, this.2⟩
      exact ⟨this, tr_plain this fun _ _ => rfl⟩
    | Call fn args kws pos =>
      obtain ⟨hk, h2⟩ := oi' (show (if kws.isEmpty = true then cCallE (cE fns n sc) fns sc args pos fn else none) = some e' from h)
      cases kws with
      | cons => cases hk
      | nil =>
        suffices hh : EvOK prog w base Φ k sc (.Call fn args [] pos) e' from ⟨hh, tr_plain hh fun _ _ => rfl⟩
        cases fn with
        | Name f p => exact call_ok G hΦ J h2
        | Attribute o at' apos =>
          obtain ⟨hl, h3⟩ := oi' (show (if isList o = true then cIndex (cE fns n sc) o at' apos pos args else none) = some e' from h2)
          exact meth_ok J hl h3
        | _ => cases h2
    | ListComp elt gens scope pos =>
      suffices hh : EvOK prog w base Φ k sc (.ListComp elt gens scope pos) e' from ⟨hh, tr_plain hh fun _ _ => rfl⟩
      obtain ⟨x, px, iter, ifs, it, el, cd, rfl, hco, hit, hel, rfl, hcd⟩ := cComp_parts h
      have o := compOk_of hco
      have J' := ev_sound G hΦ n (compSc sc scope.names x)
      intro env ρ A s d E c hv
      obtain ⟨ds, res, hds, hres, hp, rfl⟩ := ev_comp_parts hv
      obtain ⟨hs, hi⟩ := it_ok (prog := prog) (w := w) (E := E) G J hit c hds
      rw [eval_ListComp]
      refine comp_ok (use := none) c o hs (it_simple hi) ((J'.1 elt el hel).1) (hcd.imp id fun ⟨t, e, q⟩ => ⟨t, e, (J'.1 t cd q).2⟩) hres hp ?_
      intro Dd C s' m' ys hdl hk hD hC hDC hn hl hvs
      refine ⟨m', hn, fun h'' hs'' => ?_⟩
      have hlen : res.length ≤ lim := Nat.le_trans (compO_len hres) hdl
      have tk : ∀ a items, s'.heap.IsTuple a items → h''.IsTuple a items := tup_keep [C] (fun b o hb e => by
        simp only [List.mem_cons, List.not_mem_nil, or_false] at hb
        exact hs''.extBut b o hb e) (fun b hb => by rw [List.mem_singleton.mp hb]; exact badNs hn)
      obtain ⟨h₀, t₀, rfl, hk₀⟩ := hk
      exact ⟨⟨h'', t₀, rfl, fun b o e => hs''.extBut b o (fun q => by rw [q, hC] at e; cases e) (hk₀ b o e)⟩, .lst (hl.extBut hs''.extBut hDC) (hvs.pureKeep tk hp) hlen⟩
    | _ => exact nns h
end
end Mine

namespace Mine
open PySem PySem.Calls PyProof.Rows PySem.SeqAt

noncomputable def LoV (h₀ h : Heap) (a : Addr) (v : Value) : Lo → Prop
  | .dat d => V h v d ∧ d.pure = true
  | .arg d => V h₀ v d
  | .own ds => v = .ref a ∧ ∃ vs, h.PlainList a (List.toArray vs) ∧ Vs h vs ds ∧ D.pures ds = true ∧ ds.length ≤ lim

theorem LoV.change {h₀ h h' : Heap} {a : Addr} {v : Value} {lo : Lo} (x : LoV h₀ h a v lo) (kt : ∀ a items, h.IsTuple a items → h'.IsTuple a items) (kl : ∀ ds, lo = .own ds → ∀ o, h.get? a = some o → h'.get? a = some o) : LoV h₀ h' a v lo := by
  cases lo with
  | dat d => exact ⟨x.1.pureKeep kt x.2, x.2⟩
  | arg d => exact x
  | own ds =>
    obtain ⟨e, vs, p, q, r, l⟩ := x
    exact ⟨e, vs, p.at (kl ds rfl), q.pureKeep kt r, r, l⟩
theorem LoV.val {h₀ h : Heap} {a : Addr} {v : Value} {lo : Lo} (x : LoV h₀ h a v lo) (k : ∀ b o, h₀.get? b = some o → h.get? b = some o) : V h v lo.val := by
  cases lo with
  | dat d => exact x.1
  | arg d => exact V.mono k x
  | own ds =>
    obtain ⟨rfl, vs, p, q, r, l⟩ := x
    exact .lst p q l

/-- tuples stay -/
noncomputable def Tk (h h' : Heap) : Prop := ∀ a items, h.IsTuple a items → h'.IsTuple a items

/-- a frame -/
structure Inv (base h₀ : Heap) (k : Nat) (sc : Sc) (env : Env) (T : List (Addr × Obj)) (ρ : Rho) (A : Around) (h : Heap) : Prop where
  names : env.scope.names = sc.kd
  kind : env.scope.kind = .function
  glob : env.globals = mainGlobals
  blt : env.builtins = builtinsNs
  cells : ∀ x, sc.kd.lookup x = some .cell → (env.cells.lookup x).isSome = true
  len : ρ.length = sc.n
  inj : ∀ x y i, sc.ix.lookup x = some i → sc.ix.lookup y = some i → x = y
  lt : ∀ x i, sc.ix.lookup x = some i → i < sc.n
  keep : ∀ b o, h₀.get? b = some o → h.get? b = some o
  newL : h₀.get? env.locals = none
  ns : ∃ m, h.Ns env.locals m
  cel : ∀ x c, env.cells.lookup x = some c → h₀.get? c = none ∧ c ≠ env.locals ∧ (∃ v, h.IsCell c v) ∧ ∀ y, env.cells.lookup y = some c → y = x
  own : ∃ α : Nat → Addr,
    (∀ x i lo, isVarK (sc.kd.lookup x) = true → sc.ix.lookup x = some i → ρ.get i = some lo → ∃ v, At h env x v ∧ LoV h₀ h (α i) v lo) ∧
    (∀ i ds, ρ.get i = some (.own ds) → h₀.get? (α i) = none ∧ (∀ p ∈ T, p.1 ≠ α i) ∧ ∃ xs, h.PlainList (α i) xs) ∧
    (∀ i j ds es, ρ.get i = some (.own ds) → ρ.get j = some (.own es) → i ≠ j → α i ≠ α j)
  prot : ∀ p ∈ T, h.get? p.1 = some p.2 ∧ p.1 ≠ env.locals ∧ ∀ x, env.cells.lookup x ≠ some p.1
  ok : Ok base k A h
  frame : env.frame = some env.locals
  stk : ∃ l, A.frames = some (env :: l)
  above : h₀.objs.size ≤ env.locals
  bse : ∀ b o, base.get? b = some o → h₀.get? b = some o

section
variable {base h₀ h h' : Heap} {k : Nat} {sc : Sc} {env : Env} {T : List (Addr × Obj)} {ρ : Rho} {A : Around}

theorem Inv.cx (I : Inv base h₀ k sc env T ρ A h) : Cx base k sc env ρ A h :=
  ⟨I.names, I.kind, I.glob, I.blt, I.cells, I.len, fun x i lo h1 h2 h3 => let ⟨α, a, _, _⟩ := I.own; let ⟨v, p, q⟩ := a x i lo h1 h2 h3; ⟨v, p, q.val I.keep⟩, I.ok⟩
theorem Inv.kindOf (I : Inv base h₀ k sc env T ρ A h) (x : Str) : env.kindOf x = sc.kd.lookup x := I.cx.kindOf x

theorem Inv.mono (I : Inv base h₀ k sc env T ρ A h) (e : ∀ b o, h.get? b = some o → h'.get? b = some o) : Inv base h₀ k sc env T ρ A h' := by
  obtain ⟨α, a1, a2, a3⟩ := I.own
  refine ⟨I.names, I.kind, I.glob, I.blt, I.cells, I.len, I.inj, I.lt, fun b o q => e b o (I.keep b o q), I.newL, let ⟨m, hm⟩ := I.ns; ⟨m, hm.keeps e⟩, fun x c hc => ?_, ⟨α, fun x i lo h1 h2 h3 => ?_, fun i ds hi => ?_, a3⟩, fun p hp => ?_, I.ok.mono e, I.frame, I.stk, I.above, I.bse⟩
  · obtain ⟨p, q, ⟨v, r⟩, t⟩ := I.cel x c hc
    exact ⟨p, q, ⟨v, r.keeps e⟩, t⟩
  · obtain ⟨v, p, q⟩ := a1 x i lo h1 h2 h3
    exact ⟨v, p.mono e, q.change (fun a items t => IsTuple_keep t e) fun _ _ o => e _ o⟩
  · obtain ⟨p, q, xs, r⟩ := a2 i ds hi
    exact ⟨p, q, xs, r.at fun o => e _ o⟩
  · obtain ⟨p, q⟩ := I.prot p hp
    exact ⟨e _ _ p, q⟩

theorem rho_set {ρ : Rho} {i j : Nat} {v : Option Lo} (hi : i < ρ.length) : Rho.get (ρ.set i v) j = if i = j then v else Rho.get ρ j := by
  unfold Rho.get
  by_cases h : i = j
  · subst h; simp [hi]
  · simp [h, List.getElem?_set_ne h]

theorem ns_fun {a : Addr} {m m' : Str → Option Value} (x : h.Ns a m) (y : h.Ns a m') : m = m' := by
  obtain ⟨o, es, ep, ho, hd, _, hm⟩ := x
  obtain ⟨o', es', ep', ho', hd', _, hm'⟩ := y
  rw [ho] at ho'; cases ho'
  rw [hd] at hd'; cases hd'
  funext n; rw [← hm, ← hm']

theorem ns_notuple {a b : Addr} {m : Str → Option Value} {items : Array Value} (x : h.Ns a m) (y : h.IsTuple b items) : b ≠ a := by
  rintro rfl
  obtain ⟨o, es, ep, ho, hd, _⟩ := x
  obtain ⟨o', ho', _, n, hd'⟩ := y
  rw [ho] at ho'; cases ho'
  rw [hd] at hd'; cases hd'
theorem ns_nolist {a b : Addr} {m : Str → Option Value} {items : Array Value} (x : h.Ns a m) (y : h.PlainList b items) : b ≠ a := by
  rintro rfl
  obtain ⟨o, es, ep, ho, hd, _⟩ := x
  obtain ⟨n, ho'⟩ := y
  rw [ho] at ho'; cases ho'
  cases hd
theorem cell_notuple {a b : Addr} {v : Option Value} {items : Array Value} (x : h.IsCell a v) (y : h.IsTuple b items) : b ≠ a := by
  rintro rfl
  obtain ⟨o, ho, hd⟩ := x
  obtain ⟨o', ho', _, n, hd'⟩ := y
  rw [ho] at ho'; cases ho'
  rw [hd] at hd'; cases hd'
theorem cell_nolist {a b : Addr} {v : Option Value} {items : Array Value} (x : h.IsCell a v) (y : h.PlainList b items) : b ≠ a := by
  rintro rfl
  obtain ⟨o, ho, hd⟩ := x
  obtain ⟨n, ho'⟩ := y
  rw [ho] at ho'; cases ho'
  cases hd
theorem list_notuple {a b : Addr} {xs items : Array Value} (x : h.PlainList a xs) (y : h.IsTuple b items) : b ≠ a := by
  rintro rfl
  obtain ⟨n, ho⟩ := x
  obtain ⟨o', ho', hc, _⟩ := y
  rw [ho] at ho'; cases ho'
  simp at hc
theorem tuple_but {a : Addr} (hs : Heap.SameBut a h h') (hn : ∀ b items, h.IsTuple b items → b ≠ a) : ∀ b items, h.IsTuple b items → h'.IsTuple b items :=
  fun b items x => x.extBut hs.extBut (hn b items x)

theorem funFrames_any {h h' base : Heap} (k : ∀ b o, h.get? b = some o → (∀ vs, o.data ≠ .fields vs) → ∃ o', h'.get? b = some o' ∧ ∀ vs, o'.data ≠ .fields vs) {l : List Env} (hl : h.FunFrames base l) : h'.FunFrames base l := by
  induction l with
  | nil => trivial
  | cons env rest ih =>
    obtain ⟨hk, ⟨L, o, hf, hn, ho, hd⟩, hr⟩ := hl
    obtain ⟨o', ho', hd'⟩ := k L o ho hd
    exact ⟨hk, ⟨L, o', hf, hn, ho', hd'⟩, ih hr⟩

/-- one object that is none of the base's is changed -/
theorem Ok.change {a : Addr} {o' : Obj} (x : Ok base k A h) (hs : Heap.SameBut a h h') (ha : base.get? a = none) (ho : h'.get? a = some o') (hf : ∀ vs, o'.data ≠ .fields vs) : Ok base k A h' := by
  obtain ⟨a1, a2, a3, l, L⟩ := x
  refine ⟨a1, a2, a3, l, L.stack, fun b o q => hs.extBut b o (fun e => by rw [e, ha] at q; cases q) (L.stays b o q), funFrames_any (fun b o hb hn => ?_) L.frames⟩
  by_cases e : b = a
  · subst e; exact ⟨o', ho, hf⟩
  · exact ⟨o, hs.extBut b o e hb, hn⟩

theorem base_none {a : Addr} (I : Inv base h₀ k sc env T ρ A h) (ha : h₀.get? a = none) : base.get? a = none := by
  cases q : base.get? a with
  | none => rfl
  | some o => rw [I.bse _ _ q] at ha; cases ha

/-- an object of the frame's own is changed; x at i holds anew -/
theorem Inv.change {a : Addr} {o' : Obj} {x : Str} {i : Nat} {lo' : Lo} {v : Value} {a' : Addr} (I : Inv base h₀ k sc env T ρ A h)
    (hx : isVarK (sc.kd.lookup x) = true) (hi : sc.ix.lookup x = some i)
    (hs : Heap.SameBut a h h') (ha : h₀.get? a = none) (hT : ∀ p ∈ T, p.1 ≠ a) (ho : h'.get? a = some o') (hf : ∀ vs, o'.data ≠ .fields vs) (htup : ∀ b items, h.IsTuple b items → b ≠ a)
    (hns : ∃ m, h'.Ns env.locals m) (hcel : ∀ y c, env.cells.lookup y = some c → ∃ v, h'.IsCell c v)
    (hAt : ∀ y w, y ≠ x → At h env y w → At h' env y w) (hAx : At h' env x v)
    (α : Nat → Addr) (h1 : ∀ x i lo, isVarK (sc.kd.lookup x) = true → sc.ix.lookup x = some i → ρ.get i = some lo → ∃ v, At h env x v ∧ LoV h₀ h (α i) v lo)
    (h2 : ∀ i ds, ρ.get i = some (.own ds) → h₀.get? (α i) = none ∧ (∀ p ∈ T, p.1 ≠ α i) ∧ ∃ xs, h.PlainList (α i) xs) (h3 : ∀ i j ds es, ρ.get i = some (.own ds) → ρ.get j = some (.own es) → i ≠ j → α i ≠ α j)
    (hoth : ∀ j ds, j ≠ i → ρ.get j = some (.own ds) → α j ≠ a)
    (hlo : LoV h₀ h' a' v lo') (hnew : ∀ ds, lo' = .own ds → h₀.get? a' = none ∧ (∀ p ∈ T, p.1 ≠ a') ∧ ∀ j es, j ≠ i → ρ.get j = some (.own es) → α j ≠ a') :
    Inv base h₀ k sc env T (ρ.set i (some lo')) A h' := by
  have kt := tuple_but hs htup
  have hlt : i < ρ.length := by rw [I.len]; exact I.lt x i hi
  refine ⟨I.names, I.kind, I.glob, I.blt, I.cells, by simp [I.len], I.inj, I.lt, fun b o q => hs.extBut b o (fun e => by rw [e, ha] at q; cases q) (I.keep b o q), I.newL, hns, fun y c hc => ?_, ⟨fun j => if j = i then a' else α j, fun y j lo q1 q2 q3 => ?_, fun j ds q => ?_, fun j j' ds es q1 q2 q3 => ?_⟩, fun p hp => ?_, I.ok.change hs (base_none I ha) ho hf, I.frame, I.stk, I.above, I.bse⟩
  · obtain ⟨p, q, _, t⟩ := I.cel y c hc
    exact ⟨p, q, hcel y c hc, t⟩
  · rw [rho_set hlt] at q3
    by_cases e : i = j
    · subst e
      rw [if_pos rfl] at q3
      cases q3
      have := I.inj x y i hi q2; subst this
      exact ⟨v, hAx, by dsimp only; rw [if_pos rfl]; exact hlo⟩
    · rw [if_neg e] at q3
      have hxy : y ≠ x := by rintro rfl; rw [hi] at q2; cases q2; exact e rfl
      obtain ⟨w, p, q⟩ := h1 y j lo q1 q2 q3
      refine ⟨w, hAt y w hxy p, ?_⟩
      dsimp only
      rw [if_neg (Ne.symm e)]
      refine q.change kt fun ds el o ho => ?_
      subst el
      exact hs.extBut _ o (hoth j ds (Ne.symm e) q3) ho
  · rw [rho_set hlt] at q
    by_cases e : i = j
    · subst e
      rw [if_pos rfl] at q
      cases q
      obtain ⟨p1, p2, _⟩ := hnew ds rfl
      obtain ⟨_, vs, p3, _⟩ := hlo
      dsimp only
      rw [if_pos rfl]
      exact ⟨p1, p2, _, p3⟩
    · rw [if_neg e] at q
      dsimp only
      rw [if_neg (Ne.symm e)]
      obtain ⟨p1, p2, xs, p3⟩ := h2 j ds q
      exact ⟨p1, p2, xs, p3.extBut hs.extBut (hoth j ds (Ne.symm e) q)⟩
  · rw [rho_set hlt] at q1 q2
    by_cases e : i = j
    · subst e
      rw [if_pos rfl] at q1
      cases q1
      rw [if_neg q3] at q2
      dsimp only
      rw [if_pos rfl, if_neg (Ne.symm q3)]
      exact Ne.symm ((hnew ds rfl).2.2 j' es (Ne.symm q3) q2)
    · rw [if_neg e] at q1
      by_cases e' : i = j'
      · subst e'
        rw [if_pos rfl] at q2
        cases q2
        dsimp only
        rw [if_pos rfl, if_neg (Ne.symm e)]
        exact (hnew es rfl).2.2 j ds (Ne.symm e) q1
      · rw [if_neg e'] at q2
        dsimp only
        rw [if_neg (Ne.symm e), if_neg (Ne.symm e')]
        exact h3 j j' ds es q1 q2 q3
  · obtain ⟨p1, p2⟩ := I.prot p hp
    exact ⟨hs.extBut _ _ (hT p hp) p1, p2⟩
theorem Inv.tl_ne (I : Inv base h₀ k sc env T ρ A h) (b : Addr) (hb : h.get? b = none) : ∀ p ∈ T, p.1 ≠ b := by
  rintro p hp rfl
  rw [(I.prot p hp).1] at hb; cases hb
theorem Inv.h0_none (I : Inv base h₀ k sc env T ρ A h) {b : Addr} (hb : h.get? b = none) : h₀.get? b = none := by
  cases q : h₀.get? b with
  | none => rfl
  | some o => rw [I.keep _ _ q] at hb; cases hb
end

section
variable {base h₀ h h' : Heap} {k : Nat} {sc : Sc} {env : Env} {T : List (Addr × Obj)} {ρ : Rho} {A : Around}
/-- what is guarded may be less -/
theorem Inv.less {T' : List (Addr × Obj)} (I : Inv base h₀ k sc env T ρ A h) (hT : ∀ p ∈ T', p ∈ T) : Inv base h₀ k sc env T' ρ A h := by
  obtain ⟨α, a1, a2, a3⟩ := I.own
  exact ⟨I.names, I.kind, I.glob, I.blt, I.cells, I.len, I.inj, I.lt, I.keep, I.newL, I.ns, I.cel, ⟨α, a1, fun i ds q => let ⟨p1, p2, p3⟩ := a2 i ds q; ⟨p1, fun p hp => p2 p (hT p hp), p3⟩, a3⟩, fun p hp => I.prot p (hT p hp), I.ok, I.frame, I.stk, I.above, I.bse⟩

/-- one object more is guarded -/
theorem Inv.guard {b : Addr} {o : Obj} (I : Inv base h₀ k sc env T ρ A h) (hb : h.get? b = some o) (hd : ∀ es n, o.data ≠ .dict es n) (hc : ∀ v, o.data ≠ .cell v)
    (ho : (∀ xs, ¬ h.PlainList b xs) ∨ (h₀.get? b ≠ none) ∨ ∀ i ds, ρ.get i ≠ some (.own ds)) : Inv base h₀ k sc env ((b, o) :: T) ρ A h := by
  obtain ⟨α, a1, a2, a3⟩ := I.own
  refine ⟨I.names, I.kind, I.glob, I.blt, I.cells, I.len, I.inj, I.lt, I.keep, I.newL, I.ns, I.cel, ⟨α, a1, fun i ds q => ?_, a3⟩, fun p hp => ?_, I.ok, I.frame, I.stk, I.above, I.bse⟩
  · obtain ⟨p1, p2, xs, p3⟩ := a2 i ds q
    refine ⟨p1, fun p hp => ?_, xs, p3⟩
    rcases List.mem_cons.mp hp with rfl | hp
    · rintro rfl
      rcases ho with e | e | e
      · exact e xs p3
      · exact e p1
      · exact e i ds q
    · exact p2 p hp
  · rcases List.mem_cons.mp hp with rfl | hp
    · refine ⟨hb, ?_, fun x q => ?_⟩
      · rintro rfl
        obtain ⟨m, o', es, ep, ho', hd', _⟩ := I.ns
        have hb' : h.get? env.locals = some o := hb
        rw [hb'] at ho'; cases ho'
        exact hd _ _ hd'
      · obtain ⟨_, _, ⟨v, o', ho', hd'⟩, _⟩ := I.cel x b q
        rw [hb] at ho'; cases ho'
        exact hc _ hd'
    · exact I.prot p hp

/-- an object that the frame does not look at is changed -/
theorem Inv.other {b : Addr} {o o' : Obj} {fs fs' : Array Value} (I : Inv base h₀ k sc env T ρ A h) (hb : h.get? b = some o) (hd : o.data = .fields fs) (h0 : h₀.get? b = none) (hT : ∀ p ∈ T, p.1 ≠ b)
    (hk : ∀ a q, a ≠ b → h.get? a = some q → h'.get? a = some q) : Inv base h₀ k sc env T ρ A h' := by
  have neL : env.locals ≠ b := by
    rintro e
    obtain ⟨m, o'', es, ep, ho', hd', _⟩ := I.ns
    rw [e, hb] at ho'; cases ho'
    rw [hd] at hd'; cases hd'
  have neC : ∀ x c, env.cells.lookup x = some c → c ≠ b := by
    rintro x c hx rfl
    obtain ⟨_, _, ⟨v, o'', ho', hd'⟩, _⟩ := I.cel x c hx
    rw [hb] at ho'; cases ho'
    rw [hd] at hd'; cases hd'
  have kt : ∀ a items, h.IsTuple a items → h'.IsTuple a items := by
    rintro a items ⟨o'', ho', hc, n, hd'⟩
    exact ⟨o'', hk a o'' (by rintro rfl; rw [hb] at ho'; cases ho'; rw [hd] at hd'; cases hd') ho', hc, n, hd'⟩
  have kl : ∀ a xs, h.PlainList a xs → a ≠ b := by
    rintro a xs ⟨n, ho'⟩ rfl
    rw [hb] at ho'; cases ho'; cases hd
  obtain ⟨α, a1, a2, a3⟩ := I.own
  refine ⟨I.names, I.kind, I.glob, I.blt, I.cells, I.len, I.inj, I.lt, fun a q e => hk a q (by rintro rfl; rw [h0] at e; cases e) (I.keep a q e), I.newL, let ⟨m, hm⟩ := I.ns; ⟨m, hm.at' fun o e => hk _ o neL e⟩, fun x c hx => ?_, ⟨α, fun x i lo q1 q2 q3 => ?_, fun i ds q => ?_, a3⟩, fun p hp => ?_, ?_, I.frame, I.stk, I.above, I.bse⟩
  · obtain ⟨p1, p2, ⟨v, o'', ho', hd'⟩, p4⟩ := I.cel x c hx
    exact ⟨p1, p2, ⟨v, o'', hk c o'' (neC x c hx) ho', hd'⟩, p4⟩
  · obtain ⟨v, p, q⟩ := a1 x i lo q1 q2 q3
    refine ⟨v, ?_, q.change kt fun ds e o ho => ?_⟩
    · cases p with
      | loc m e1 e2 e3 => exact .loc m e1 (e2.at' fun o e => hk _ o neL e) e3
      | cell c e1 e2 e3 => obtain ⟨o'', ho', hd'⟩ := e3; exact .cell c e1 e2 ⟨o'', hk c o'' (neC x c e2) ho', hd'⟩
    · subst e
      obtain ⟨_, _, xs, p3⟩ := a2 i ds q3
      exact hk _ o (kl _ _ p3) ho
  · obtain ⟨p1, p2, xs, p3⟩ := a2 i ds q
    exact ⟨p1, p2, xs, p3.at fun o e => hk _ o (kl _ _ p3) e⟩
  · obtain ⟨p1, p2⟩ := I.prot p hp
    exact ⟨hk _ _ (hT p hp) p1, p2⟩
  · obtain ⟨x1, x2, x3, l, L⟩ := I.ok
    refine ⟨x1, x2, x3, l, L.stack, fun a q e => hk a q (by rintro rfl; have := I.bse _ _ e; rw [h0] at this; cases this) (L.stays a q e), funFrames_any (fun a q ha hn => ⟨q, hk a q (by rintro rfl; rw [hb] at ha; cases ha; exact hn _ hd) ha, hn⟩) L.frames⟩
end

section
variable {prog : Program} {w : World} {base h₀ : Heap} {k : Nat} {sc : Sc} {env : Env} {T : List (Addr × Obj)} {ρ : Rho} {A : Around} {E : Value → Shared → Prop} {s : Shared}

/-- a name is stored: data, or a list that was not there at hb -/
theorem store_ok {A' : Around} {hb : Heap} {x : Str} {i : Nat} {v : Value} {lo' : Lo} {a' : Addr} {Q : Unit → Shared → Prop} (I : Inv base h₀ k sc env T ρ A hb)
    (K : ∀ b o, hb.get? b = some o → s.heap.get? b = some o)
    (hx : isVarK (sc.kd.lookup x) = true) (hi : sc.ix.lookup x = some i) (hlo : LoV h₀ s.heap a' v lo') (hnew : ∀ ds, lo' = .own ds → hb.get? a' = none)
    (hQ : ∀ h' tk, Inv base h₀ k sc env T (ρ.set i (some lo')) A h' → Tk s.heap h' → (∃ a, Heap.SameBut a s.heap h' ∧ (a = env.locals ∨ ∃ y, env.cells.lookup y = some a)) → Q () { s with heap := h', toks := tk }) : wpAny (model prog w) A' (storeName env x v) Q E s := by
  have I' := I.mono K
  obtain ⟨α, a1, a2, a3⟩ := I.own
  have b1 : ∀ x i lo, isVarK (sc.kd.lookup x) = true → sc.ix.lookup x = some i → ρ.get i = some lo → ∃ v, At s.heap env x v ∧ LoV h₀ s.heap (α i) v lo := fun x i lo q1 q2 q3 =>
    let ⟨v, p, q⟩ := a1 x i lo q1 q2 q3; ⟨v, p.mono K, q.change (fun a items t => IsTuple_keep t K) fun _ _ o => K _ o⟩
  have b2 : ∀ i ds, ρ.get i = some (.own ds) → h₀.get? (α i) = none ∧ (∀ p ∈ T, p.1 ≠ α i) ∧ ∃ xs, s.heap.PlainList (α i) xs := fun i ds q =>
    let ⟨p1, p2, xs, p3⟩ := a2 i ds q; ⟨p1, p2, xs, p3.at fun o => K _ o⟩
  have new : ∀ ds, lo' = .own ds → h₀.get? a' = none ∧ (∀ p ∈ T, p.1 ≠ a') ∧ ∀ j es, j ≠ i → ρ.get j = some (.own es) → α j ≠ a' := fun ds e => by
    have hn := hnew ds e
    refine ⟨I.h0_none hn, I.tl_ne a' hn, fun j es _ q e' => ?_⟩
    obtain ⟨_, _, xs, n, ho⟩ := a2 j es q
    rw [e', hn] at ho; cases ho
  obtain ⟨m, hm⟩ := I'.ns
  have hkx := I'.kindOf x
  have cases' : sc.kd.lookup x = some .local ∨ sc.kd.lookup x = some .cell := by
    revert hx
    cases sc.kd.lookup x with
    | none => intro h; cases h
    | some q => cases q <;> intro h <;> first | exact .inl rfl | exact .inr rfl | cases h
  rcases cases' with hl | hc
  · refine wpAny_storeName_local (hkx.trans hl) hm (fun h' hn hs => hQ h' _ ?_ (tuple_but hs fun b items t => ns_notuple hm t) ⟨_, hs, .inl rfl⟩) (by rw [I'.kind]; rfl)
    obtain ⟨oL, es, ep, hoL, hdL, _⟩ := id hn
    have kt : ∀ b items, s.heap.IsTuple b items → b ≠ env.locals := fun b items t => ns_notuple hm t
    refine I'.change hx hi hs I.newL (fun p hp => (I'.prot p hp).2.1) hoL (fun vs q => by rw [hdL] at q; cases q) kt ⟨_, hn⟩ (fun y c hc => ?_) (fun y w' hy ha => ?_) (.loc _ (hkx.trans hl) hn (if_pos rfl)) α b1 b2 a3 (fun j ds _ q => ?_) ?_ new
    · obtain ⟨_, q, ⟨v', r⟩, _⟩ := I'.cel y c hc
      exact ⟨v', r.sameBut hs q⟩
    · cases ha with
      | loc m' e1 e2 e3 =>
        have := ns_fun e2 hm; subst this
        exact .loc _ e1 hn (by rw [if_neg hy]; exact e3)
      | cell c e1 e2 e3 => exact .cell c e1 e2 (e3.sameBut hs (I'.cel y c e2).2.1)
    · obtain ⟨_, _, xs, p⟩ := b2 j ds q
      exact ns_nolist hm p
    · refine hlo.change (tuple_but hs kt) fun ds e o q => ?_
      subst e
      obtain ⟨_, vs, p, _⟩ := hlo
      exact hs.extBut _ o (ns_nolist hm p) q
  · obtain ⟨c, hcl⟩ := Option.isSome_iff_exists.mp (I'.cells x hc)
    obtain ⟨q1, q2, ⟨v₀, q3⟩, q4⟩ := I'.cel x c hcl
    refine wpAny_storeName_cell I'.kind (hkx.trans hc) hcl q3 fun h' hn hs => hQ h' s.toks ?_ (tuple_but hs fun b items t => cell_notuple q3 t) ⟨_, hs, .inr ⟨x, hcl⟩⟩
    obtain ⟨oc, hoc, hdc⟩ := id hn
    have kt : ∀ b items, s.heap.IsTuple b items → b ≠ c := fun b items t => cell_notuple q3 t
    refine I'.change hx hi hs q1 (fun p hp e => (I'.prot p hp).2.2 x (by rw [e]; exact hcl)) hoc (fun vs q => by rw [hdc] at q; cases q) kt ⟨m, hm.sameBut hs (Ne.symm q2)⟩ (fun y c' hc' => ?_) (fun y w' hy ha => ?_) (.cell c (hkx.trans hc) hcl hn) α b1 b2 a3 (fun j ds _ q => ?_) ?_ new
    · by_cases e : c' = c
      · subst e; exact ⟨_, hn⟩
      · obtain ⟨_, _, ⟨v', r⟩, _⟩ := I'.cel y c' hc'
        exact ⟨v', r.sameBut hs e⟩
    · cases ha with
      | loc m' e1 e2 e3 => exact .loc m' e1 (e2.sameBut hs (Ne.symm q2)) e3
      | cell c' e1 e2 e3 => exact .cell c' e1 e2 (e3.sameBut hs fun e => hy (q4 y (e ▸ e2)))
    · obtain ⟨_, _, xs, p⟩ := b2 j ds q
      exact cell_nolist q3 p
    · refine hlo.change (tuple_but hs kt) fun ds e o q => ?_
      subst e
      obtain ⟨_, vs, p, _⟩ := hlo
      exact hs.extBut _ o (cell_nolist q3 p) q
end
end Mine

namespace Mine
open PySem PySem.Calls PyProof.Rows PySem.SeqAt

/-- where a called function's result goes -/
inductive Tg where
  | drop
  | var (x : Nat)
  | item (x : Nat) (j : Nat)
  | unp (xs : List Nat)

set_option genSizeOf false in
set_option genInjectivity false in
mutual
inductive S where
  | asg (x : Nat) (e : E)
  | ownD (x : Nat) (es : Es)
  | ownC (x : Nat) (e : E)
  | ownL (x : Nat) (e : E)
  | unp (xs : List Nat) (e : E)
  | seti (x : Nat) (i e : E)
  | app (x : Nat) (e : E)
  | iff (c : E) (a b : Ss)
  | for1 (x : Nat) (it : It) (body : Ss)
  | forV (x y : Nat) (body : Ss)
  | forE (x y : Nat) (e : E) (body : Ss)
  | ret (e : E)
  | cont
  | rais (c : Nat)
  | callS (t : Tg) (f : Nat) (es : Es)
inductive Ss where
  | nil
  | cons (s : S) (r : Ss)
end

/-- what a statement ends in -/
inductive R where
  | next (ρ : Rho)
  | cont (ρ : Rho)
  | ret (d : D)
  | err (c : Nat)

/-- a turn of a loop is done -/
noncomputable def afterR (f : Rho → Option R) (r : R) : Option R := match r with
  | .next ρ => f ρ
  | .cont ρ => f ρ
  | .ret d => some (.ret d)
  | .err c => some (.err c)
/-- a statement is done -/
noncomputable def thenR (f : Rho → Option R) (r : R) : Option R := match r with
  | .next ρ => f ρ
  | .cont ρ => some (.cont ρ)
  | .ret d => some (.ret d)
  | .err c => some (.err c)

noncomputable def loopO {α : Type} (body : α → Rho → Option R) : List α → Rho → Option R
  | [], ρ => some (.next ρ)
  | d :: ds, ρ => (body d ρ).bind (afterR fun ρ' => loopO body ds ρ')

noncomputable def setAll (ρ : Rho) : List Nat → List D → Rho
  | x :: xs, d :: ds => setAll (ρ.set x (some (.dat d))) xs ds
  | _, _ => ρ

noncomputable def Lo.own? : Lo → Option (List D)
  | .own ds => some ds
  | _ => none
theorem own?_some {lo : Lo} {ds : List D} (h : lo.own? = some ds) : lo = .own ds := by cases lo <;> cases h; rfl
noncomputable def Rho.own? (ρ : Rho) (x : Nat) : Option (List D) := (ρ.get x).bind Lo.own?
theorem Rho.own?_some {ρ : Rho} {x : Nat} {ds : List D} (h : ρ.own? x = some ds) : ρ.get x = some (.own ds) := by
  replace h := ob h
  obtain ⟨lo, h1, h2⟩ := h
  rw [h1, Mine.own?_some h2]
noncomputable def Rho.noOwn (ρ : Rho) : Bool := ρ.all fun o => (o.bind Lo.own?).isNone

/-- may the iterable be walked while the frame's own lists are changed -/
noncomputable def itOk (Φ : Fns) (ρ : Rho) : It → Bool
  | .seq e => ρ.noOwn || ((ev Φ ρ e).bind tupOf).isSome
  | _ => true

noncomputable def putD (ρ : Rho) (x : Nat) (d : D) : Option R := if d.pure = true then some (.next (ρ.set x (some (.dat d)))) else none
noncomputable def putO (ρ : Rho) (x : Nat) (ds : List D) : Option R := if D.pures ds = true then some (.next (ρ.set x (some (.own ds)))) else none
noncomputable def putU (ρ : Rho) (xs : List Nat) (d : D) : Option R := (tupOf d).bind fun ds => if ds.length = xs.length ∧ D.pures ds = true then some (.next (setAll ρ xs ds)) else none
noncomputable def putT (ρ : Rho) (d : D) : Tg → Option R
  | .drop => some (.next ρ)
  | .var x => putD ρ x d
  | .item x j => (tupOf d).bind fun ds => (ds[j]?).bind fun d' => putD ρ x d'
  | .unp xs => putU ρ xs d
noncomputable def outT (ρ : Rho) (t : Tg) (o : Out) : Option R := match o with
  | .ok d => putT ρ d t
  | .err c => some (.err c)
noncomputable def ifT {α : Type} (d : D) (x y : Option α) : Option α := (isTrueD d).bind fun t => if t = true then x else y

mutual
noncomputable def ex (Φ : Fns) (ρ : Rho) : S → Option R
  | .asg x e => (ev Φ ρ e).bind fun d => putD ρ x d
  | .ownD x es => (evs Φ ρ es).bind fun ds => putO ρ x ds
  | .ownC x e => (ev Φ ρ e).bind fun d => (lstOf d).bind fun ds => putO ρ x ds
  | .ownL x e => (ev Φ ρ e).bind fun d => (items d).bind fun ds => putO ρ x ds
  | .unp xs e => (ev Φ ρ e).bind fun d => putU ρ xs d
  | .seti x i e => (ρ.own? x).bind fun ds => (ev Φ ρ i).bind fun y => (ev Φ ρ e).bind fun d => (intOf y).bind fun j => if 0 ≤ j ∧ j < ds.length ∧ d.pure = true then some (.next (ρ.set x (some (.own (ds.set j.toNat d))))) else none
  | .app x e => (ρ.own? x).bind fun ds => (ev Φ ρ e).bind fun d => if d.pure = true ∧ ds.length < lim then some (.next (ρ.set x (some (.own (ds ++ [d]))))) else none
  | .iff c a b => (ev Φ ρ c).bind fun d => ifT d (exs Φ ρ a) (exs Φ ρ b)
  | .for1 x it body => (evIt Φ ρ it).bind fun ds => if itOk Φ ρ it = true then loopO (fun d ρ => exs Φ (ρ.set x (some (.dat d))) body) ds ρ else none
  | .forV x y body => (ρ.get y).bind fun lo => (items lo.val).bind fun ds => if lo.own?.isNone = true ∧ D.pures ds = true then loopO (fun d ρ => exs Φ (ρ.set x (some (.dat d))) body) ds ρ else none
  | .forE x y e body => (ev Φ ρ e).bind fun d => (tupOf d).bind fun ds => if D.pures ds = true then loopO (fun p ρ => exs Φ ((ρ.set x (some (.dat (.int (p.2 : Nat))))).set y (some (.dat p.1))) body) ds.zipIdx ρ else none
  | .ret e => (ev Φ ρ e).map .ret
  | .cont => some (.cont ρ)
  | .rais c => some (.err c)
  | .callS t f es => (evs Φ ρ es).bind fun ds => (Φ f ds).bind fun o => outT ρ t o
noncomputable def exs (Φ : Fns) (ρ : Rho) : Ss → Option R
  | .nil => some (.next ρ)
  | .cons s r => (ex Φ ρ s).bind (thenR fun ρ' => exs Φ ρ' r)
end

theorem zipIdx_get {α : Type} {ds : List α} {j : Nat} {d : α} (h : ds[j]? = some d) : ds.zipIdx[j]? = some (d, j) := by
  rw [List.getElem?_zipIdx, h]; simp

/-! views of the program's text -/
noncomputable def idxVar (sc : Sc) (x : Str) : Option Nat := if isVarK (sc.kd.lookup x) && !(x == ("__debug__" : Str)) then sc.ix.lookup x else none
noncomputable def idxVars (sc : Sc) : List Expr → Option (List Nat)
  | [] => some []
  | e :: r => (nameOf e).bind fun x => (idxVar sc x).bind fun i => (idxVars sc r).map fun is => i :: is
noncomputable def callOf : Expr → Option (Expr × List Expr × Pos)
  | .Call fn args kws pos => if kws.isEmpty = true then some (fn, args, pos) else none
  | _ => none
theorem callOf_some {e : Expr} {p : Expr × List Expr × Pos} (h : callOf e = some p) : e = .Call p.1 p.2.1 [] p.2.2 := by
  cases e <;> first | exact nns h | exact nnb h | skip
  rename_i fn args kws pos
  replace h := oi h
  obtain ⟨h, rfl⟩ := h
  cases kws with
  | nil => rfl
  | cons => cases h
noncomputable def one {α : Type} : List α → Option α
  | [] => none
  | a :: r => if r.isEmpty = true then some a else none
theorem one_some {α : Type} {l : List α} {a : α} (h : one l = some a) : l = [a] := by
  cases l with
  | nil => cases h
  | cons b r =>
    replace h := oi h
    obtain ⟨h, rfl⟩ := h
    cases r with
    | nil => rfl
    | cons => cases h
noncomputable def two {α : Type} : List α → Option (α × α)
  | [] => none
  | a :: r => (one r).map fun b => (a, b)
theorem two_some {α : Type} {l : List α} {p : α × α} (h : two l = some p) : l = [p.1, p.2] := by
  cases l with
  | nil => cases h
  | cons b r =>
    replace h := om h
    obtain ⟨c, hc, rfl⟩ := h
    rw [one_some hc]
noncomputable def constOf : Expr → Option Const
  | .Constant c _ _ => some c
  | _ => none
theorem constOf_some {e : Expr} {c : Const} (h : constOf e = some c) : ∃ k p, e = .Constant c k p := by
  cases e <;> first | exact nns h | exact nnb h | skip
  cases h; exact ⟨_, _, rfl⟩
noncomputable def cStr : Const → Option Str
  | .str m => some m
  | _ => none
theorem cStr_some {c : Const} {m : Str} (h : cStr c = some m) : c = .str m := by cases c <;> first | (cases h; rfl) | cases h
noncomputable def cNat : Const → Option Nat
  | .int i => if 0 ≤ i then some i.toNat else none
  | _ => none
theorem cNat_some {c : Const} {m : Nat} (h : cNat c = some m) : c = .int m := by
  cases c <;> first | exact nns h | exact nnb h | skip
  rename_i i
  obtain ⟨h0, rfl⟩ := oi (show (if 0 ≤ i then some i.toNat else none) = some m from h)
  rw [Int.toNat_of_nonneg h0]
noncomputable def subOf : Expr → Option (Expr × Expr)
  | .Subscript v i _ => some (v, i)
  | _ => none
theorem subOf_some {e : Expr} {q : Expr × Expr} (h : subOf e = some q) : ∃ p, e = .Subscript q.1 q.2 p := by
  cases e <;> first | exact nns h | exact nnb h | skip
  cases h; exact ⟨_, rfl⟩
noncomputable def listOf : Expr → Option (List Expr)
  | .List es _ => some es
  | _ => none
theorem listOf_some {e : Expr} {q : List Expr} (h : listOf e = some q) : ∃ p, e = .List q p := by
  cases e <;> first | exact nns h | exact nnb h | skip
  cases h; exact ⟨_, rfl⟩
noncomputable def attrOf : Expr → Option (Expr × Str × Pos)
  | .Attribute o m p => some (o, m, p)
  | _ => none
theorem attrOf_some {e : Expr} {q : Expr × Str × Pos} (h : attrOf e = some q) : e = .Attribute q.1 q.2.1 q.2.2 := by
  cases e <;> first | exact nns h | exact nnb h | skip
  cases h; rfl
/-- no comprehension: its value is stored in the plain way -/
noncomputable def plainE : Expr → Bool
  | .Constant .. => true
  | .Name .. => true
  | .BinOp .. => true
  | .UnaryOp .. => true
  | .BoolOp .. => true
  | .Compare .. => true
  | .Tuple .. => true
  | .Subscript .. => true
  | .Call .. => true
  | _ => false
noncomputable def isNS : Expr → Bool
  | .Name .. => true
  | .Subscript .. => true
  | _ => false
/-- a comprehension whose list goes into the name x -/
noncomputable def compFor (sc : Sc) (x : Str) (px : Pos) : Expr → Bool
  | .ListComp _ _ scope cpos => sc.kd.lookup x == some .local && px.line == cpos.line && !(scope.names.any fun y => y.1 == x && (y.2 == .local || y.2 == .cell))
  | _ => false

noncomputable def asCall (fns : List Str) (n : Nat) (sc : Sc) (v : Expr) : Option (Nat × Es) :=
  (callOf v).bind fun c => (nameOf c.1).bind fun f => if glob sc f = true ∧ c.2.1.isEmpty = false then (fns.idxOf? f).bind fun i => (cEs (cE fns n sc) c.2.1).map fun es => (i, es) else none
noncomputable def asItem (fns : List Str) (n : Nat) (sc : Sc) (v : Expr) : Option (Nat × Nat × Es) :=
  (subOf v).bind fun p => (constOf p.2).bind fun c => (cNat c).bind fun j => (asCall fns n sc p.1).map fun q => (j, q)
noncomputable def asList (sc : Sc) (v : Expr) : Option Expr :=
  (callOf v).bind fun c => if nameIs "list" c.1 = true ∧ glob sc "list" = true then one c.2.1 else none
noncomputable def cRaise (excs : List Str) (sc : Sc) (e c : Option Expr) : Option S :=
  if c.isNone = true then e.bind fun e => (callOf e).bind fun q => (nameOf q.1).bind fun x => (one q.2.1).bind fun a => (constOf a).bind fun k => (cStr k).bind fun _ => if glob sc x = true then (excs.idxOf? x).map .rais else none else none

noncomputable def cAsg (fns : List Str) (n : Nat) (sc : Sc) (x : Str) (px : Pos) (i : Nat) (v : Expr) : Option S :=
  match asCall fns n sc v with
  | some q => some (.callS (.var i) q.1 q.2)
  | none => match listOf v with
    | some es => (cEs (cE fns n sc) es).bind fun es' => if es'.size ≤ 1000 then some (.ownD i es') else none
    | none => match asItem fns n sc v with
      | some q => some (.callS (.item i q.1) q.2.1 q.2.2)
      | none => (cE fns n sc v).bind fun e => if plainE v = true then some (.asg i e) else if compFor sc x px v = true then some (.ownC i e) else none
noncomputable def cUnp (fns : List Str) (n : Nat) (sc : Sc) (is : List Nat) (v : Expr) : Option S :=
  match asCall fns n sc v with
  | some q => some (.callS (.unp is) q.1 q.2)
  | none => if isNS v = true then (cE fns n sc v).map (.unp is) else none
noncomputable def cTgt (fns : List Str) (n : Nat) (sc : Sc) (v : Expr) : Expr → Option S
  | .Name x px => (idxVar sc x).bind fun i => cAsg fns n sc x px i v
  | .Tuple es _ _ => (idxVars sc es).bind fun is => cUnp fns n sc is v
  | .Subscript o i _ => if plainE v = true then (nameOf o).bind fun x => (idxVar sc x).bind fun ix => (cE fns n sc i).bind fun i' => (cE fns n sc v).map fun v' => .seti ix i' v' else none
  | _ => none
noncomputable def cFor (fns : List Str) (n : Nat) (sc : Sc) (it : Expr) (b : Ss) : Expr → Option S
  | .Name x _ => (idxVar sc x).bind fun i => match nameOf it with
    | some y => (idxVar sc y).map fun j => .forV i j b
    | none => (cIt (cE fns n sc) sc it).map fun it' => .for1 i it' b
  | _ => none
noncomputable def cApp (fns : List Str) (n : Nat) (sc : Sc) (v : Expr) : Option S :=
  (callOf v).bind fun c => (attrOf c.1).bind fun q => if q.2.1 = ("append" : Str) ∧ (q.2.2.endLine == c.2.2.line) = true then (nameOf q.1).bind fun x => (idxVar sc x).bind fun i => (one c.2.1).bind fun a => (cE fns n sc a).map fun e => .app i e else none
noncomputable def cExp (fns : List Str) (n : Nat) (sc : Sc) (v : Expr) : Option S :=
  match asCall fns n sc v with
  | some q => some (.callS .drop q.1 q.2)
  | none => cApp fns n sc v

mutual
noncomputable def cS (fns excs : List Str) (n : Nat) (sc : Sc) : Stmt → Option S
  | .Return e _ => e.bind fun e => (cE fns n sc e).map .ret
  | .Continue _ => some .cont
  | .If t a b _ => (cE fns n sc t).bind fun c => (cSs fns excs n sc a).bind fun x => (cSs fns excs n sc b).map fun y => .iff c x y
  | .Assign ts v _ => (one ts).bind fun t => cTgt fns n sc v t
  | .For t it body orelse _ => if orelse.isEmpty = true then (cSs fns excs n sc body).bind fun b => cFor fns n sc it b t else none
  | .Expr v _ => cExp fns n sc v
  | .Raise e c _ => cRaise excs sc e c
  | _ => none
noncomputable def cSs (fns excs : List Str) (n : Nat) (sc : Sc) : List Stmt → Option Ss
  | [] => some .nil
  | s :: r => (cS fns excs n sc s).bind fun a => (cSs fns excs n sc r).map fun b => .cons a b
end

noncomputable def scOf (scope : Scope) : Sc := { kd := scope.names, ix := scope.names.zipIdx.map fun p => (p.1.1, p.2), n := scope.names.length }
end Mine

namespace Mine
open PySem

noncomputable def rho0 (names : List (Str × NameKind)) (ps : List Str) (ds : List D) : Rho := names.map fun p => ((ps.zip ds).lookup p.1).map Lo.arg

/-- a compiled def -/
structure Fn where
  ps : List Str
  names : List (Str × NameKind)
  body : Ss
abbrev Prg := List Fn

/-- what a def's body gives back -/
noncomputable def retR (keep : Bool) (r : R) : Option Out := match r with
  | .ret d => some (.ok d)
  | .next _ => some (.ok .none)
  | .err c => if keep = true then some (.err c) else none
  | .cont _ => none
noncomputable def fnRun (keep : Bool) (Φ : Fns) (f : Fn) (ds : List D) : Option Out :=
  if ds.length = f.ps.length then (exs Φ (rho0 f.names f.ps ds) f.body).bind (retR keep) else none
noncomputable def run (keep : Bool) (P : Prg) : Nat → Fns
  | 0 => fun _ _ => none
  | n + 1 => fun f ds => (P[f]?).bind fun g => fnRun keep (run keep P n) g ds
end Mine

namespace Mine
open PySem PySem.Calls PyProof.Rows PySem.SeqAt

noncomputable def Same (s s' : Shared) : Prop := ∃ h tk, s' = { s with heap := h, toks := tk }
theorem Same.refl (s : Shared) : Same s s := ⟨s.heap, s.toks, rfl⟩
theorem Same.trans {s s' s'' : Shared} (x : Same s s') (y : Same s' s'') : Same s s'' := by
  obtain ⟨h, t, rfl⟩ := x; obtain ⟨h', t', rfl⟩ := y; exact ⟨h', t', rfl⟩
theorem Same.keeps {s s' : Shared} (x : Keeps s s') : Same s s' := by
  obtain ⟨h, t, rfl, _⟩ := x; exact ⟨h, t, rfl⟩
theorem Same.mk' (s : Shared) (h : Heap) (tk : Nat) : Same s { s with heap := h, toks := tk } := ⟨h, tk, rfl⟩
theorem Tk.refl (h : Heap) : Tk h h := fun _ _ x => x
theorem Tk.trans {h h' h'' : Heap} (x : Tk h h') (y : Tk h' h'') : Tk h h'' := fun a i t => y a i (x a i t)
theorem Tk.mono {h h' : Heap} (e : ∀ b o, h.get? b = some o → h'.get? b = some o) : Tk h h' := fun a i t => IsTuple_keep t e

section
variable {prog : Program} {w : World} {A : Around} {E : Value → Shared → Prop} {s : Shared}
theorem mapSeq_set_plain (its : Array Value) (n j : Nat) (x : Value) :
    ∃ n', Obj.mapSeq (·.setIfInBounds j x) { cls := .type "list", data := .seq its n } = { cls := .type "list", data := .seq (its.setIfInBounds j x) n' } := by
  exact ⟨_, by simp only [Obj.mapSeq]; rfl⟩

theorem setItem_plain {l : Addr} {items : Array Value} {k : Int} {t : Tok} {v : Value} {Q : Unit → Shared → Prop} (hl : s.heap.PlainList l items)
    (h0 : 0 ≤ k) (hfit : k < 2 ^ 63) (hn : k < items.size)
    (hQ : ∀ h', h'.PlainList l (items.setIfInBounds k.toNat v) → Heap.SameBut l s.heap h' → Q () { s with heap := h' }) :
    wpAny (model prog w) A (setItem (.ref l) (.int k t) v) Q E s := by
  obtain ⟨ne, ho⟩ := id hl
  unfold setItem
  try with_reducible refine wpAny_holding ?_
  first | refine wpAny_bind (wpAny_pure ?_) | skip
  refine wpAny_bind (wpAny_sequenceKey hl.isList.typeIs (by decide) ?_)
  refine wpAny_bind (wpAny_callSpecial?_slot (name := Str.ofString "__setitem__") hl.isList.typeIs slot_list_setitem
    (wpAny_call_entry slot_list_setitem hl.isList.typeIs entry_list_setitem ?_ (args_list_setitem _ _ _)))
  show wpAny _ _ (Builtin.List.listSubscript? (.int k t) >>= _) _ _ s
  refine wpAny_bind (wpAny_listSubscript_int (fitsIndex_of h0 hfit) ?_)
  clear hfit
  obtain ⟨j, rfl⟩ := Int.eq_ofNat_of_zero_le h0
  have hj : j < items.size := by omega
  have hx' : items[j]? = some items[j] := Array.getElem?_eq_getElem hj
  show wpAny _ _ ((seqItemAt l j >>= fun r => pure (r.map (j, ·))) >>= _) _ _ s
  refine wpAny_bind (wpAny_bind (wpAny_seqItemAt ho rfl (wpAny_pure ?_)))
  rw [hx']
  show wpAny _ _ (setSeqItemAt l j v >>= _) _ _ s
  obtain ⟨n', hd'⟩ := mapSeq_set_plain items ne j v
  have hfin : (s.heap.update l (Obj.mapSeq (·.setIfInBounds j v))).PlainList l (items.setIfInBounds j v) :=
    ⟨n', by rw [Heap.get?_update_self _ ho (by rw [hd']; rfl), hd']⟩
  refine wpAny_bind (wpAny_setSeqItemAt ho rfl ?_)
  first
    | exact wpAny_bind (wpAny_pure (wpAny_pure ⟨.none, rfl, wpAny_pure (hQ _ hfin (Heap.SameBut.update ..))⟩))
    | exact wpAny_pure ⟨.none, rfl, wpAny_pure (hQ _ hfin (Heap.SameBut.update ..))⟩
end

section
variable {base h₀ h h' : Heap} {k : Nat} {sc : Sc} {env : Env} {T : List (Addr × Obj)} {ρ : Rho} {A : Around}

/-- an own list may be written anew -/
theorem own_at (I : Inv base h₀ k sc env T ρ A h) {x : Str} {i : Nat} {ds : List D} (hx : isVarK (sc.kd.lookup x) = true) (hi : sc.ix.lookup x = some i) (hρ : ρ.get i = some (.own ds)) :
    ∃ a vs, At h env x (.ref a) ∧ h.PlainList a (List.toArray vs) ∧ Vs h vs ds ∧ D.pures ds = true ∧ ds.length ≤ lim ∧
      ∀ h₂ h' vs' ds', (∀ b o, h.get? b = some o → h₂.get? b = some o) → Heap.SameBut a h₂ h' → h'.PlainList a (List.toArray vs') → Vs h₂ vs' ds' → D.pures ds' = true → ds'.length ≤ lim →
        Inv base h₀ k sc env T (ρ.set i (some (.own ds'))) A h' ∧ Tk h₂ h' := by
  obtain ⟨α, a1, a2, a3⟩ := I.own
  obtain ⟨v, p, rfl, vs, q1, q2, q3, q4⟩ := a1 x i _ hx hi hρ
  refine ⟨α i, vs, p, q1, q2, q3, q4, fun h₂ h' vs' ds' K hs hl hv hp hle => ?_⟩
  have I₂ := I.mono K
  have b1 : ∀ x i lo, isVarK (sc.kd.lookup x) = true → sc.ix.lookup x = some i → ρ.get i = some lo → ∃ v, At h₂ env x v ∧ LoV h₀ h₂ (α i) v lo := fun x i lo q1 q2 q3 =>
    let ⟨v, p, q⟩ := a1 x i lo q1 q2 q3; ⟨v, p.mono K, q.change (fun a items t => IsTuple_keep t K) fun _ _ o => K _ o⟩
  have b2 : ∀ i ds, ρ.get i = some (.own ds) → h₀.get? (α i) = none ∧ (∀ p ∈ T, p.1 ≠ α i) ∧ ∃ xs, h₂.PlainList (α i) xs := fun i ds q =>
    let ⟨p1, p2, xs, p3⟩ := a2 i ds q; ⟨p1, p2, xs, p3.at fun o => K _ o⟩
  have hl₂ : h₂.PlainList (α i) (List.toArray vs) := q1.at fun o => K _ o
  obtain ⟨e1, e2, _⟩ := a2 i ds hρ
  have kt : ∀ b items, h₂.IsTuple b items → b ≠ α i := fun b items t => list_notuple hl₂ t
  obtain ⟨m, hm⟩ := I₂.ns
  have hLa : env.locals ≠ α i := Ne.symm (ns_nolist hm hl₂)
  have hCa : ∀ y c, env.cells.lookup y = some c → c ≠ α i := fun y c hc => by
    obtain ⟨_, _, ⟨v', r⟩, _⟩ := I₂.cel y c hc
    exact Ne.symm (cell_nolist r hl₂)
  have atk : ∀ y w, At h₂ env y w → At h' env y w := by
    intro y w ha
    cases ha with
    | loc m' e1 e2 e3 => exact .loc m' e1 (e2.sameBut hs hLa) e3
    | cell c e1 e2 e3 => exact .cell c e1 e2 (e3.sameBut hs (hCa y c e2))
  obtain ⟨n', ho'⟩ := id hl
  refine ⟨I₂.change hx hi hs e1 e2 ho' (fun vs q => by cases q) kt ⟨m, hm.sameBut hs hLa⟩ (fun y c hc => ?_) (fun y w _ ha => atk y w ha) (atk x _ (p.mono K)) α b1 b2 a3 (fun j es hj q => a3 j i es ds q hρ hj) ⟨rfl, vs', hl, hv.pureKeep (tuple_but hs kt) hp, hp, hle⟩ ?_, tuple_but hs kt⟩
  · obtain ⟨_, _, ⟨v', r⟩, _⟩ := I₂.cel y c hc
    exact ⟨v', r.sameBut hs (hCa y c hc)⟩
  · intro ds'' _
    exact ⟨e1, e2, fun j es hj q => a3 j i es ds q hρ hj⟩

theorem funFrames_ne {C : Addr} (hk : ∀ a q, a ≠ C → h.get? a = some q → h'.get? a = some q) : ∀ {l : List Env}, h.FunFrames base l → (∀ e ∈ l, e.frame ≠ some C) → h'.FunFrames base l
  | [], _, _ => trivial
  | env :: _, ⟨hf, ⟨L, o, e1, e2, e3, e4⟩, hr⟩, hn => ⟨hf, ⟨L, o, e1, e2, hk L o (fun q => hn env (.head _) (q ▸ e1)) e3, e4⟩, funFrames_ne hk hr fun e he => hn e (.tail _ he)⟩

/-- an object that is none of the frame's is changed -/
theorem Inv.aside {C : Addr} (I : Inv base h₀ k sc env T ρ A h) (hk : ∀ a q, a ≠ C → h.get? a = some q → h'.get? a = some q) (h0 : h₀.get? C = none) (neL : env.locals ≠ C) (neC : ∀ x c, env.cells.lookup x = some c → c ≠ C) (hT : ∀ p ∈ T, p.1 ≠ C)
    (htup : ∀ a items, h.IsTuple a items → a ≠ C) (kl : ∀ a xs, h.PlainList a xs → a ≠ C) (hfr : ∀ l, A.frames = some l → ∀ e ∈ l, e.frame ≠ some C) : Inv base h₀ k sc env T ρ A h' ∧ Tk h h' := by
  have kt : ∀ a items, h.IsTuple a items → h'.IsTuple a items := by
    rintro a items t
    have := htup a items t
    obtain ⟨o'', ho', hc, n, hd'⟩ := t
    exact ⟨o'', hk a o'' this ho', hc, n, hd'⟩
  refine ⟨?_, kt⟩
  obtain ⟨α, a1, a2, a3⟩ := I.own
  refine ⟨I.names, I.kind, I.glob, I.blt, I.cells, I.len, I.inj, I.lt, fun a q e => hk a q (by rintro rfl; rw [h0] at e; cases e) (I.keep a q e), I.newL, let ⟨m, hm⟩ := I.ns; ⟨m, hm.at' fun o e => hk _ o neL e⟩, fun x c hx => ?_, ⟨α, fun x i lo q1 q2 q3 => ?_, fun i ds q => ?_, a3⟩, fun p hp => ?_, ?_, I.frame, I.stk, I.above, I.bse⟩
  · obtain ⟨p1, p2, ⟨v, o'', ho', hd'⟩, p4⟩ := I.cel x c hx
    exact ⟨p1, p2, ⟨v, o'', hk c o'' (neC x c hx) ho', hd'⟩, p4⟩
  · obtain ⟨v, p, q⟩ := a1 x i lo q1 q2 q3
    refine ⟨v, ?_, q.change kt fun ds e o ho => ?_⟩
    · cases p with
      | loc m e1 e2 e3 => exact .loc m e1 (e2.at' fun o e => hk _ o neL e) e3
      | cell c e1 e2 e3 => obtain ⟨o'', ho', hd'⟩ := e3; exact .cell c e1 e2 ⟨o'', hk c o'' (neC x c e2) ho', hd'⟩
    · subst e
      obtain ⟨_, _, xs, p3⟩ := a2 i ds q3
      exact hk _ o (kl _ _ p3) ho
  · obtain ⟨p1, p2, xs, p3⟩ := a2 i ds q
    exact ⟨p1, p2, xs, p3.at fun o e => hk _ o (kl _ _ p3) e⟩
  · obtain ⟨p1, p2⟩ := I.prot p hp
    exact ⟨hk _ _ (hT p hp) p1, p2⟩
  · obtain ⟨x1, x2, x3, l, L⟩ := I.ok
    exact ⟨x1, x2, x3, l, L.stack, fun a q e => hk a q (by rintro rfl; have := I.bse _ _ e; rw [h0] at this; cases this) (L.stays a q e), funFrames_ne hk L.frames (hfr l L.stack)⟩

theorem Inv.frames_ne (I : Inv base h₀ k sc env T ρ A h) {C : Addr} (hC : h.get? C = none) : ∀ l, A.frames = some l → ∀ e ∈ l, e.frame ≠ some C := by
  obtain ⟨x1, x2, x3, l, L⟩ := I.ok
  intro l' hl e he hf
  rw [L.stack] at hl; cases hl
  have := (L.frames.mem (List.mem_filterMap.mpr ⟨e, he, hf⟩)).2
  obtain ⟨o, ho, _⟩ := this
  rw [hC] at ho; cases ho
end

section
variable {prog : Program} {w : World} {base : Heap} {fns : List Str} {mg mb : Str → Option Value} {fa : Nat → Addr} {Φ : Fns} {k : Nat}

noncomputable def FinR (base h₀ : Heap) (k : Nat) (sc : Sc) (env : Env) (T : List (Addr × Obj)) (A : Around) (s : Shared) (r : R) (fl : Flow) (s' : Shared) : Prop :=
  Same s s' ∧ Tk s.heap s'.heap ∧ match r with
    | .next ρ => fl = .next ∧ Inv base h₀ k sc env T ρ A s'.heap
    | .cont ρ => fl = .cont ∧ Inv base h₀ k sc env T ρ A s'.heap
    | .ret d => ∃ v ρ, fl = .ret v ∧ V s'.heap v d ∧ Inv base h₀ k sc env T ρ A s'.heap
    | .err _ => False

theorem FinR.after {h₀ : Heap} {sc : Sc} {env : Env} {T : List (Addr × Obj)} {A : Around} {s s₁ s' : Shared} {r : R} {fl : Flow} (h : Same s s₁) (t : Tk s.heap s₁.heap) (x : FinR base h₀ k sc env T A s₁ r fl s') : FinR base h₀ k sc env T A s r fl s' :=
  ⟨h.trans x.1, t.trans x.2.1, x.2.2⟩

abbrev RZt := Heap → Env → Around → Nat → Value → Heap → Prop

noncomputable def XOK (prog : Program) (w : World) (base : Heap) (Φ : Fns) (k : Nat) (RZ : RZt) (sc : Sc) (st : Stmt) (st' : S) : Prop :=
  ∀ h₀ env T ρ A s r Q E, Inv base h₀ k sc env T ρ A s.heap → PassesOwn (model prog w) A env E → ex Φ ρ st' = some r → (∀ fl s', FinR base h₀ k sc env T A s r fl s' → Q fl s') →
    (∀ c e s', r = .err c → Same s s' → RZ h₀ env A c e s'.heap → E e s') → wpAny (model prog w) A (exec st env) Q E s
noncomputable def XsOK (prog : Program) (w : World) (base : Heap) (Φ : Fns) (k : Nat) (RZ : RZt) (sc : Sc) (st : List Stmt) (st' : Ss) : Prop :=
  ∀ h₀ env T ρ A s r Q E, Inv base h₀ k sc env T ρ A s.heap → PassesOwn (model prog w) A env E → exs Φ ρ st' = some r → (∀ fl s', FinR base h₀ k sc env T A s r fl s' → Q fl s') →
    (∀ c e s', r = .err c → Same s s' → RZ h₀ env A c e s'.heap → E e s') → wpAny (model prog w) A (execs st env) Q E s

structure Errs (prog : Program) (w : World) (base : Heap) (Φ : Fns) (fa : Nat → Addr) (k : Nat) (excs : List Str) (RZ : RZt) : Prop where
  rais : ∀ (sc : Sc) x p m q1 q2 q3 pos c, glob sc x = true → excs.idxOf? x = some c → ∀ h₀ env T ρ A s Q E, Inv base h₀ k sc env T ρ A s.heap → (∀ e s', Same s s' → RZ h₀ env A c e s'.heap → E e s') →
    wpAny (model prog w) A (exec (.Raise (some (.Call (.Name x p) [.Constant (.str m) q1 q2] [] q3)) none pos) env) Q E s
  call : ∀ (sc : Sc) f ds c h₀ env T ρ A s vs, Φ f ds = some (.err c) → Inv base h₀ k sc env T ρ A s.heap → Vs s.heap vs ds →
    wpAny (model prog w) A (call (.ref (fa f)) vs) (fun _ _ => False) (fun e s' => Same s s' ∧ RZ h₀ env A c e s'.heap) s
end
end Mine

namespace Mine
open PySem PySem.Calls PyProof.Rows PySem.SeqAt

theorem idxVar_some {sc : Sc} {x : Str} {i : Nat} (h : idxVar sc x = some i) : isVarK (sc.kd.lookup x) = true ∧ sc.ix.lookup x = some i := by
  replace h := oi' h
  obtain ⟨q, h⟩ := h
  exact ⟨(Bool.and_eq_true _ _ ▸ q).1, h⟩
theorem idxVar_dbg {sc : Sc} {x : Str} {i : Nat} (h : idxVar sc x = some i) : (x == ("__debug__" : Str)) = false := by
  replace h := oi' h
  obtain ⟨q, h⟩ := h
  have := (Bool.and_eq_true _ _ ▸ q).2
  exact Bool.not_eq_true' _ ▸ this
theorem idxVars_cons {sc : Sc} {e : Expr} {r : List Expr} {is : List Nat} (h : idxVars sc (e :: r) = some is) : ∃ x p i is', e = .Name x p ∧ idxVar sc x = some i ∧ idxVars sc r = some is' ∧ is = i :: is' := by
  replace h := ob h
  obtain ⟨x, hx, h1⟩ := h
  replace h1 := ob h1
  obtain ⟨i, hi, h2⟩ := h1
  replace h2 := om h2
  obtain ⟨is', hs, rfl⟩ := h2
  obtain ⟨p, rfl⟩ := nameOf_some hx
  exact ⟨x, p, i, is', rfl, hi, hs, rfl⟩

section
variable {prog : Program} {w : World} {base h₀ : Heap} {fns : List Str} {mg mb : Str → Option Value} {fa : Nat → Addr} {Φ : Fns} {k : Nat} {sc : Sc} {env : Env} {T : List (Addr × Obj)} {ρ : Rho} {A : Around} {E : Value → Shared → Prop} {s : Shared}

/-- a name gets data -/
theorem put_ok {A' : Around} {s₁ : Shared} {x : Str} {i : Nat} {v : Value} {d : D} {Q : Unit → Shared → Prop} (I : Inv base h₀ k sc env T ρ A s.heap) (hx : idxVar sc x = some i) (K : Keeps s s₁) (hv : V s₁.heap v d) (hp : d.pure = true)
    (hQ : ∀ s', FinR base h₀ k sc env T A s (.next (ρ.set i (some (.dat d)))) .next s' → Q () s') : wpAny (model prog w) A' (storeName env x v) Q E s₁ := by
  obtain ⟨h1, h2⟩ := idxVar_some hx
  refine store_ok (lo' := .dat d) (a' := 0) I (keeps_heap K) h1 h2 ⟨hv, hp⟩ (fun _ e => by cases e) fun h' tk I' t _ => hQ _ ⟨(Same.keeps K).trans (Same.mk' _ _ _), (Tk.mono (keeps_heap K)).trans t, rfl, I'⟩

theorem asg_ok {x : Str} {px pos : Pos} {value : Expr} {i : Nat} {d : D} {Q : Flow → Shared → Prop} (I : Inv base h₀ k sc env T ρ A s.heap) (hx : idxVar sc x = some i) (hs : swapsWith value (some (.Name x px)) pos.line env = pure false)
    (he : wpAny (model prog w) A (eval value env) (Post s d) E s) (hp : d.pure = true) (hQ : ∀ fl s', FinR base h₀ k sc env T A s (.next (ρ.set i (some (.dat d)))) fl s' → Q fl s') :
    wpAny (model prog w) A (exec (.Assign [.Name x px] value pos) env) Q E s :=
  wpAny_Assign_Name (wpAny_mono he (fun v s₁ q => put_ok I hx q.1 q.2 hp fun s' f => hQ _ _ f) fun _ _ x => x) hs

/-- a name gets a fresh list -/
theorem putL_ok {hb : Heap} {s₁ : Shared} {x : Str} {i : Nat} {a : Addr} {vs : List Value} {ds : List D} {Q : Unit → Shared → Prop} (I : Inv base h₀ k sc env T ρ A hb) (hx : idxVar sc x = some i) (K : ∀ b o, hb.get? b = some o → s₁.heap.get? b = some o) (hn : hb.get? a = none)
    (hl : s₁.heap.PlainList a (List.toArray vs)) (hv : Vs s₁.heap vs ds) (hp : D.pures ds = true) (hle : ds.length ≤ lim)
    (hQ : ∀ h' tk, Inv base h₀ k sc env T (ρ.set i (some (.own ds))) A h' → Tk s₁.heap h' → (∃ a, Heap.SameBut a s₁.heap h' ∧ (a = env.locals ∨ ∃ y, env.cells.lookup y = some a)) → Q () { s₁ with heap := h', toks := tk }) : wpAny (model prog w) A (storeName env x (.ref a)) Q E s₁ := by
  obtain ⟨h1, h2⟩ := idxVar_some hx
  exact store_ok (lo' := .own ds) (a' := a) I K h1 h2 ⟨rfl, vs, hl, hv, hp, hle⟩ (fun _ _ => hn) hQ

theorem asgL_ok {x : Str} {px pos : Pos} {value : Expr} {i : Nat} {ds : List D} {Q : Flow → Shared → Prop} (I : Inv base h₀ k sc env T ρ A s.heap) (hx : idxVar sc x = some i) (hs : swapsWith value (some (.Name x px)) pos.line env = pure false)
    (he : wpAny (model prog w) A (eval value env) (fun v s₁ => ∃ a vs, v = .ref a ∧ Keeps s s₁ ∧ s.heap.get? a = none ∧ s₁.heap.PlainList a (List.toArray vs) ∧ Vs s₁.heap vs ds ∧ ds.length ≤ lim) E s) (hp : D.pures ds = true)
    (hQ : ∀ fl s', FinR base h₀ k sc env T A s (.next (ρ.set i (some (.own ds)))) fl s' → Q fl s') :
    wpAny (model prog w) A (exec (.Assign [.Name x px] value pos) env) Q E s := by
  refine wpAny_Assign_Name (wpAny_mono he (fun v s₁ q => ?_) fun _ _ x => x) hs
  obtain ⟨a, vs, rfl, K, hn, hl, hv, hle⟩ := q
  exact putL_ok I hx (keeps_heap K) hn hl hv hp hle fun h' tk I' t _ => hQ _ _ ⟨(Same.keeps K).trans (Same.mk' _ _ _), (Tk.mono (keeps_heap K)).trans t, rfl, I'⟩

theorem idxVars_each : ∀ {es : List Expr} {is : List Nat}, idxVars sc es = some is → (assignEach es env).length = is.length ∧ (assignEach es env).findIdx? (·.1) = none
  | [], is, h => by cases h; exact ⟨rfl, rfl⟩
  | e :: r, is, h => by
    obtain ⟨x, p, i, is', rfl, _, h2, rfl⟩ := idxVars_cons h
    obtain ⟨a, b⟩ := idxVars_each h2
    refine ⟨congrArg (· + 1) a, ?_⟩
    show List.findIdx? _ ((false, _) :: assignEach r env) = none
    rw [List.findIdx?_cons, b]; rfl

/-- names get a tuple's items -/
theorem puts_ok {Q : Unit → Shared → Prop} : ∀ {es : List Expr} {is : List Nat} {vs : List Value} {ds : List D} {ρ : Rho} {s₁ : Shared}, idxVars sc es = some is → Inv base h₀ k sc env T ρ A s₁.heap → Vs s₁.heap vs ds → ds.length = is.length → D.pures ds = true →
    (∀ s', FinR base h₀ k sc env T A s₁ (.next (setAll ρ is ds)) .next s' → Q () s') → wpAny (model prog w) A (assignInOrder ((assignEach es env).map (·.2)) vs) Q E s₁
  | [], is, vs, ds, ρ, s₁, h, I, hv, hl, hp, hQ => by
    cases h
    cases ds with
    | nil => exact assignInOrder_nil (hQ _ ⟨Same.refl _, Tk.refl _, rfl, I⟩)
    | cons d ds => cases hl
  | e :: r, is, vs, ds, ρ, s₁, h, I, hv, hl, hp, hQ => by
    obtain ⟨x, p, i, is', rfl, h1, h2, rfl⟩ := idxVars_cons h
    cases hv with
    | nil => cases hl
    | cons a b =>
      have hp := Bool.and_eq_true _ _ ▸ hp
      refine assignInOrder_cons (wpAny_assign_Name (put_ok I h1 (keeps_refl _) a hp.1 fun s' f => ?_))
      exact puts_ok h2 f.2.2.2 (b.pureKeep f.2.1 hp.2) (Nat.succ.inj hl) hp.2 fun s'' g => hQ _ (g.after f.1 f.2.1)

theorem Inv.tup (I : Inv base h₀ k sc env T ρ A s.heap) : A.handled = none := I.ok.hand

theorem unp_ok {es : List Expr} {is : List Nat} {kk : Nat} {tp pos : Pos} {value : Expr} {ds : List D} {Q : Flow → Shared → Prop} {x1} (I : Inv base h₀ k sc env T ρ A s.heap) (hx : idxVars sc es = some is)
    (hs : swapsWithSole [.Tuple es x1 tp] value pos.line env = pure false) (hw : swappedStores [.Tuple es x1 tp] value env = pure none)
    (he : wpAny (model prog w) A (eval value env) (Post s (.tup ds)) E s) (hp : D.pures ds = true) (hl : ds.length = is.length) (hQ : ∀ fl s', FinR base h₀ k sc env T A s (.next (setAll ρ is ds)) fl s' → Q fl s') :
    wpAny (model prog w) A (exec (.Assign [.Tuple es x1 tp] value pos) env) Q E s := by
  refine Assign_Tuple (wpAny_mono he (fun v s₁ q => ?_) fun _ _ x => x) hs hw
  obtain ⟨K, hv⟩ := q
  cases hv with
  | tup ht hvs hle =>
    rename_i a vs
    have hlen := hvs.length
    obtain ⟨q1, q2⟩ := idxVars_each (env := env) hx
    refine wpAny_assign_Tuple I.ok.hand ht (by rw [q1, List.size_toArray]; omega) q2 fun h' he' => ?_
    have K' : ∀ b o, s₁.heap.get? b = some o → h'.get? b = some o := fun b o e => he' b o (Nat.ne_of_lt (Heap.lt_size e)) e
    refine puts_ok (s₁ := { s₁ with heap := h' }) hx ((I.mono (keeps_heap K)).mono K') (hvs.mono K') hl hp fun s' f => hQ _ _ (f.after ((Same.keeps K).trans ⟨h', s₁.toks, rfl⟩) ((Tk.mono (keeps_heap K)).trans (Tk.mono K')))
end

section
variable {prog : Program} {w : World} {base h₀ : Heap} {fns excs : List Str} {mg mb : Str → Option Value} {fa : Nat → Addr} {Φ : Fns} {k n : Nat} {sc : Sc} {env : Env} {T : List (Addr × Obj)} {ρ : Rho} {A : Around} {s : Shared} {RZ : RZt}

theorem asCall_parts {v : Expr} {q : Nat × Es} (h : asCall fns n sc v = some q) : ∃ g p a r pos, v = .Call (.Name g p) (a :: r) [] pos ∧ glob sc g = true ∧ fns.idxOf? g = some q.1 ∧ cEs (cE fns n sc) (a :: r) = some q.2 := by
  replace h := ob h
  obtain ⟨⟨fn, args, pos⟩, hc, h3⟩ := h
  replace h3 := ob h3
  obtain ⟨g, hg, h4⟩ := h3
  replace h4 := oi' h4
  obtain ⟨⟨h1, h2⟩, h5⟩ := h4
  replace h5 := ob h5
  obtain ⟨i, hi, h6⟩ := h5
  replace h6 := om h6
  obtain ⟨es, hes, rfl⟩ := h6
  have := callOf_some hc; subst this
  obtain ⟨p, hp⟩ := nameOf_some hg
  have hp : fn = .Name g p := hp
  subst hp
  cases args with
  | nil => cases h2
  | cons a r => exact ⟨g, p, a, r, pos, rfl, h1, hi, hes⟩

theorem asCall_ok (G : Gl fns base mg mb fa) (hΦ : FnsOk prog w base Φ fa k) (ER : Errs prog w base Φ fa k excs RZ) {v : Expr} {q : Nat × Es} (h : asCall fns n sc v = some q) (I : Inv base h₀ k sc env T ρ A s.heap)
    {ds : List D} {out : Out} (hds : evs Φ ρ q.2 = some ds) (ho : Φ q.1 ds = some out) :
    wpAny (model prog w) A (eval v env) (fun r s' => ∃ d, out = .ok d ∧ Post s d r s') (fun e s' => ∃ c, out = .err c ∧ Same s s' ∧ RZ h₀ env A c e s'.heap) s := by
  obtain ⟨g, p, a, r, pos, rfl, hg, hi, hes⟩ := asCall_parts h
  have J := ev_sound (prog := prog) (w := w) (k := k) G hΦ n sc
  have hn := idxOf?_get hi
  obtain ⟨o, fd, h1, h2, h3⟩ := G.fn q.1 g hn
  obtain ⟨a', ha, _⟩ := ob (show ((cE fns n sc a).bind _) = some q.2 from hes)
  refine Call_ (load_fn G I.cx hg hn (callWith_def h3 ?_ (starEach_plain (J.plain ha) _ _)))
  refine wpAny_mono (args_ok J (a :: r) q.2 hes env ρ A s ds _ pos I.cx hds) (fun vs s₁ h₁ => ?_) fun _ _ x => x
  have I₁ := I.mono (keeps_heap h₁.1)
  refine ⟨I₁.ok.stays _ _ h2, ?_⟩
  cases out with
  | ok d => exact wpAny_mono (hΦ q.1 ds d A s₁ vs _ ho I₁.ok h₁.2) (fun r s₂ h₂ => ⟨d, rfl, keeps_trans h₁.1 h₂.1, h₂.2⟩) fun _ _ x => x
  | err c => exact wpAny_mono (ER.call sc q.1 ds c h₀ env T ρ A s₁ vs ho I₁ h₁.2) (fun r s₂ h₂ => h₂.elim) fun e s₂ h₂ => ⟨c, rfl, (Same.keeps h₁.1).trans h₂.1, h₂.2⟩

theorem asCall_swaps {v : Expr} {q : Nat × Es} (h : asCall fns n sc v = some q) (t : Option Expr) (l : Nat) (env : Env) : swapsWith v t l env = pure false := by
  obtain ⟨g, p, a, r, pos, rfl, _⟩ := asCall_parts h; rfl
theorem asCall_stores {v : Expr} {q : Nat × Es} (h : asCall fns n sc v = some q) (ts : List Expr) {x1} {tp : Pos} (env : Env) : swappedStores [.Tuple ts x1 tp] v env = pure none := by
  obtain ⟨g, p, a, r, pos, rfl, _⟩ := asCall_parts h; rfl
end
end Mine

namespace Mine
open PySem PySem.Calls PyProof.Rows PySem.SeqAt

theorem loopO_drop {α : Type} {body : α → Rho → Option R} {as : List α} {i : Nat} {a : α} {ρ : Rho} (h : as[i]? = some a) : loopO body (as.drop i) ρ = (body a ρ).bind (afterR fun ρ' => loopO body (as.drop (i + 1)) ρ') := by
  obtain ⟨hi, rfl⟩ := List.getElem?_eq_some_iff.mp h
  rw [List.drop_eq_getElem_cons hi]; rfl

theorem noOwn_get {ρ : Rho} (h : ρ.noOwn = true) (i : Nat) (ds : List D) : ρ.get i ≠ some (.own ds) := by
  intro hq
  cases hg : ρ[i]? with
  | none => rw [Rho.get, hg] at hq; cases hq
  | some lo =>
    rw [Rho.get, hg] at hq
    have hq : lo = some (.own ds) := hq
    have := List.all_eq_true.mp h _ (List.mem_of_getElem? hg)
    rw [hq] at this; cases this

section
variable {prog : Program} {w : World} {base h₀ : Heap} {fns excs : List Str} {mg mb : Str → Option Value} {fa : Nat → Addr} {Φ : Fns} {k n : Nat} {sc : Sc} {env : Env} {T : List (Addr × Obj)} {ρ : Rho} {A : Around} {s : Shared} {RZ : RZt} {E : Value → Shared → Prop}

theorem guard_seq {h : Heap} {ax : Addr} {d : D} (I : Inv base h₀ k sc env T ρ A h) (hV : V h (.ref ax) d) (alt : (∃ q, d = .tup q) ∨ h₀.get? ax ≠ none ∨ ∀ i ds, ρ.get i ≠ some (.own ds)) : ∃ o, Inv base h₀ k sc env ((ax, o) :: T) ρ A h := by
  cases hV with
  | tup hp _ _ =>
    obtain ⟨o, ho1, hc, nn, hd⟩ := id hp
    exact ⟨o, I.guard ho1 (fun es n q => by rw [hd] at q; cases q) (fun v q => by rw [hd] at q; cases q) (.inl fun xs hq => list_notuple hq hp rfl)⟩
  | lst hp _ _ =>
    obtain ⟨nn, ho1⟩ := id hp
    exact ⟨_, I.guard ho1 (fun es n q => by cases q) (fun v q => by cases q) (.inr (alt.resolve_left fun ⟨q, e⟩ => by cases e))⟩

/-- a loop may begin: what is walked is guarded -/
noncomputable def LoopAt (prog : Program) (w : World) (base h₀ : Heap) (k : Nat) (sc : Sc) (env : Env) (T : List (Addr × Obj)) (ρ : Rho) (A : Around) (s : Shared) (ds : List D) (s₁ : Shared) (itv : Value) (s₂ : Shared) : Prop :=
  ∃ I' g, itv = .ref I' ∧ Keeps s s₁ ∧ Keeps s₁ s₂ ∧ Wk prog w A s₁.heap s₂ I' (I' :: g.map (·.1)) ds ∧ Inv base h₀ k sc env (g ++ T) ρ A s₁.heap

theorem itS_ok {f : Expr → Option Mine.E} (G : Gl fns base mg mb fa) (J : Judged prog w base Φ k sc f) {iter : Expr} {it : It} (h : cIt f sc iter = some it) {ds : List D}
    (I : Inv base h₀ k sc env T ρ A s.heap) (hv : evIt Φ ρ it = some ds) (ho : itOk Φ ρ it = true) :
    (∀ x, foldedSetIterable iter env x = pure x) ∧ wpAny (model prog w) A (eval iter env) (fun xv s₁ => wpAny (model prog w) A (pyIter xv) (LoopAt prog w base h₀ k sc env T ρ A s ds s₁) E s₁) E s := by
  have b := it_ok (prog := prog) (w := w) (E := E) G J h I.cx hv
  refine ⟨b.1, wpAny_mono b.2 (fun xv s₁ h₁ => wpAny_mono h₁ (fun itv s₂ h₂ => ?_) fun _ _ x => x) fun _ _ x => x⟩
  obtain ⟨_, I', g, e1, K1, K2, W, S⟩ := h₂
  have I₁ := I.mono (keeps_heap K1)
  rcases S with ⟨_, rfl⟩ | ⟨e', d, ax, rfl, hd, rfl, hV, rfl⟩
  · exact ⟨I', [], e1, K1, K2, W, I₁⟩
  · have alt : (∃ q, d = .tup q) ∨ h₀.get? ax ≠ none ∨ ∀ i ds, ρ.get i ≠ some (.own ds) := by
      have ho : (ρ.noOwn || ((ev Φ ρ e').bind tupOf).isSome) = true := ho
      rcases Bool.or_eq_true _ _ ▸ ho with q | q
      · exact .inr (.inr (noOwn_get q))
      · rw [hd] at q
        obtain ⟨z, hz⟩ := Option.isSome_iff_exists.mp q
        exact .inl ⟨z, tupOf_some hz⟩
    obtain ⟨o, Ig⟩ := guard_seq I₁ hV alt
    exact ⟨I', [(ax, o)], e1, K1, K2, W, Ig⟩

theorem itV_ok {y : Str} {p : Pos} {j : Nat} {lo : Lo} {ds : List D} (hy : idxVar sc y = some j) (I : Inv base h₀ k sc env T ρ A s.heap) (hlo : ρ.get j = some lo) (hi : items lo.val = some ds) (ho : lo.own?.isNone = true) :
    wpAny (model prog w) A (eval (.Name y p) env) (fun xv s₁ => wpAny (model prog w) A (pyIter xv) (LoopAt prog w base h₀ k sc env T ρ A s ds s₁) E s₁) E s := by
  obtain ⟨h1, h2⟩ := idxVar_some hy
  obtain ⟨α, a1, a2, a3⟩ := I.own
  obtain ⟨v, hat, hL⟩ := a1 y j lo h1 h2 hlo
  have hV := hL.val I.keep
  refine load_var (ρ := ρ) (sc := sc) I.kind hat (wpAny_mono (iter_seq I.ok.hand hV hi) (fun itv s₂ h₂ => ?_) fun _ _ x => x) (idxVar_dbg hy)
  obtain ⟨I', ax, e1, rfl, e2, e3⟩ := h₂
  have alt : (∃ q, lo.val = .tup q) ∨ h₀.get? ax ≠ none ∨ ∀ i ds, ρ.get i ≠ some (.own ds) := by
    cases lo with
    | own ds => cases ho
    | dat d =>
      refine .inl ?_
      have hp := hL.2
      cases d <;> first | (cases hi; done) | skip
      · exact ⟨_, rfl⟩
      · rw [D.pure, D.okN_lst] at hp; cases hp
    | arg d =>
      refine .inr (.inl ?_)
      have hL' : V h₀ (.ref ax) d := hL
      cases hL' with
      | tup hp _ _ => obtain ⟨o, ho1, _⟩ := hp; rw [ho1]; exact fun q => by cases q
      | lst hp _ _ => obtain ⟨nn, ho1⟩ := hp; rw [ho1]; exact fun q => by cases q
  obtain ⟨o, Ig⟩ := guard_seq I hV alt
  exact ⟨I', [(ax, o)], e1, keeps_refl s, e2, e3, Ig⟩
end
end Mine

namespace Mine
open PySem PySem.Calls PyProof.Rows PySem.SeqAt

theorem rangeD_pures (a b : Int) : D.pures (rangeD a b) = true := by
  simp only [D.pures, rangeD, List.all_map, List.all_eq_true]
  intro x _; rfl

theorem evIt_pures {Φ : Fns} {ρ : Rho} {it : It} {ds : List D} (h : evIt Φ ρ it = some ds) : D.pures ds = true := by
  cases it with
  | range a =>
    replace h := ob h
    obtain ⟨x, _, h⟩ := h
    replace h := ob h
    obtain ⟨n, _, h⟩ := h
    obtain ⟨_, rfl⟩ := oi h
    exact rangeD_pures _ _
  | range2 a b =>
    replace h := ob h
    obtain ⟨x, _, h⟩ := h
    replace h := ob h
    obtain ⟨y, _, h⟩ := h
    obtain ⟨m, n, _, _, h⟩ := i2_some h
    obtain ⟨_, rfl⟩ := oi h
    exact rangeD_pures _ _
  | seq e =>
    replace h := ob h
    obtain ⟨x, _, h⟩ := h
    replace h := ob h
    obtain ⟨n, _, h⟩ := h
    replace h := oi h
    obtain ⟨q, rfl⟩ := h
    exact q
theorem pures_get {ds : List D} {i : Nat} {d : D} (h : D.pures ds = true) (e : ds[i]? = some d) : d.pure = true := by
  simp only [D.pures, List.all_eq_true] at h
  exact h d (List.mem_of_getElem? e)

theorem Tk.but {H h' : Heap} {I : Addr} (hI : ∃ o, H.get? I = some o ∧ ∃ fs, o.data = .fields fs) (hk : ∀ b o, b ≠ I → H.get? b = some o → h'.get? b = some o) : Tk H h' :=
  tup_keep [I] (fun b o hb e => by
    simp only [List.mem_cons, List.not_mem_nil, or_false] at hb
    exact hk b o hb e) (bad0 hI)

section
variable {prog : Program} {w : World} {base : Heap} {fns excs : List Str} {mg mb : Str → Option Value} {fa : Nat → Addr} {Φ : Fns} {k n : Nat} {sc : Sc} {RZ : RZt}

theorem ofFields {base h₀ h : Heap} {env : Env} {T : List (Addr × Obj)} {ρ : Rho} {A : Around} {b : Addr} {o : Obj} {fs : Array Value} (I : Inv base h₀ k sc env T ρ A h) (ho : h.get? b = some o) (hf : o.data = .fields fs) : Inv base h₀ k sc env ((b, o) :: T) ρ A h :=
  I.guard ho (fun es n q => by rw [hf] at q; cases q) (fun v q => by rw [hf] at q; cases q) (.inl (fun xs q => by obtain ⟨nn, e⟩ := q; rw [ho] at e; cases e; cases hf))

/-- what is known when a turn begins -/
structure Turn (base h₀ : Heap) (k : Nat) (sc : Sc) (env : Env) (T : List (Addr × Obj)) (A : Around) (s s₁ : Shared) (St : Nat → Heap → Prop) (len : Nat) (cont : Nat → Rho → Option R) (r : R) (m : Nat) (s' : Shared) (j : Nat) (ρ' : Rho) : Prop where
  same : Same s s'
  tk : Tk s₁.heap s'.heap
  inv : Inv base h₀ k sc env T ρ' A s'.heap
  st : St j s'.heap
  run : cont j ρ' = some r
  left : m = len + 1 - j
  le : j ≤ len

/-- the body of a turn is done -/
theorem turn_done {base h₀ : Heap} {env : Env} {T T' T₀ : List (Addr × Obj)} {A : Around} {s s₁ s₃ s₄ : Shared} {St : Nat → Heap → Prop} {len : Nat} {cont : Nat → Rho → Option R} {r rb : R} {j : Nat} {fl : Flow} {Q : Flow → Shared → Prop}
    (hlt : j < len) (h01 : Tk s.heap s₁.heap) (s3 : Same s s₃) (t3 : Tk s₁.heap s₃.heap) (hl : afterR (cont (j + 1)) rb = some r) (sub : ∀ p ∈ T, p ∈ T') (sub₀ : ∀ p ∈ T₀, p ∈ T')
    (stk : ∀ (ρ'' : Rho) (s₄ : Shared), Inv base h₀ k sc env T' ρ'' A s₄.heap → St (j + 1) s₄.heap)
    (hQ : ∀ fl s', FinR base h₀ k sc env T₀ A s r fl s' → Q fl s') (F : FinR base h₀ k sc env T' A s₃ rb fl s₄) :
    ((fl = .next ∨ fl = .cont) ∧ ∃ m, m < len + 1 - j ∧ ∃ j' ρ', Turn base h₀ k sc env T A s s₁ St len cont r m s₄ j' ρ') ∨ ∃ v, fl = .ret v ∧ Q (.ret v) s₄ := by
  obtain ⟨F1, F2, F3⟩ := F
  have go : ∀ ρ'', Inv base h₀ k sc env T' ρ'' A s₄.heap → cont (j + 1) ρ'' = some r → ∃ m, m < len + 1 - j ∧ ∃ j' ρ', Turn base h₀ k sc env T A s s₁ St len cont r m s₄ j' ρ' := fun ρ'' K4 hl =>
    ⟨len + 1 - (j + 1), by omega, j + 1, ρ'', s3.trans F1, t3.trans F2, K4.less sub, stk ρ'' s₄ K4, hl, rfl, hlt⟩
  cases rb with
  | next ρ'' => exact .inl ⟨.inl F3.1, go ρ'' F3.2 hl⟩
  | cont ρ'' => exact .inl ⟨.inr F3.1, go ρ'' F3.2 hl⟩
  | ret d' =>
    obtain ⟨v', ρ'', e, hV', K4⟩ := F3
    cases hl
    exact .inr ⟨v', e, hQ _ _ ⟨s3.trans F1, h01.trans (t3.trans F2), v', ρ'', rfl, hV', K4.less sub₀⟩⟩
  | err c => exact F3.elim

theorem loop_ok {base h₀ : Heap} {env : Env} {T : List (Addr × Obj)} {ρ : Rho} {A : Around} {s : Shared} {Q : Flow → Shared → Prop} {E : Value → Shared → Prop} {r : R} {ds : List D}
    {x : Str} {px pos : Pos} {iter : Expr} {body : List Stmt} {b : Ss} {i : Nat} (hx : idxVar sc x = some i) (hb : XsOK prog w base Φ k RZ sc body b) (hpu : D.pures ds = true) (hs : ∀ x, foldedSetIterable iter env x = pure x)
    (hi : wpAny (model prog w) A (eval iter env) (fun xv s₁ => wpAny (model prog w) A (pyIter xv) (LoopAt prog w base h₀ k sc env T ρ A s ds s₁) E s₁) E s)
    (hE : PassesOwn (model prog w) A env E) (hex : loopO (fun d ρ => exs Φ (ρ.set i (some (.dat d))) b) ds ρ = some r) (hQ : ∀ fl s', FinR base h₀ k sc env T A s r fl s' → Q fl s')
    (hErr : ∀ c e s', r = .err c → Same s s' → RZ h₀ env A c e s'.heap → E e s') : wpAny (model prog w) A (exec (.For (.Name x px) iter body [] pos) env) Q E s := by
  refine wpAny_For (wpAny_mono hi (fun xv s₁ h₁ => wpAny_mono h₁ (fun itv s₂ h₂ => ?_) fun _ _ x => x) fun _ _ x => x) hs
  obtain ⟨I', g, rfl, K1, K2, ⟨P, St, W, hst, hfp, hIn, hk12, hP, hSt⟩, Ig⟩ := h₂
  have I'0 : h₀.get? I' = none := Ig.h0_none hIn
  have I'T : ∀ p ∈ g ++ T, p.1 ≠ I' := Ig.tl_ne I' hIn
  refine codeAny_forLoop (fun m s' => ∃ j ρ', Turn base h₀ k sc env (g ++ T) A s s₁ St ds.length (fun j ρ' => loopO (fun d ρ => exs Φ (ρ.set i (some (.dat d))) b) (ds.drop j) ρ') r m s' j ρ') ?_ (ds.length + 1)
    ⟨0, ρ, (Same.keeps K1).trans (Same.keeps K2), Tk.mono hk12, Ig.mono hk12, hst, hex, rfl, Nat.zero_le _⟩
  rintro m s' ⟨j, ρ', U⟩
  have hfo := hSt j _ U.st
  have I'k : ∀ h₂ : Heap, (∀ b o, b ∉ [I'] → s'.heap.get? b = some o → h₂.get? b = some o) → Inv base h₀ k sc env (g ++ T) ρ' A h₂ ∧ Tk s'.heap h₂ := by
    intro h₂ hk
    have hk' : ∀ b o, b ≠ I' → s'.heap.get? b = some o → h₂.get? b = some o := fun b o hb e => hk b o (fun q => hb (List.mem_singleton.mp q)) e
    obtain ⟨o, ho1, fs, hfs⟩ := id hfo
    exact ⟨U.inv.other (o' := o) (fs' := fs) ho1 hfs I'0 I'T hk', Tk.but hfo hk'⟩
  have hm := U.left; subst hm
  by_cases hlt : j < ds.length
  · refine W.item j s' _ _ hlt U.st fun v h₂ tk₂ hPv hst₂ hk₂ => ?_
    obtain ⟨d, hd, hVd⟩ := hP j v hPv
    obtain ⟨J2, tk2⟩ := I'k h₂ hk₂
    have hl := U.run
    rw [loopO_drop hd] at hl
    replace hl := ob hl
    obtain ⟨rb, hbd, hl⟩ := hl
    have hdp := pures_get hpu hd
    obtain ⟨o₂, ho₂, fs₂, hfs₂⟩ := hSt (j + 1) _ hst₂
    have J3 := ofFields J2 ho₂ hfs₂
    have t2 := U.tk.trans tk2
    refine wpAny_assign_Name (put_ok (s := { s' with heap := h₂, toks := tk₂ }) J3 hx (keeps_refl _) (hVd.pureKeep t2 hdp) hdp fun s₃ f => ?_)
    have s3 : Same s s₃ := U.same.trans ((Same.mk' s' h₂ tk₂).trans f.1)
    have stk : ∀ (ρ'' : Rho) (s₄ : Shared), Inv base h₀ k sc env ((I', o₂) :: (g ++ T)) ρ'' A s₄.heap → St (j + 1) s₄.heap := by
      intro ρ'' s₄ K4
      refine W.frame (j + 1) h₂ s₄.heap hst₂ fun b hb o e => ?_
      rcases List.mem_cons.mp hb with rfl | hb
      · rw [ho₂] at e; cases e
        exact (K4.prot _ (.head _)).1
      · obtain ⟨p, hp, rfl⟩ := List.mem_map.mp hb
        have hp' : p ∈ g ++ T := List.mem_append_left _ hp
        have e1 := (J2.prot p hp').1
        rw [e1] at e; cases e
        exact (K4.prot p (.tail _ hp')).1
    refine wpAny_passesOwn hE (hb h₀ env _ _ A s₃ rb _ E f.2.2.2 hE hbd (fun fl s₄ F => ?_) (fun c e s₄ hc sm4 z => ?_))
    · rcases turn_done (T := g ++ T) (cont := fun j ρ' => loopO (fun d ρ => exs Φ (ρ.set i (some (.dat d))) b) (ds.drop j) ρ') hlt (Tk.mono (keeps_heap K1)) s3 (t2.trans f.2.1) hl (fun p hp => .tail _ hp) (fun p hp => .tail _ (List.mem_append_right _ hp)) stk hQ F with ⟨rfl | rfl, X⟩ | ⟨v, rfl, X⟩
      · exact X
      · exact X
      · exact X
    · subst hc; cases hl
      exact hErr c e s₄ rfl (s3.trans sm4) z
  · have hin : j = ds.length := Nat.le_antisymm U.le (Nat.le_of_not_lt hlt)
    subst hin
    have hl := U.run
    rw [List.drop_length] at hl
    cases hl
    refine W.done s' _ _ U.st fun h₂ tk₂ hk₂ => wpAny_execs_nil ?_
    obtain ⟨J2, tk2⟩ := I'k h₂ hk₂
    exact hQ _ _ ⟨U.same.trans (Same.mk' s' h₂ tk₂), (Tk.mono (keeps_heap K1)).trans (U.tk.trans tk2), rfl, J2.less fun p hp => List.mem_append_right _ hp⟩

theorem for1_ok {f : Expr → Option Mine.E} (G : Gl fns base mg mb fa) (J : Judged prog w base Φ k sc f)
    {x : Str} {px pos : Pos} {iter : Expr} {it : It} {body : List Stmt} {b : Ss} {i : Nat} (hx : idxVar sc x = some i) (h : cIt f sc iter = some it) (hb : XsOK prog w base Φ k RZ sc body b) :
    XOK prog w base Φ k RZ sc (.For (.Name x px) iter body [] pos) (.for1 i it b) := by
  intro h₀ env T ρ A s r Q E I hE hex hQ hErr
  replace hex := ob hex
  obtain ⟨ds, hv, hex⟩ := hex
  replace hex := oi' hex
  obtain ⟨ho, hex⟩ := hex
  obtain ⟨hs, hi⟩ := itS_ok (E := E) G J h I hv ho
  exact loop_ok hx hb (evIt_pures hv) hs hi hE hex hQ hErr

theorem forV_ok {x y : Str} {px py pos : Pos} {body : List Stmt} {b : Ss} {i j : Nat} (hx : idxVar sc x = some i) (hy : idxVar sc y = some j) (hb : XsOK prog w base Φ k RZ sc body b) :
    XOK prog w base Φ k RZ sc (.For (.Name x px) (.Name y py) body [] pos) (.forV i j b) := by
  intro h₀ env T ρ A s r Q E I hE hex hQ hErr
  replace hex := ob hex
  obtain ⟨lo, hlo, hex⟩ := hex
  replace hex := ob hex
  obtain ⟨ds, hds, hex⟩ := hex
  replace hex := oi' hex
  obtain ⟨⟨ho, hp⟩, hex⟩ := hex
  exact loop_ok hx hb hp (fun _ => rfl) (itV_ok hy I hlo hds ho) hE hex hQ hErr
end
end Mine

namespace Mine
open PySem PySem.Calls PyProof.Rows PySem.SeqAt

section
variable {prog : Program} {w : World} {base : Heap} {fns excs : List Str} {mg mb : Str → Option Value} {fa : Nat → Addr} {Φ : Fns} {k n : Nat} {sc : Sc} {RZ : RZt}

theorem ret_ok (G : Gl fns base mg mb fa) (hΦ : FnsOk prog w base Φ fa k) {e : Expr} {e' : Mine.E} {pos : Pos} (h : cE fns n sc e = some e') : XOK prog w base Φ k RZ sc (.Return (some e) pos) (.ret e') := by
  intro h₀ env T ρ A s r Q E I hE hex hQ hErr
  replace hex := om hex
  obtain ⟨d, hd, rfl⟩ := hex
  refine wpAny_Return_some (wpAny_mono (((ev_sound G hΦ n sc).1 e e' h).1 env ρ A s d E I.cx hd) (fun v s₁ q => ?_) fun _ _ x => x)
  exact hQ _ _ ⟨Same.keeps q.1, Tk.mono (keeps_heap q.1), v, ρ, rfl, q.2, I.mono (keeps_heap q.1)⟩

theorem cont_ok {pos : Pos} : XOK prog w base Φ k RZ sc (.Continue pos) .cont := by
  intro h₀ env T ρ A s r Q E I hE hex hQ hErr
  cases hex
  exact wpAny_Continue (hQ _ _ ⟨Same.refl s, Tk.refl _, rfl, I⟩)

theorem XsOK.after {a : List Stmt} {x : Ss} (ha : XsOK prog w base Φ k RZ sc a x) {h₀ : Heap} {env : Env} {T : List (Addr × Obj)} {ρ : Rho} {A : Around} {s s₁ : Shared} {r : R} {Q : Flow → Shared → Prop} {E : Value → Shared → Prop}
    (sm : Same s s₁) (tk : Tk s.heap s₁.heap) (I : Inv base h₀ k sc env T ρ A s₁.heap) (hE : PassesOwn (model prog w) A env E) (hex : exs Φ ρ x = some r) (hQ : ∀ fl s', FinR base h₀ k sc env T A s r fl s' → Q fl s')
    (hErr : ∀ c e s', r = .err c → Same s s' → RZ h₀ env A c e s'.heap → E e s') : wpAny (model prog w) A (execs a env) Q E s₁ :=
  ha h₀ env T ρ A s₁ r Q E I hE hex (fun fl s' f => hQ fl s' (f.after sm tk)) fun c e s' hc sm' z => hErr c e s' hc (sm.trans sm') z

theorem iff_ok (G : Gl fns base mg mb fa) (hΦ : FnsOk prog w base Φ fa k) {t : Expr} {c : Mine.E} {a b : List Stmt} {x y : Ss} {pos : Pos} (h : cE fns n sc t = some c) (ha : XsOK prog w base Φ k RZ sc a x) (hb : XsOK prog w base Φ k RZ sc b y) :
    XOK prog w base Φ k RZ sc (.If t a b pos) (.iff c x y) := by
  intro h₀ env T ρ A s r Q E I hE hex hQ hErr
  replace hex := ob hex
  obtain ⟨d, hc, hex1⟩ := hex
  replace hex1 := ob hex1
  obtain ⟨bb, hbb, hex2⟩ := hex1
  rw [isTrueD_some hbb] at hc
  refine wpAny_If (wpAny_mono (((ev_sound G hΦ n sc).1 t c h).2 env ρ A s bb E I.cx hc) (fun q s₁ hq => ?_) fun _ _ x => x)
  obtain ⟨rfl, K⟩ := hq
  have I₁ := I.mono (keeps_heap K)
  cases q with
  | true => exact ha.after (Same.keeps K) (Tk.mono (keeps_heap K)) I₁ hE hex2 hQ hErr
  | false => exact hb.after (Same.keeps K) (Tk.mono (keeps_heap K)) I₁ hE hex2 hQ hErr

theorem seq_nil : XsOK prog w base Φ k RZ sc [] .nil := by
  intro h₀ env T ρ A s r Q E I hE hex hQ hErr
  cases hex
  exact wpAny_execs_nil (hQ _ _ ⟨Same.refl s, Tk.refl _, rfl, I⟩)

theorem seq_cons {st : Stmt} {a : S} {r : List Stmt} {b : Ss} (ha : XOK prog w base Φ k RZ sc st a) (hb : XsOK prog w base Φ k RZ sc r b) : XsOK prog w base Φ k RZ sc (st :: r) (.cons a b) := by
  intro h₀ env T ρ A s r' Q E I hE hex hQ hErr
  replace hex := ob hex
  obtain ⟨ra, hx, hex1⟩ := hex
  refine wpAny_execs_cons (ha h₀ env T ρ A s ra _ E I hE hx (fun fl s' F => ?_) fun c e s' hc sm z => ?_)
  · obtain ⟨F1, F2, F3⟩ := F
    cases ra with
    | next ρ' =>
      obtain ⟨rfl, I'⟩ := F3
      exact hb.after F1 F2 I' hE hex1 hQ hErr
    | cont ρ' =>
      cases hex1
      obtain ⟨rfl, I'⟩ := F3
      exact hQ _ _ ⟨F1, F2, rfl, I'⟩
    | ret d =>
      cases hex1
      obtain ⟨v, ρ', rfl, q⟩ := F3
      exact hQ _ _ ⟨F1, F2, v, ρ', rfl, q⟩
    | err c => exact F3.elim
  · subst hc
    cases hex1
    exact hErr c e s' rfl sm z

theorem asgE (G : Gl fns base mg mb fa) (hΦ : FnsOk prog w base Φ fa k) {x : Str} {px pos : Pos} {v : Expr} {i : Nat} {e : Mine.E} (hx : idxVar sc x = some i) (h : cE fns n sc v = some e) (hs : ∀ env, swapsWith v (some (.Name x px)) pos.line env = pure false) :
    XOK prog w base Φ k RZ sc (.Assign [.Name x px] v pos) (.asg i e) := by
  intro h₀ env T ρ A s r Q E I hE hex hQ hErr
  replace hex := ob hex
  obtain ⟨d, hd, hex1⟩ := hex
  replace hex1 := oi hex1
  obtain ⟨hp, rfl⟩ := hex1
  exact asg_ok I hx (hs env) (((ev_sound G hΦ n sc).1 v e h).1 env ρ A s d E I.cx hd) hp hQ

theorem callS_parts {ρ : Rho} {t : Tg} {f : Nat} {es : Es} {r : R} (h : ex Φ ρ (.callS t f es) = some r) : ∃ ds out, evs Φ ρ es = some ds ∧ Φ f ds = some out ∧ outT ρ t out = some r := by
  replace h := ob h
  obtain ⟨ds, hds, h⟩ := h
  replace h := ob h
  obtain ⟨out, ho, h⟩ := h
  exact ⟨ds, out, hds, ho, h⟩

theorem asgCall (G : Gl fns base mg mb fa) (hΦ : FnsOk prog w base Φ fa k) (ER : Errs prog w base Φ fa k excs RZ) {x : Str} {px pos : Pos} {v : Expr} {i : Nat} {q : Nat × Es} (hx : idxVar sc x = some i) (h : asCall fns n sc v = some q) :
    XOK prog w base Φ k RZ sc (.Assign [.Name x px] v pos) (.callS (.var i) q.1 q.2) := by
  intro h₀ env T ρ A s r Q E I hE hex hQ hErr
  obtain ⟨ds, out, hds, ho, h2⟩ := callS_parts hex
  refine wpAny_Assign_Name (wpAny_mono (asCall_ok G hΦ ER h I hds ho) (fun v s₁ q => ?_) fun e s' q => ?_) (asCall_swaps h _ _ _)
  · obtain ⟨d, rfl, K, hV⟩ := q
    obtain ⟨hp, rfl⟩ := oi h2
    exact put_ok I hx K hV hp fun s' F => hQ _ _ F
  · obtain ⟨c, rfl, sm, z⟩ := q
    cases h2
    exact hErr c e s' rfl sm z

theorem idx_nat {dd : List D} {j : Nat} {d' : D} (h : dd[j]? = some d') : evIdx (.tup dd) (.int j) = some d' := by
  show (if 0 ≤ (j : Int) then dd[(j : Int).toNat]? else none) = some d'
  rw [if_pos (Int.natCast_nonneg j)]; exact h

theorem asgItem (G : Gl fns base mg mb fa) (hΦ : FnsOk prog w base Φ fa k) (ER : Errs prog w base Φ fa k excs RZ) {x : Str} {px pos p1 p2 : Pos} {u} {v : Expr} {i j : Nat} {q : Nat × Es} (hx : idxVar sc x = some i) (h : asCall fns n sc v = some q) :
    XOK prog w base Φ k RZ sc (.Assign [.Name x px] (.Subscript v (.Constant (.int j) u p1) p2) pos) (.callS (.item i j) q.1 q.2) := by
  intro h₀ env T ρ A s r Q E I hE hex hQ hErr
  obtain ⟨ds, out, hds, ho, h2⟩ := callS_parts hex
  refine wpAny_Assign_Name (Subscript_ (wpAny_mono (asCall_ok G hΦ ER h I hds ho) (fun v s₁ q => ?_) fun e s' q => ?_)) rfl
  · obtain ⟨d, rfl, K, hV⟩ := q
    obtain ⟨dd, hdd, h3⟩ := ob h2
    replace h3 := ob h3
    obtain ⟨d', hd', h4⟩ := h3
    replace h4 := oi h4
    obtain ⟨hp, rfl⟩ := h4
    have := tupOf_some hdd; subst this
    have hc := ((ev_sound (prog := prog) (w := w) G hΦ 1 sc).1 (.Constant (.int j) u p1) (.k (.int j)) rfl).1 env ρ A s₁ (.int j) E (I.mono (keeps_heap K)).cx rfl
    refine wpAny_mono hc (fun iv s₂ q₂ => ?_) fun _ _ x => x
    have v1 := hV.mono (keeps_heap q₂.1)
    have hix : evIdx (.tup dd) (.int j) = some d' := idx_nat hd'
    obtain ⟨T', id, t1, t2⟩ := getitem_look v1 (by rfl : items (.tup dd) = some dd)
    refine tail_any t1 t2 (wpAny_mono (idx_ok v1 q₂.2 hix) (fun rv s₃ q₃ => ?_) fun _ _ x => x) (sub_plain (by intro a b c d e; cases e))
    exact put_ok I hx (keeps_trans (keeps_trans K q₂.1) q₃.1) q₃.2 hp fun s' F => hQ _ _ F
  · obtain ⟨c, rfl, sm, z⟩ := q
    cases h2
    exact hErr c e s' rfl sm z

theorem asgUnp (G : Gl fns base mg mb fa) (hΦ : FnsOk prog w base Φ fa k) (ER : Errs prog w base Φ fa k excs RZ) {ts : List Expr} {x1} {tp pos : Pos} {v : Expr} {is : List Nat} {q : Nat × Es} (hx : idxVars sc ts = some is) (h : asCall fns n sc v = some q) :
    XOK prog w base Φ k RZ sc (.Assign [.Tuple ts x1 tp] v pos) (.callS (.unp is) q.1 q.2) := by
  intro h₀ env T ρ A s r Q E I hE hex hQ hErr
  obtain ⟨ds, out, hds, ho, h2⟩ := callS_parts hex
  have hsw : swapsWithSole [.Tuple ts x1 tp] v pos.line env = pure false := asCall_swaps h (some (.Tuple ts x1 tp)) pos.line env
  cases out with
  | err c =>
    refine Assign_Tuple (wpAny_mono (asCall_ok G hΦ ER h I hds ho) (fun v s₁ q => ?_) fun e s' q => ?_) hsw (asCall_stores h ts env)
    · obtain ⟨d, e, _⟩ := q; cases e
    · obtain ⟨c', e', sm, z⟩ := q
      cases e'; cases h2
      exact hErr c e s' rfl sm z
  | ok d =>
    replace h2 := ob h2
    obtain ⟨dd, hdd, h3⟩ := h2
    replace h3 := oi h3
    obtain ⟨hp, rfl⟩ := h3
    rw [tupOf_some hdd] at ho
    refine unp_ok (kk := 0) I hx hsw (asCall_stores h ts env) (wpAny_mono (asCall_ok G hΦ ER h I hds ho) (fun v s₁ q => ?_) fun e s' q => ?_) hp.2 hp.1 hQ
    · obtain ⟨d, e, q⟩ := q; cases e; exact q
    · obtain ⟨c', e', _⟩ := q; cases e'

theorem exprCall (G : Gl fns base mg mb fa) (hΦ : FnsOk prog w base Φ fa k) (ER : Errs prog w base Φ fa k excs RZ) {pos : Pos} {v : Expr} {q : Nat × Es} (h : asCall fns n sc v = some q) :
    XOK prog w base Φ k RZ sc (.Expr v pos) (.callS .drop q.1 q.2) := by
  intro h₀ env T ρ A s r Q E I hE hex hQ hErr
  obtain ⟨ds, out, hds, ho, h2⟩ := callS_parts hex
  refine wpAny_Expr_any (wpAny_mono (asCall_ok G hΦ ER h I hds ho) (fun v s₁ q => ?_) fun e s' q => ?_) (by simp [interactive, I.kind]) (asCall_swaps h _ _ _)
  · obtain ⟨d, rfl, K, hV⟩ := q
    cases h2
    exact hQ _ _ ⟨Same.keeps K, Tk.mono (keeps_heap K), rfl, I.mono (keeps_heap K)⟩
  · obtain ⟨c, rfl, sm, z⟩ := q
    cases h2
    exact hErr c e s' rfl sm z

theorem unpE (G : Gl fns base mg mb fa) (hΦ : FnsOk prog w base Φ fa k) {ts : List Expr} {x1} {tp pos : Pos} {v : Expr} {is : List Nat} {e : Mine.E} (hx : idxVars sc ts = some is) (h : cE fns n sc v = some e)
    (hs : ∀ env, swapsWithSole [.Tuple ts x1 tp] v pos.line env = pure false) (hw : ∀ env, swappedStores [.Tuple ts x1 tp] v env = pure none) :
    XOK prog w base Φ k RZ sc (.Assign [.Tuple ts x1 tp] v pos) (.unp is e) := by
  intro h₀ env T ρ A s r Q E I hE hex hQ hErr
  replace hex := ob hex
  obtain ⟨d, hd, hex1⟩ := hex
  replace hex1 := ob hex1
  obtain ⟨dd, hdd, hex2⟩ := hex1
  replace hex2 := oi hex2
  obtain ⟨hp, rfl⟩ := hex2
  rw [tupOf_some hdd] at hd
  exact unp_ok (kk := 0) I hx (hs env) (hw env) (((ev_sound G hΦ n sc).1 v e h).1 env ρ A s _ E I.cx hd) hp.2 hp.1 hQ

theorem fresh_at {s s₁ : Shared} (K : Keeps s s₁) : s.heap.get? s₁.heap.objs.size = none := by
  cases q : s.heap.get? s₁.heap.objs.size with
  | none => rfl
  | some o => have := keeps_heap K _ _ q; rw [size_none] at this; cases this

theorem ownD_ok (G : Gl fns base mg mb fa) (hΦ : FnsOk prog w base Φ fa k) {x : Str} {px pos lp : Pos} {es : List Expr} {i : Nat} {es' : Es} (hx : idxVar sc x = some i) (h : cEs (cE fns n sc) es = some es') (hsz : es'.size ≤ 1000) :
    XOK prog w base Φ k RZ sc (.Assign [.Name x px] (.List es lp) pos) (.ownD i es') := by
  intro h₀ env T ρ A s r Q E I hE hex hQ hErr
  replace hex := ob hex
  obtain ⟨ds, hds, hex1⟩ := hex
  replace hex1 := oi hex1
  obtain ⟨hp, rfl⟩ := hex1
  refine asgL_ok I hx rfl (List_ (wpAny_mono (args_ok (ev_sound G hΦ n sc) es es' h env ρ A s ds E lp I.cx hds) (fun vs s₁ q₁ => ?_) fun _ _ x => x)) hp hQ
  have hl2 := q₁.2.length
  have hlim : ds.length ≤ lim := small_lim (Nat.le_trans (Nat.le_of_eq (evs_size es' ρ ds hds)) hsz)
  refine wpAny_newObj_type ?_ (by show vs.toArray.size ≤ sizeLine; rw [List.size_toArray, hl2]; exact Nat.le_trans hlim lim_line)
  exact ⟨_, vs, rfl, keeps_trans q₁.1 (keeps_push _ _ _), fresh_at q₁.1, ⟨_, Heap.get?_push_size _ rfl⟩, q₁.2.mono fun _ _ e => Heap.get?_push_of_some _ e, hlim⟩

theorem ownL_ok (G : Gl fns base mg mb fa) (hΦ : FnsOk prog w base Φ fa k) {x : Str} {px pos lp pf : Pos} {a : Expr} {i : Nat} {e : Mine.E} (hx : idxVar sc x = some i) (hg : glob sc "list" = true) (h : cE fns n sc a = some e) :
    XOK prog w base Φ k RZ sc (.Assign [.Name x px] (.Call (.Name "list" pf) [a] [] lp) pos) (.ownL i e) := by
  intro h₀ env T ρ A s r Q E I hE hex hQ hErr
  replace hex := ob hex
  obtain ⟨d, hd, hex1⟩ := hex
  replace hex1 := ob hex1
  obtain ⟨ds, hit, hex2⟩ := hex1
  replace hex2 := oi hex2
  obtain ⟨hp, rfl⟩ := hex2
  have J := ev_sound (prog := prog) (w := w) (k := k) G hΦ n sc
  refine asgL_ok I hx rfl (Call_ (load_builtin G I.cx hg (by decide +kernel) boot_list (callWith_type1 (args_cons ?_ (starEach_plain (J.plain h) _ _)) (starEach_plain (J.plain h) _ _)))) hp hQ
  refine wpAny_mono ((J.1 a e h).1 env ρ A s d E I.cx hd) (fun v s₁ h₁ => args_nil ?_) fun _ _ x => x
  obtain ⟨K, hV⟩ := h₁
  have key : ∀ (p : Addr) (vs : List Value) (T : String) (o : Obj) (n : Nat), (T = "list" ∨ T = "tuple") → s₁.heap.get? p = some o → o.cls = .type T → o.data = .seq vs.toArray n → Vs s₁.heap vs ds → ds.length ≤ lim →
      wpAny (model prog w) A (call (.type "list") [.ref p]) (fun v s₂ => ∃ a vs, v = .ref a ∧ Keeps s s₂ ∧ s.heap.get? a = none ∧ s₂.heap.PlainList a (List.toArray vs) ∧ Vs s₂.heap vs ds ∧ ds.length ≤ lim) E s₁ := by
    intro p vs T o n hT ho hc hd hv hl
    refine call_list_seq p hT ho hc hd (fun h' c' hk hD => ?_) (by rw [List.size_toArray, hv.length]; exact Nat.le_trans hl lim_line)
    exact ⟨_, vs, rfl, keeps_trans K ⟨_, _, rfl, hk⟩, fresh_at K, ⟨_, hD⟩, hv.mono hk, hl⟩
  cases hV <;> first | (cases hit; done) | skip
  · rename_i p vs ds1 hpp hv hl
    cases hit
    obtain ⟨o, ho, hc, n, hd⟩ := hpp
    exact key _ vs _ o n (.inr rfl) ho hc hd hv hl
  · rename_i p vs ds1 hpp hv hl
    cases hit
    obtain ⟨o, ho, hc, n, hd⟩ := hpp.isList
    exact key _ vs _ o n (.inl rfl) ho hc hd hv hl

theorem pures_set {ds : List D} {j : Nat} {d : D} (h : D.pures ds = true) (hd : d.pure = true) : D.pures (ds.set j d) = true :=
  List.all_eq_true.mpr fun y hy => (List.mem_or_eq_of_mem_set hy).elim (List.all_eq_true.mp h y) fun q => q ▸ hd
theorem pures_snoc {ds : List D} {d : D} (h : D.pures ds = true) (hd : d.pure = true) : D.pures (ds ++ [d]) = true := by
  have h : ds.all D.pure = true := h
  rw [D.pures, List.all_append, h, List.all_cons, hd]; rfl

theorem seti_ok (G : Gl fns base mg mb fa) (hΦ : FnsOk prog w base Φ fa k) {x : Str} {px pos sp : Pos} {i v : Expr} {ix : Nat} {i' v' : Mine.E} (hx : idxVar sc x = some ix) (hi : cE fns n sc i = some i') (hv : cE fns n sc v = some v')
    (hs : ∀ env, swapsWith v (some (.Subscript (.Name x px) i sp)) pos.line env = pure false) :
    XOK prog w base Φ k RZ sc (.Assign [.Subscript (.Name x px) i sp] v pos) (.seti ix i' v') := by
  intro h₀ env T ρ A s r Q E I hE hex hQ hErr
  replace hex := ob hex
  obtain ⟨ds, hρ, hex1⟩ := hex
  replace hex1 := ob hex1
  obtain ⟨jd, hj, hex2⟩ := hex1
  replace hex2 := ob hex2
  obtain ⟨d, hdv, hex3⟩ := hex2
  replace hex3 := ob hex3
  obtain ⟨j, hjd, hex4⟩ := hex3
  replace hex4 := oi hex4
  obtain ⟨⟨hb1, hb2, hb3⟩, rfl⟩ := hex4
  have := intOf_some hjd; subst this
  have J := ev_sound (prog := prog) (w := w) (k := k) G hΦ n sc
  obtain ⟨h1, h2⟩ := idxVar_some hx
  refine wpAny_Assign_Subscript (wpAny_mono ((J.1 v v' hv).1 env ρ A s d E I.cx hdv) (fun vv s₁ q₁ => ?_) fun _ _ x => x) (hs env)
  have I₁ := I.mono (keeps_heap q₁.1)
  obtain ⟨a, vs, hat, hl, hvs, hpu, hle, chg⟩ := own_at I₁ h1 h2 (Rho.own?_some hρ)
  refine load_var (ρ := ρ) (sc := sc) I.kind hat (wpAny_mono ((J.1 i i' hi).1 env ρ A s₁ _ E I₁.cx hj) (fun iv s₂ q₂ => ?_) fun _ _ x => x) (idxVar_dbg hx)
  obtain ⟨K2, hiv⟩ := q₂
  obtain ⟨t, rfl⟩ := hiv.int_inv
  have hlen := hvs.length
  have l63 : j < 2 ^ 63 := Int.lt_trans (Int.lt_of_lt_of_le hb2 (Int.ofNat_le.mpr hle)) lim_63
  refine setItem_plain (hl.at fun o => keeps_heap K2 _ o) hb1 l63 (by rw [List.size_toArray, hlen]; exact hb2) fun h' hl' hs' => ?_
  obtain ⟨I', tk⟩ := chg s₂.heap h' (vs.set j.toNat vv) (ds.set j.toNat d) (keeps_heap K2) hs' (by simpa using hl') ((hvs.mono (keeps_heap K2)).set _ (q₁.2.mono (keeps_heap K2))) (pures_set hpu hb3) (by rw [List.length_set]; exact hle)
  exact hQ _ _ ⟨((Same.keeps q₁.1).trans (Same.keeps K2)).trans ⟨h', s₂.toks, rfl⟩, (Tk.mono (keeps_heap q₁.1)).trans ((Tk.mono (keeps_heap K2)).trans tk), rfl, I'⟩

theorem app_ok (G : Gl fns base mg mb fa) (hΦ : FnsOk prog w base Φ fa k) {x : Str} {px pos ap cp : Pos} {v : Expr} {ix : Nat} {v' : Mine.E} (hx : idxVar sc x = some ix) (hv : cE fns n sc v = some v') (hline : (ap.endLine == cp.line) = true) :
    XOK prog w base Φ k RZ sc (.Expr (.Call (.Attribute (.Name x px) "append" ap) [v] [] cp) pos) (.app ix v') := by
  intro h₀ env T ρ A s r Q E I hE hex hQ hErr
  replace hex := ob hex
  obtain ⟨ds, hρ, hex1⟩ := hex
  replace hex1 := ob hex1
  obtain ⟨d, hdv, hex2⟩ := hex1
  replace hex2 := oi hex2
  obtain ⟨⟨hb1, hb2⟩, rfl⟩ := hex2
  have J := ev_sound (prog := prog) (w := w) (k := k) G hΦ n sc
  obtain ⟨h1, h2⟩ := idxVar_some hx
  obtain ⟨a, vs, hat, hl, hvs, hpu, hle, chg⟩ := own_at I h1 h2 (Rho.own?_some hρ)
  refine wpAny_Expr_any (Call_method1 rfl (by rw [starEach_plain (J.plain hv)]; rfl) hline (load_var (ρ := ρ) (sc := sc) I.kind hat ?_ (idxVar_dbg hx))) (by simp [interactive, I.kind]) rfl
  refine ⟨"list", "list.append", PySem.F.plainAttrs_list, slot_list_append, type_list_append, hl.isList.typeIs, ?_, ?_⟩
  · intro b e
    cases e
    obtain ⟨n, ho⟩ := hl
    exact ⟨_, ho, rfl⟩
  · refine callWith_builtin (by rfl) (evalArgs_plain (spliced_cons ?_))
    refine wpAny_mono ((J.1 v v' hv).1 env ρ A s _ E I.cx hdv) (fun vv s₂ q₂ => spliced_nil ?_) fun _ _ x => x
    obtain ⟨K2, hV⟩ := q₂
    have hlen := hvs.length
    refine wpAny_list_append_plain (hl.at fun o => keeps_heap K2 _ o) (fun h' hl' hs' => ?_) (by rw [List.size_toArray, hlen]; exact Nat.le_trans (Nat.le_of_lt hb2) lim_line)
    obtain ⟨I', tk⟩ := chg s₂.heap h' (vs ++ [vv]) (ds ++ [d]) (keeps_heap K2) hs' (by simpa using hl') ((hvs.mono (keeps_heap K2)).append (.one hV)) (pures_snoc hpu hb1) (by rw [List.length_append]; exact hb2)
    exact hQ _ _ ⟨(Same.keeps K2).trans ⟨h', s₂.toks, rfl⟩, (Tk.mono (keeps_heap K2)).trans tk, rfl, I'⟩

end
end Mine

namespace Mine
open PySem PySem.Calls PyProof.Rows PySem.SeqAt

section
variable {prog : Program} {w : World} {base : Heap} {fns excs : List Str} {mg mb : Str → Option Value} {fa : Nat → Addr} {Φ : Fns} {k n : Nat} {sc : Sc} {RZ : RZt}

theorem compFor_some {y : Str} {py : Pos} {v : Expr} (h : compFor sc y py v = true) : ∃ elt gens scope cpos, v = .ListComp elt gens scope cpos ∧ sc.kd.lookup y = some .local ∧ (py.line == cpos.line) = true ∧ (scope.names.any fun z => z.1 == y && (z.2 == .local || z.2 == .cell)) = false := by
  cases v <;> first | exact nns h | exact nnb h | skip
  rename_i elt gens scope cpos
  have h : (sc.kd.lookup y == some NameKind.local && py.line == cpos.line && !(scope.names.any fun z => z.1 == y && (z.2 == NameKind.local || z.2 == NameKind.cell))) = true := h
  rw [Bool.and_eq_true, Bool.and_eq_true, Bool.not_eq_true'] at h
  exact ⟨elt, gens, scope, cpos, rfl, beq_iff_eq.mp h.1.1, h.1.2, h.2⟩

theorem comp_swaps {env : Env} {y : Str} {py cpos : Pos} {l : Nat} {elt : Expr} {gens : List Comprehension} {scope : Scope} (hk : env.kindOf y = some .local) (hkind : env.scope.kind = .function) (hline : (py.line == cpos.line) = true) (hno : (scope.names.any fun z => z.1 == y && (z.2 == .local || z.2 == .cell)) = false) :
    swapsWith (.ListComp elt gens scope cpos) (some (.Name y py)) l env = pure true := by
  show (pure (env.blockKind == .function && env.kindOf y == some .local && py.line == cpos.line && !(scope.names.any fun (n, k) => n == y && (k == .local || k == .cell))) : Sem Bool) = pure true
  have hb : env.blockKind = .function := by
    unfold Env.blockKind
    rw [hkind]; rfl
  have hno' : (scope.names.any fun (n, k) => n == y && (k == .local || k == .cell)) = false := hno
  rw [hb, hk, hline, hno']; rfl

theorem ownC_ok (G : Gl fns base mg mb fa) (hΦ : FnsOk prog w base Φ fa k) {y : Str} {py pos cpos : Pos} {elt : Expr} {gens : List Comprehension} {scope : Scope} {i : Nat} {e : Mine.E} (hx : idxVar sc y = some i)
    (hloc : sc.kd.lookup y = some .local) (hline : (py.line == cpos.line) = true) (hno : (scope.names.any fun z => z.1 == y && (z.2 == .local || z.2 == .cell)) = false) (h : cE fns n sc (.ListComp elt gens scope cpos) = some e) :
    XOK prog w base Φ k RZ sc (.Assign [.Name y py] (.ListComp elt gens scope cpos) pos) (.ownC i e) := by
  cases n with
  | zero => cases h
  | succ n =>
  obtain ⟨x, px, iter, ifs, it, el, cd, rfl, hco, hit, hel, rfl, hcd⟩ := cComp_parts h
  intro h₀ env T ρ A s r Q E I hE hex hQ hErr
  replace hex := ob hex
  obtain ⟨dd, hev, hex1⟩ := hex
  replace hex1 := ob hex1
  obtain ⟨res, hdd, hex2⟩ := hex1
  replace hex2 := oi hex2
  obtain ⟨hpu, rfl⟩ := hex2
  obtain ⟨ds, res', hds, hres, hp, rfl⟩ := ev_comp_parts hev
  cases hdd
  have J := ev_sound (prog := prog) (w := w) (k := k) G hΦ n sc
  have J' := ev_sound (prog := prog) (w := w) (k := k) G hΦ n (compSc sc scope.names x)
  obtain ⟨hs, hi⟩ := it_ok (prog := prog) (w := w) (E := E) G J hit I.cx hds
  rw [exec_Assign_Name_used _ _ _ _ (comp_swaps ((I.kindOf y).trans hloc) I.kind hline hno)]
  refine wpAny_bind (wpAny_standAt (wpAny_bind ?_))
  show wpAny _ A (do let _ ← comprehension (.ListComp elt [⟨.Name x px, iter, ifs, 0⟩] scope cpos) scope env _ (newList []) false (eval iter env) (some (assign (.Name y py) env))) _ _ s
  refine wpAny_bind (wpAny_mono (comp_ok (Q := fun _ s' => Q .next s') (use := some (assign (.Name y py) env)) I.cx (compOk_of hco) hs (it_simple hi) ((J'.1 elt el hel).1) (hcd.imp id fun ⟨t, e, q⟩ => ⟨t, e, (J'.1 t cd q).2⟩) hres hpu ?_) (fun _ s' hq => wpAny_pure (wpAny_pure hq)) fun _ _ e => e)
  intro Dd C s' m' ys hdl hk hD hC hDC hn hl hvs
  have hlen : res.length ≤ lim := Nat.le_trans (compO_len hres) hdl
  refine wpAny_assign_Name (putL_ok I hx (keeps_heap hk) hD hl hvs hpu hlen fun h₂ tk₂ I₂ t₂ sb => ?_)
  -- the comprehension's own names are let go
  have hCL : env.locals ≠ C := by
    rintro q; obtain ⟨m, o', _, _, ho', _⟩ := I.ns; rw [q, hC] at ho'; cases ho'
  have hCc : ∀ z c, env.cells.lookup z = some c → c ≠ C := by
    rintro z c hz rfl
    obtain ⟨_, _, ⟨v, o', ho', _⟩, _⟩ := I.cel z c hz
    rw [hC] at ho'; cases ho'
  obtain ⟨q, hsb, hq⟩ := sb
  have hn₂ := hn.sameBut hsb (Ne.symm (hq.elim (fun e => e ▸ hCL) fun ⟨z, hz⟩ => hCc z q hz))
  refine ⟨m', hn₂, fun h₃ hs₃ => ?_⟩
  obtain ⟨I₃, t₃⟩ := I₂.aside (h' := h₃) (C := C) (fun a o ha e => hs₃.extBut a o ha e) (I.h0_none hC) hCL hCc (I.tl_ne C hC) (fun a items t => ns_notuple hn₂ t) (fun a xs t => ns_nolist hn₂ t) (I.frames_ne hC)
  exact hQ _ _ ⟨(Same.keeps hk).trans ⟨h₃, tk₂, rfl⟩, ((Tk.mono (keeps_heap hk)).trans t₂).trans t₃, rfl, I₃⟩
end
end Mine

namespace Mine
open PySem PySem.Calls PyProof.Rows PySem.SeqAt

section
variable {prog : Program} {w : World} {base : Heap} {fns excs : List Str} {mg mb : Str → Option Value} {fa : Nat → Addr} {Φ : Fns} {k n : Nat} {sc : Sc} {RZ : RZt}

theorem rais_ok (ER : Errs prog w base Φ fa k excs RZ) {x : Str} {p q1 q3 pos : Pos} {q2} {m : Str} {c : Nat} (hg : glob sc x = true) (h : excs.idxOf? x = some c) :
    XOK prog w base Φ k RZ sc (.Raise (some (.Call (.Name x p) [.Constant (.str m) q2 q1] [] q3)) none pos) (.rais c) := by
  intro h₀ env T ρ A s r Q E I hE hex hQ hErr
  cases hex
  exact ER.rais sc x p m q2 q1 q3 pos c hg h h₀ env T ρ A s Q E I fun e s' sm z => hErr c e s' rfl sm z

theorem plain_swaps {v : Expr} (h : plainE v = true) (t : Option Expr) (l : Nat) (env : Env) : swapsWith v t l env = pure false := by
  cases v <;> first | rfl | cases h
theorem asItem_some {v : Expr} {q : Nat × Nat × Es} (h : asItem fns n sc v = some q) : ∃ c u p1 p2, v = .Subscript c (.Constant (.int q.1) u p1) p2 ∧ asCall fns n sc c = some q.2 := by
  replace h := ob h
  obtain ⟨⟨c, i⟩, hc, h1⟩ := h
  replace h1 := ob h1
  obtain ⟨kk, hk, h2⟩ := h1
  replace h2 := ob h2
  obtain ⟨j, hj, h3⟩ := h2
  replace h3 := om h3
  obtain ⟨q', hq, rfl⟩ := h3
  obtain ⟨p2, rfl⟩ := subOf_some hc
  obtain ⟨u, p1, hi⟩ := constOf_some hk
  have hi : i = _ := hi
  subst hi
  have := cNat_some hj; subst this
  exact ⟨c, u, p1, p2, rfl, hq⟩
theorem asList_some {v a : Expr} (h : asList sc v = some a) : ∃ p pos, v = .Call (.Name "list" p) [a] [] pos ∧ glob sc "list" = true := by
  replace h := ob h
  obtain ⟨⟨fn, args, pos⟩, hc, h1⟩ := h
  replace h1 := oi' h1
  obtain ⟨⟨h2, h3⟩, h4⟩ := h1
  have := callOf_some hc; subst this
  obtain ⟨p, hp⟩ := nameIs_some h2
  have hp : fn = _ := hp
  subst hp
  have ha : args = [a] := one_some h4
  subst ha
  exact ⟨p, pos, rfl, h3⟩

theorem asg_sound (G : Gl fns base mg mb fa) (hΦ : FnsOk prog w base Φ fa k) (ER : Errs prog w base Φ fa k excs RZ) {x : Str} {px pos : Pos} {i : Nat} {v : Expr} {st' : S} (hi : idxVar sc x = some i) (h : cAsg fns n sc x px i v = some st') :
    XOK prog w base Φ k RZ sc (.Assign [.Name x px] v pos) st' := by
  unfold cAsg at h
  cases h1 : asCall fns n sc v with
  | some q => rw [h1] at h; cases h; exact asgCall G hΦ ER hi h1
  | none =>
    rw [h1] at h
    dsimp only at h
    cases h2 : listOf v with
    | some es =>
      rw [h2] at h
      replace h := ob h
      obtain ⟨es', hes, h⟩ := h
      obtain ⟨hsz, rfl⟩ := oi h
      obtain ⟨p, rfl⟩ := listOf_some h2
      exact ownD_ok G hΦ hi hes hsz
    | none =>
      rw [h2] at h
      dsimp only at h
      cases h3 : asItem fns n sc v with
      | some q =>
        rw [h3] at h
        cases h
        obtain ⟨c, u, p1, p2, rfl, hc⟩ := asItem_some h3
        exact asgItem G hΦ ER hi hc
      | none =>
        rw [h3] at h
        dsimp only at h
        replace h := ob h
        obtain ⟨e, he, h⟩ := h
        by_cases hp : plainE v = true
        · rw [if_pos hp] at h; cases h
          exact asgE G hΦ hi he fun env => plain_swaps hp _ _ _
        · rw [if_neg hp] at h
          obtain ⟨hc, rfl⟩ := oi h
          obtain ⟨elt, gens, scope, cpos, rfl, q1, q2, q3⟩ := compFor_some hc
          exact ownC_ok G hΦ hi q1 q2 q3 he

theorem unp_sound (G : Gl fns base mg mb fa) (hΦ : FnsOk prog w base Φ fa k) (ER : Errs prog w base Φ fa k excs RZ) {ts : List Expr} {x1} {tp pos : Pos} {is : List Nat} {v : Expr} {st' : S} (hi : idxVars sc ts = some is) (h : cUnp fns n sc is v = some st') :
    XOK prog w base Φ k RZ sc (.Assign [.Tuple ts x1 tp] v pos) st' := by
  unfold cUnp at h
  cases h1 : asCall fns n sc v with
  | some q => rw [h1] at h; cases h; exact asgUnp G hΦ ER hi h1
  | none =>
    rw [h1] at h
    replace h := oi' h
    obtain ⟨hv, h⟩ := h
    obtain ⟨e, he, rfl⟩ := om h
    refine unpE G hΦ hi he (fun env => ?_) fun env => ?_ <;> (cases v <;> first | rfl | cases hv)

theorem tgt_sound (G : Gl fns base mg mb fa) (hΦ : FnsOk prog w base Φ fa k) (ER : Errs prog w base Φ fa k excs RZ) {t v : Expr} {pos : Pos} {st' : S} (h : cTgt fns n sc v t = some st') : XOK prog w base Φ k RZ sc (.Assign [t] v pos) st' := by
  cases t with
  | Name x px =>
    replace h := ob h
    obtain ⟨i, hi, h⟩ := h
    exact asg_sound G hΦ ER hi h
  | Tuple es x1 tp =>
    replace h := ob h
    obtain ⟨is, hi, h⟩ := h
    exact unp_sound G hΦ ER hi h
  | Subscript o i sp =>
    obtain ⟨hp, h1⟩ := oi' (show (if plainE v = true then (nameOf o).bind _ else none) = some st' from h)
    replace h1 := ob h1
    obtain ⟨x, hx, h2⟩ := h1
    replace h2 := ob h2
    obtain ⟨ix, hix, h3⟩ := h2
    replace h3 := ob h3
    obtain ⟨i', hi, h4⟩ := h3
    replace h4 := om h4
    obtain ⟨v', hv, rfl⟩ := h4
    obtain ⟨px, rfl⟩ := nameOf_some hx
    exact seti_ok G hΦ hix hi hv fun env => plain_swaps hp _ _ _
  | _ => exact nns h

theorem for_sound (G : Gl fns base mg mb fa) (hΦ : FnsOk prog w base Φ fa k) {t it : Expr} {body : List Stmt} {b : Ss} {pos : Pos} {st' : S} (hb : XsOK prog w base Φ k RZ sc body b) (h : cFor fns n sc it b t = some st') : XOK prog w base Φ k RZ sc (.For t it body [] pos) st' := by
  cases t with
  | Name x px =>
    replace h := ob h
    obtain ⟨i, hi, h⟩ := h
    cases h1 : nameOf it with
    | some y =>
      rw [h1] at h
      obtain ⟨j, hj, rfl⟩ := om h
      obtain ⟨py, rfl⟩ := nameOf_some h1
      exact forV_ok hi hj hb
    | none =>
      rw [h1] at h
      obtain ⟨it', hit, rfl⟩ := om h
      exact for1_ok G (ev_sound G hΦ n sc) hi hit hb
  | _ => exact nns h

theorem exp_sound (G : Gl fns base mg mb fa) (hΦ : FnsOk prog w base Φ fa k) (ER : Errs prog w base Φ fa k excs RZ) {v : Expr} {pos : Pos} {st' : S} (h : cExp fns n sc v = some st') : XOK prog w base Φ k RZ sc (.Expr v pos) st' := by
  unfold cExp at h
  cases h1 : asCall fns n sc v with
  | some q => rw [h1] at h; cases h; exact exprCall G hΦ ER h1
  | none =>
    rw [h1] at h
    obtain ⟨⟨fn, args, cp⟩, hc, h2⟩ := ob h
    replace h2 := ob h2
    obtain ⟨⟨o, m, ap⟩, hq, h3⟩ := h2
    replace h3 := oi' h3
    obtain ⟨⟨hm, hl⟩, h4⟩ := h3
    replace h4 := ob h4
    obtain ⟨x, hx, h5⟩ := h4
    replace h5 := ob h5
    obtain ⟨i, hi, h6⟩ := h5
    replace h6 := ob h6
    obtain ⟨a, ha, h7⟩ := h6
    replace h7 := om h7
    obtain ⟨e, he, rfl⟩ := h7
    have := callOf_some hc; subst this
    have hq' : fn = .Attribute o m ap := attrOf_some hq
    subst hq'
    have hm : m = _ := hm
    subst hm
    obtain ⟨px, hx'⟩ := nameOf_some hx
    have hx' : o = _ := hx'
    subst hx'
    have ha' : args = [a] := one_some ha
    subst ha'
    exact app_ok G hΦ hi he hl

theorem raise_sound (ER : Errs prog w base Φ fa k excs RZ) {e c : Option Expr} {pos : Pos} {st' : S} (h : cRaise excs sc e c = some st') : XOK prog w base Φ k RZ sc (.Raise e c pos) st' := by
  replace h := oi' h
  obtain ⟨hc, h1⟩ := h
  replace h1 := ob h1
  obtain ⟨e', rfl, h2⟩ := h1
  replace h2 := ob h2
  obtain ⟨⟨fn, args, cp⟩, hcl, h3⟩ := h2
  replace h3 := ob h3
  obtain ⟨x, hx, h4⟩ := h3
  replace h4 := ob h4
  obtain ⟨a, ha, h5⟩ := h4
  replace h5 := ob h5
  obtain ⟨kk, hk, h6⟩ := h5
  replace h6 := ob h6
  obtain ⟨m, hm, h7⟩ := h6
  replace h7 := oi' h7
  obtain ⟨hg, h8⟩ := h7
  replace h8 := om h8
  obtain ⟨ci, hci, rfl⟩ := h8
  have := callOf_some hcl; subst this
  obtain ⟨px, hx'⟩ := nameOf_some hx
  have hx' : fn = _ := hx'
  subst hx'
  have ha' : args = [a] := one_some ha
  subst ha'
  obtain ⟨u, p1, rfl⟩ := constOf_some hk
  have := cStr_some hm; subst this
  cases c with
  | some => cases hc
  | none => exact rais_ok ER hg hci

mutual
theorem x_sound (G : Gl fns base mg mb fa) (hΦ : FnsOk prog w base Φ fa k) (ER : Errs prog w base Φ fa k excs RZ) : (st : Stmt) → (st' : S) → cS fns excs n sc st = some st' → XOK prog w base Φ k RZ sc st st'
  | .Return v pos, st', h => by
    replace h := ob h
    obtain ⟨e, rfl, h⟩ := h
    obtain ⟨e', he, rfl⟩ := om h
    exact ret_ok G hΦ he
  | .Continue pos, st', h => by cases h; exact cont_ok
  | .If t a b pos, st', h => by
    replace h := ob h
    obtain ⟨c, hc, h⟩ := h
    replace h := ob h
    obtain ⟨x, hx, h⟩ := h
    obtain ⟨y, hy, rfl⟩ := om h
    exact iff_ok G hΦ hc (xs_sound G hΦ ER a x hx) (xs_sound G hΦ ER b y hy)
  | .Assign ts v pos, st', h => by
    replace h := ob h
    obtain ⟨t, ht, h⟩ := h
    have := one_some ht; subst this
    exact tgt_sound G hΦ ER h
  | .For t it body orelse pos, st', h => by
    obtain ⟨ho, h1⟩ := oi' (show (if orelse.isEmpty = true then (cSs fns excs n sc body).bind _ else none) = some st' from h)
    replace h1 := ob h1
    obtain ⟨b, hb, h2⟩ := h1
    cases orelse with
    | cons => cases ho
    | nil => exact for_sound G hΦ (xs_sound G hΦ ER body b hb) h2
  | .Expr v pos, st', h => exp_sound G hΦ ER h
  | .Raise e c pos, st', h => raise_sound ER h
  | .FunctionDef .., st', h => by cases h
  | .AsyncFunctionDef .., st', h => by cases h
  | .ClassDef .., st', h => by cases h
  | .Delete .., st', h => by cases h
  | .TypeAlias .., st', h => by cases h
  | .AugAssign .., st', h => by cases h
  | .AnnAssign .., st', h => by cases h
  | .AsyncFor .., st', h => by cases h
  | .While .., st', h => by cases h
  | .With .., st', h => by cases h
  | .AsyncWith .., st', h => by cases h
  | .Match .., st', h => by cases h
  | .Try .., st', h => by cases h
  | .TryStar .., st', h => by cases h
  | .Assert .., st', h => by cases h
  | .Import .., st', h => by cases h
  | .ImportFrom .., st', h => by cases h
  | .Global .., st', h => by cases h
  | .Nonlocal .., st', h => by cases h
  | .Pass .., st', h => by cases h
  | .Break .., st', h => by cases h
theorem xs_sound (G : Gl fns base mg mb fa) (hΦ : FnsOk prog w base Φ fa k) (ER : Errs prog w base Φ fa k excs RZ) : (b : List Stmt) → (b' : Ss) → cSs fns excs n sc b = some b' → XsOK prog w base Φ k RZ sc b b'
  | [], b', h => by cases h; exact seq_nil
  | st :: r, b', h => by
    replace h := ob h
    obtain ⟨a, ha, h⟩ := h
    obtain ⟨b, hb, rfl⟩ := om h
    exact seq_cons (x_sound G hΦ ER st a ha) (xs_sound G hΦ ER r b hb)
end
end
end Mine

namespace Mine
open PySem PySem.Calls PyProof.Rows PySem.SeqAt

theorem zip_lookup_some : ∀ {ns : List Str} {vs : List Value}, vs.length = ns.length → ∀ n ∈ ns, ((ns.zip vs).lookup n).isSome = true
  | [], _, _, n, h => by cases h
  | m :: ns, [], hl, n, h => by cases hl
  | m :: ns, v :: vs, hl, n, h => by
    rw [List.zip_cons_cons, List.lookup_cons]
    by_cases e : n = m
    · subst e; simp
    · rw [beq_eq_false_iff_ne.mpr e]
      rcases List.mem_cons.mp h with q | q
      · exact absurd q e
      · exact zip_lookup_some (by simpa using hl) n q
theorem zip_filterMap : ∀ {ns : List Str} {vs : List Value}, vs.length = ns.length → ns.Nodup → (ns.filterMap fun n => ((ns.zip vs).lookup n).map (n, ·)) = ns.zip vs
  | [], _, _, _ => rfl
  | m :: ns, [], hl, _ => by cases hl
  | m :: ns, v :: vs, hl, hn => by
    rw [List.nodup_cons] at hn
    rw [List.zip_cons_cons, List.filterMap_cons, List.lookup_cons, beq_self_eq_true]
    simp only [Option.map_some]
    congr 1
    have ih := zip_filterMap (ns := ns) (vs := vs) (by simpa using hl) hn.2
    refine Eq.trans ?_ ih
    have key : ∀ l : List Str, m ∉ l → (l.filterMap fun n => (((m, v) :: ns.zip vs).lookup n).map (n, ·)) = l.filterMap fun n => ((ns.zip vs).lookup n).map (n, ·) := by
      intro l hm
      induction l with
      | nil => rfl
      | cons y l ihl =>
        simp only [List.mem_cons, not_or] at hm
        rw [List.filterMap_cons, List.filterMap_cons, ihl hm.2, List.lookup_cons, beq_eq_false_iff_ne.mpr (Ne.symm hm.1)]
    exact key ns hn.1

theorem binds_plain {fd : FuncData} {vals : List Value} (h1 : fd.params.posonlyargs = []) (h2 : fd.params.kwonlyargs = []) (h3 : fd.params.vararg = none) (h4 : fd.params.kwarg = none) (h5 : fd.defaults = .none)
    (hl : vals.length = (fd.params.args.map (·.arg)).length) (hn : (fd.params.args.map (·.arg)).Nodup) : bindArgs fd ⟨vals, []⟩ = pure ((fd.params.args.map (·.arg)).zip vals) := by
  unfold bindArgs
  have e : seqItems? Value.none = (pure none : Sem (Option (Array Value))) := rfl
  simp only [h1, h2, h3, h4, h5, e, List.map_nil, List.nil_append, List.forIn_nil, pure_bind, bind_pure, Option.getD_none, List.drop_nil, List.length_nil, Nat.sub_zero, Option.isNone_none, Option.isSome_none]
  have hmiss : (List.filter (fun n => (List.lookup n ((fd.params.args.map (·.arg)).zip vals)).isNone) ((fd.params.args.map (·.arg)).take (fd.params.args.map (·.arg)).length)) = [] := by
    rw [List.filter_eq_nil_iff]
    intro n hnm
    have := zip_lookup_some hl n (List.mem_of_mem_take hnm)
    simp only [Option.isNone_iff_eq_none]
    intro q; rw [q] at this; cases this
  generalize hN : fd.params.args.map (·.arg) = N at *
  have hz := zip_filterMap hl hn
  rw [if_neg (by simp [hl]), hmiss]
  simp only [List.isEmpty_nil, Bool.not_true, Bool.false_eq_true, if_false, List.zip_nil_right, List.forIn_nil, pure_bind, List.append_nil, hz]
end Mine

namespace Mine
open PySem PySem.Calls PyProof.Rows PySem.SeqAt

theorem ix_get : ∀ {names : List (Str × NameKind)} {n i : Nat} {x : Str}, ((names.zipIdx n).map fun p => (p.1.1, p.2)).lookup x = some i → n ≤ i ∧ ∃ kd, names[i - n]? = some (x, kd)
  | [], _, _, _, h => by simp at h
  | (y, kd) :: r, n, i, x, h => by
    rw [List.zipIdx_cons, List.map_cons, List.lookup_cons] at h
    by_cases e : x = y
    · subst e
      simp only [beq_self_eq_true, Option.some.injEq] at h
      subst h
      exact ⟨Nat.le_refl _, kd, by simp⟩
    · simp only [beq_eq_false_iff_ne.mpr e] at h
      obtain ⟨h1, kd', h2⟩ := ix_get h
      refine ⟨by omega, kd', ?_⟩
      rw [show i - n = (i - (n + 1)) + 1 by omega]
      simpa using h2

theorem rho0_get {names : List (Str × NameKind)} {ps : List Str} {ds : List D} {i : Nat} {x : Str} {kd : NameKind} {lo : Lo} (h : names[i]? = some (x, kd)) (hl : Rho.get (rho0 names ps ds) i = some lo) : ∃ d, (ps.zip ds).lookup x = some d ∧ lo = .arg d := by
  unfold Rho.get rho0 at hl
  rw [List.getElem?_map, h] at hl
  simp only [Option.map_some, Option.getD_some] at hl
  obtain ⟨d, hd, rfl⟩ := Option.map_eq_some_iff.mp hl
  exact ⟨d, hd, rfl⟩

theorem zip_V {h : Heap} {x : Str} {d : D} : ∀ {ps : List Str} {vs : List Value} {ds : List D}, Vs h vs ds → (ps.zip ds).lookup x = some d → ∃ v, (ps.zip vs).lookup x = some v ∧ V h v d
  | [], _, _, _, e => by simp at e
  | p :: ps, _, _, .nil, e => by simp at e
  | p :: ps, v :: vs, d' :: ds, .cons a b, e => by
    rw [List.zip_cons_cons, List.lookup_cons] at e ⊢
    by_cases q : x = p
    · subst q
      simp only [beq_self_eq_true, Option.some.injEq] at e ⊢
      subst e
      exact ⟨v, rfl, a⟩
    · simp only [beq_eq_false_iff_ne.mpr q] at e ⊢
      exact zip_V b e

theorem bindL_other {kf : Str → Option NameKind} {x : Str} : ∀ {binds : List (Str × Value)} {m : Str → Option Value}, x ∉ binds.map (·.1) → bindL kf binds m x = m x
  | [], m, _ => rfl
  | (n, v) :: r, m, h => by
    simp only [List.map_cons, List.mem_cons, not_or] at h
    unfold bindL
    rw [bindL_other h.2]
    split
    · exact if_neg h.1
    · rfl
theorem bindC_other {kf : Str → Option NameKind} {x : Str} : ∀ {binds : List (Str × Value)} {m : Str → Option Value}, x ∉ binds.map (·.1) → bindC kf binds m x = m x
  | [], m, _ => rfl
  | (n, v) :: r, m, h => by
    simp only [List.map_cons, List.mem_cons, not_or] at h
    unfold bindC
    rw [bindC_other h.2]
    split
    · rfl
    · exact if_neg h.1
theorem bindL_get {kf : Str → Option NameKind} {x : Str} {v : Value} (hk : kf x = some .local) : ∀ {binds : List (Str × Value)} {m : Str → Option Value}, (binds.map (·.1)).Nodup → binds.lookup x = some v → bindL kf binds m x = some v
  | [], m, _, h => by simp at h
  | (n, u) :: r, m, hn, h => by
    rw [List.map_cons, List.nodup_cons] at hn
    unfold bindL
    rw [List.lookup_cons] at h
    by_cases q : x = n
    · subst q
      simp only [beq_self_eq_true, Option.some.injEq] at h
      subst h
      rw [bindL_other hn.1, if_pos hk, if_pos rfl]
    · simp only [beq_eq_false_iff_ne.mpr q] at h
      exact bindL_get hk hn.2 h
theorem bindC_get {kf : Str → Option NameKind} {x : Str} {v : Value} (hk : kf x = some .cell) : ∀ {binds : List (Str × Value)} {m : Str → Option Value}, (binds.map (·.1)).Nodup → binds.lookup x = some v → bindC kf binds m x = some v
  | [], m, _, h => by simp at h
  | (n, u) :: r, m, hn, h => by
    rw [List.map_cons, List.nodup_cons] at hn
    unfold bindC
    rw [List.lookup_cons] at h
    by_cases q : x = n
    · subst q
      simp only [beq_self_eq_true, Option.some.injEq] at h
      subst h
      rw [bindC_other hn.1, if_neg (by rw [hk]; decide), if_pos rfl]
    · simp only [beq_eq_false_iff_ne.mpr q] at h
      exact bindC_get hk hn.2 h

theorem cells_some {x : Str} : ∀ (names : List (Str × NameKind)) (n : Nat) (acc : List (Str × Addr)), names.lookup x = some .cell ∨ (acc.lookup x).isSome = true → ((cellsFrom n names acc).lookup x).isSome = true
  | [], n, acc, h => by
    rcases h with h | h
    · simp at h
    · exact h
  | (y, kd) :: r, n, acc, h => by
    unfold cellsFrom
    rw [List.lookup_cons] at h
    by_cases q : x = y
    · subst q
      simp only [beq_self_eq_true, Option.some.injEq] at h
      by_cases hk : (kd == NameKind.cell) = true
      · rw [if_pos hk]
        exact cells_some r _ _ (.inr (by simp))
      · rw [if_neg hk]
        refine cells_some r _ _ (.inr ?_)
        rcases h with h | h
        · rw [h] at hk; exact absurd rfl hk
        · exact h
    · simp only [beq_eq_false_iff_ne.mpr q] at h
      by_cases hk : (kd == NameKind.cell) = true
      · rw [if_pos hk]
        refine cells_some r _ _ ?_
        rcases h with h | h
        · exact .inl h
        · exact .inr (by rw [List.lookup_cons, beq_eq_false_iff_ne.mpr q]; exact h)
      · rw [if_neg hk]
        exact cells_some r _ _ h

/-- a def stands at a -/
structure FnAt (base : Heap) (a : Addr) (ps : List Str) (body : List Stmt) (scope : Scope) (o : Obj) (fd : FuncData) : Prop where
  at' : base.get? a = some o
  data : o.data = .func fd
  code : base.CodeRec fd.code fd.qualname
  body' : fd.body = .stmts body
  scope' : fd.scope = scope
  glob : fd.globals = mainGlobals
  blt : fd.builtins = builtinsNs
  clo : fd.closure = []
  bind : ∀ vals : List Value, vals.length = ps.length → bindArgs fd ⟨vals, []⟩ = pure (ps.zip vals)
  co : scope.isCoroutine = false
  gen : scope.isGenerator = false
  kind : scope.kind = .function
  nodup : ps.Nodup
  kinds : ∀ x ∈ ps, scope.names.lookup x = some .local ∨ scope.names.lookup x = some .cell

theorem zip_keys {ps : List Str} {vs : List Value} (h : vs.length = ps.length) : (ps.zip vs).map (·.1) = ps := by
  rw [List.map_fst_zip]; omega

section
variable {prog : Program} {w : World} {base : Heap} {Φ : Fns} {k : Nat} {RZ : RZt} {A : Around} {s : Shared}

theorem inv0 {a : Addr} {ps : List Str} {body : List Stmt} {scope : Scope} {o : Obj} {fd : FuncData} (F : FnAt base a ps body scope o fd) {vs : List Value} {ds : List D} (O : Ok base (k + 1) A s.heap) (hv : Vs s.heap vs ds) (hl : ds.length = ps.length) {s₁ : Shared}
    (X : InCallC s (callEnvC fd s.heap.objs.size a).locals (bindL (callEnvC fd s.heap.objs.size a).kindOf (ps.zip vs) fun _ => none) (callEnvC fd s.heap.objs.size a).cells (bindC (callEnvC fd s.heap.objs.size a).kindOf (ps.zip vs) fun _ => none) s₁) :
    Inv base s.heap k (scOf scope) (callEnvC fd s.heap.objs.size a) [] (rho0 scope.names ps ds) (A.deeper (callEnvC fd s.heap.objs.size a)) s₁.heap := by
  have hsc := F.scope'
  subst hsc
  have hvl := hv.length
  have hlv : vs.length = ps.length := by omega
  have hk : (ps.zip vs).map (·.1) = ps := zip_keys hlv
  have hnd : ((ps.zip vs).map (·.1)).Nodup := by rw [hk]; exact F.nodup
  have fr0 : s.heap.get? s.heap.objs.size = none := size_none _
  refine ⟨rfl, F.kind, F.glob, F.blt, fun x hx => cells_some _ _ _ (.inl hx), by simp [rho0, scOf], fun x y i hx hy => ?_, fun x i hx => ?_, X.toInCall.keep, fr0, ⟨_, X.toInCall.ns⟩, fun x c hc => ⟨?_, ?_, ⟨_, X.cell x c hc⟩, fun y hy => ?_⟩, ⟨fun _ => 0, fun x i lo h1 h2 h3 => ?_, fun i ds' h => ?_, fun i j ds' es h _ _ => ?_⟩, fun p hp => (by cases hp), ?_, rfl, ?_, Nat.le_refl _, O.stays⟩
  · obtain ⟨_, k1, e1⟩ := ix_get hx
    obtain ⟨_, k2, e2⟩ := ix_get hy
    rw [e1] at e2; cases e2; rfl
  · obtain ⟨_, k1, e1⟩ := ix_get hx
    have := (List.getElem?_eq_some_iff.mp e1).1
    simpa [scOf] using this
  · have hlt := X.above x c (PySem.mem_of_lookup hc)
    cases q : s.heap.get? c with
    | none => rfl
    | some o' => exact absurd (Nat.lt_trans (Heap.lt_size q) hlt) (Nat.lt_irrefl _)
  · exact Nat.ne_of_gt (X.above x c (PySem.mem_of_lookup hc))
  · exact name_of_addr X.apart (PySem.mem_of_lookup hy) (PySem.mem_of_lookup hc)
  · obtain ⟨_, kd, e1⟩ := ix_get h2
    obtain ⟨d, hd, rfl⟩ := rho0_get e1 h3
    obtain ⟨v, hv1, hv2⟩ := zip_V hv hd
    refine ⟨v, ?_, hv2⟩
    have hkx : (callEnvC fd s.heap.objs.size a).kindOf x = fd.scope.names.lookup x := rfl
    have hin : x ∈ ps := by
      have := PySem.mem_of_lookup hv1
      exact (List.of_mem_zip this).1
    rcases F.kinds x hin with hk1 | hk1
    · exact .loc _ (hkx.trans hk1) X.toInCall.ns (bindL_get (hkx.trans hk1) hnd hv1)
    · obtain ⟨c, hc⟩ := Option.isSome_iff_exists.mp (cells_some (x := x) fd.scope.names (s.heap.objs.size + 1) [] (.inl hk1))
      have hcc : (callEnvC fd s.heap.objs.size a).cells.lookup x = some c := hc
      have := X.cell x c hcc
      rw [bindC_get (hkx.trans hk1) hnd hv1] at this
      exact .cell c (hkx.trans hk1) hcc this
  · exfalso
    unfold Rho.get rho0 at h
    rw [List.getElem?_map] at h
    cases q : fd.scope.names[i]? with
    | none => rw [q] at h; cases h
    | some p =>
      rw [q] at h
      simp only [Option.map_some, Option.getD_some] at h
      obtain ⟨d, _, e⟩ := Option.map_eq_some_iff.mp h
      cases e
  · exfalso
    unfold Rho.get rho0 at h
    rw [List.getElem?_map] at h
    cases q : fd.scope.names[i]? with
    | none => rw [q] at h; cases h
    | some p =>
      rw [q] at h
      simp only [Option.map_some, Option.getD_some] at h
      obtain ⟨d, _, e⟩ := Option.map_eq_some_iff.mp h
      cases e
  · obtain ⟨o1, o2, o3, l, L⟩ := O
    refine ⟨o1, ?_, ?_, callEnvC fd s.heap.objs.size a :: l, Around.frames_deeper L.stack, fun b o q => X.toInCall.keep b o (L.stays b o q), ?_⟩
    · show A.depth + 1 + k < _; omega
    · show A.units + 3 + 10 * k + 100 < _; omega
    · refine .cons (by show fd.scope.kind ≠ .module; rw [F.kind]; decide) rfl X.toInCall.ns ?_ (L.frames.of_keeps fun b o e _ => ⟨o, X.toInCall.keep b o e, rfl⟩)
      cases q : base.get? s.heap.objs.size with
      | none => rfl
      | some o' => have := L.stays _ _ q; rw [fr0] at this; cases this
  · obtain ⟨_, _, _, l, L⟩ := O
    exact ⟨l, Around.frames_deeper L.stack⟩

theorem enter_ok {a : Addr} {ps : List Str} {body : List Stmt} {scope : Scope} {o : Obj} {fd : FuncData} {b : Ss} {E : Value → Shared → Prop} (F : FnAt base a ps body scope o fd) (hlim : base.NoLimit) (hX : XsOK prog w base Φ k RZ (scOf scope) body b) {vs : List Value} {ds : List D} {r : R} {d : D}
    (hrun : exs Φ (rho0 scope.names ps ds) b = some r) (hr : r = .ret d ∨ ((∃ ρ, r = .next ρ) ∧ d = .none)) (hl : ds.length = ps.length) (O : Ok base (k + 1) A s.heap) (hv : Vs s.heap vs ds) :
    wpAny (model prog w) A (call (.ref a) vs) (Post s d) E s := by
  have hvl := hv.length
  have hsc := F.scope'
  refine wpAny_call (codeAny_call_cells (by have := O.room; omega) (O.stays _ _ F.at') F.data (hlim.keeps O.stays) (F.code.keeps O.stays) F.body' (F.bind vs (by omega)) F.clo (fun x hx => ?_) (fun s₁ X => ?_) (by rw [hsc]; exact F.co) (by rw [hsc]; exact F.gen) (by rw [hsc]; exact F.kind))
  · have hm : x.1 ∈ ps := (List.of_mem_zip hx).1
    rw [hsc]
    rcases F.kinds x.1 hm with q | q
    · exact .inl q
    · exact .inr ⟨q, cells_some _ _ _ (.inl q)⟩
  · have I := inv0 F O hv hl X
    obtain ⟨h1, t1, rfl⟩ := X.toInCall.same
    refine wpAny_noRaise (hX s.heap _ [] _ _ _ r _ _ I PassesOwn.never hrun (fun fl s' f => ?_) fun c e s' hc _ _ => ?_)
    · obtain ⟨f1, f2, f3⟩ := f
      have sm : Same s s' := Same.trans (Same.mk' s h1 t1) f1
      obtain ⟨h2, t2, rfl⟩ := sm
      rcases hr with rfl | ⟨⟨ρ, rfl⟩, rfl⟩
      · obtain ⟨v, ρ', rfl, hV, I'⟩ := f3
        exact ⟨⟨h2, t2, rfl, I'.keep⟩, hV⟩
      · obtain ⟨rfl, I'⟩ := f3
        exact ⟨⟨h2, t2, rfl, I'.keep⟩, .none⟩
    · rcases hr with rfl | ⟨⟨ρ, rfl⟩, rfl⟩ <;> cases hc
end
end Mine

namespace Mine
open PySem PySem.Calls PyProof.Rows PySem.SeqAt

noncomputable def fnCheck (d : DefRec) : Bool :=
  d.params.posonlyargs.isEmpty && d.params.kwonlyargs.isEmpty && d.params.vararg.isNone && d.params.kwarg.isNone && !d.scope.isCoroutine && !d.scope.isGenerator && d.scope.kind == .function &&
  decide ((d.params.args.map (·.arg)).Nodup) && (d.params.args.map (·.arg)).all (fun x => d.scope.names.lookup x == some .local || d.scope.names.lookup x == some .cell)

noncomputable def prep1 (fns excs : List Str) (N : Nat) (rs : List DefRec) (n : Str) : Option Fn :=
  (rs.find? (fun d => d.name == n)).bind fun d => if fnCheck d = true then (cSs fns excs N (scOf d.scope) d.body).map fun b => ⟨d.params.args.map (·.arg), d.scope.names, b⟩ else none
noncomputable def prepAll (fns excs : List Str) (N : Nat) (rs : List DefRec) : List Str → Option Prg
  | [] => some []
  | n :: r => (prep1 fns excs N rs n).bind fun f => (prepAll fns excs N rs r).map fun fs => f :: fs

theorem prepAll_cons {fns excs : List Str} {N : Nat} {rs : List DefRec} {n : Str} {r : List Str} {P : Prg} (h : prepAll fns excs N rs (n :: r) = some P) : ∃ f fs, prep1 fns excs N rs n = some f ∧ prepAll fns excs N rs r = some fs ∧ P = f :: fs := by
  replace h := ob h
  obtain ⟨f, hf, h⟩ := h
  replace h := om h
  obtain ⟨fs, hfs, rfl⟩ := h
  exact ⟨f, fs, hf, hfs, rfl⟩
theorem prepAll_get {fns excs : List Str} {N : Nat} {rs : List DefRec} : ∀ {l : List Str} {P : Prg}, prepAll fns excs N rs l = some P → ∀ {i : Nat} {g : Fn}, P[i]? = some g → ∃ n, l[i]? = some n ∧ prep1 fns excs N rs n = some g
  | [], P, h, i, g, hg => by cases h; cases hg
  | n :: r, P, h, i, g, hg => by
    obtain ⟨f, fs, hf, hfs, rfl⟩ := prepAll_cons h
    cases i with
    | zero => cases hg; exact ⟨n, rfl, hf⟩
    | succ i => exact prepAll_get hfs hg
theorem prepAll_fn {fns excs : List Str} {N : Nat} {rs : List DefRec} : ∀ {l : List Str} {P : Prg}, prepAll fns excs N rs l = some P → ∀ {i : Nat} {n : Str}, l[i]? = some n → ∃ g, P[i]? = some g ∧ prep1 fns excs N rs n = some g
  | [], P, h, i, g, hg => by cases hg
  | n :: r, P, h, i, g, hg => by
    obtain ⟨f, fs, hf, hfs, rfl⟩ := prepAll_cons h
    cases i with
    | zero => cases hg; exact ⟨f, rfl, hf⟩
    | succ i => exact prepAll_fn hfs hg

noncomputable def addrOf : Value → Addr
  | .ref a => a
  | _ => 0
noncomputable def faOf (fns : List Str) (mg : Str → Option Value) (i : Nat) : Addr := (((fns[i]?).bind mg).map addrOf).getD 0

theorem faOf_eq {fns : List Str} {mg : Str → Option Value} {i : Nat} {n : Str} {a : Addr} (h : fns[i]? = some n) (hm : mg n = some (.ref a)) : faOf fns mg i = a := by
  unfold faOf; rw [h]; show ((mg n).map addrOf).getD 0 = a; rw [hm]; rfl

noncomputable def freeIn (q : Program) (loose : List Str) (x : Str) : Bool := !startupNames.contains x && !loose.contains x && !((recsOf q).map (·.name)).contains x && !((litsOf q).map (·.1)).contains x && !((clssOf q loose).map (·.name)).contains x && x != "__name__"

section
variable {q : Program} {loose : List Str} {mean : ExcName → Option Value} {mg mb : Str → Option Value} {base : Heap} {fns excs : List Str} {N : Nat} {P : Prg}

theorem fnAt_of (T : Top q loose mean mg mb base) (hp : prepAll fns excs N (recsOf q) fns = some P) {i : Nat} {g : Fn} (hg : P[i]? = some g) :
    ∃ (d : DefRec) (o : Obj) (fd : FuncData), mg d.name = some (.ref (faOf fns mg i)) ∧ fns[i]? = some d.name ∧ FnAt base (faOf fns mg i) g.ps d.body d.scope o fd ∧ g.names = d.scope.names ∧ cSs fns excs N (scOf d.scope) d.body = some g.body := by
  obtain ⟨n, hn, h1⟩ := prepAll_get hp hg
  replace h1 := ob h1
  obtain ⟨d, hd, h2⟩ := h1
  replace h2 := oi' h2
  obtain ⟨hc, h3⟩ := h2
  replace h3 := om h3
  obtain ⟨b, hb, rfl⟩ := h3
  have hmem := List.mem_of_find?_eq_some hd
  have hname : d.name = n := by
    have h4 := List.find?_some hd
    exact beq_iff_eq.mp h4
  subst hname
  obtain ⟨a, o, pm, code, doc, e1, e2, e3, e4⟩ := T.fn d hmem
  have hfa := faOf_eq hn e1
  refine ⟨d, o, docDef d.name d.params d.body d.scope pm code doc, by rw [hfa]; exact e1, hn, ?_, rfl, hb⟩
  simp only [fnCheck, Bool.and_eq_true, decide_eq_true_eq, Bool.not_eq_true', beq_iff_eq, List.isEmpty_iff, Option.isNone_iff_eq_none, List.all_eq_true, Bool.or_eq_true] at hc
  obtain ⟨⟨⟨⟨⟨⟨⟨⟨c1, c2⟩, c3⟩, c4⟩, c5⟩, c6⟩, c7⟩, c8⟩, c9⟩ := hc
  rw [hfa]
  exact ⟨e2, e3, e4, rfl, rfl, rfl, rfl, rfl, fun vals hl => binds_plain c1 c2 c3 c4 rfl (by simpa [docDef] using hl) c8, c5, c6, c7, c8, c9⟩

theorem gl_of (T : Top q loose mean mg mb base) (hp : prepAll fns excs N (recsOf q) fns = some P) (hb : blNames.all (freeIn q loose) = true) : Gl fns base mg mb (faOf fns mg) := by
  refine ⟨T.g, T.b, T.nolimit, fun i n hn => ?_, fun x hx => ?_⟩
  · obtain ⟨g, hg, _⟩ := prepAll_fn hp hn
    obtain ⟨d, o, fd, e1, e2, e3, _⟩ := fnAt_of T hp hg
    rw [hn] at e2; cases e2
    exact ⟨o, fd, e1, e3.at', e3.data⟩
  · have := List.all_eq_true.mp hb x hx
    simp only [freeIn, Bool.and_eq_true, Bool.not_eq_true', List.contains_eq_mem, decide_eq_false_iff_not, bne_iff_ne, ne_eq] at this
    obtain ⟨⟨⟨⟨⟨a1, a2⟩, a3⟩, a4⟩, a5⟩, a6⟩ := this
    exact ⟨T.free x a1 a2 a3 a4 a5, T.builtins x a6⟩

noncomputable def RZ0 : RZt := fun _ _ _ _ _ _ => False

theorem retR_ok {r : R} {o : Out} (h : retR false r = some o) : ∃ d, o = .ok d ∧ (r = .ret d ∨ ((∃ ρ, r = .next ρ) ∧ d = .none)) := by
  cases r with
  | ret d => cases h; exact ⟨d, rfl, .inl rfl⟩
  | next ρ => cases h; exact ⟨_, rfl, .inr ⟨⟨ρ, rfl⟩, rfl⟩⟩
  | err c => cases h
  | cont ρ => cases h
theorem run_parts {n f : Nat} {ds : List D} {o : Out} {keep : Bool} (h : run keep P (n + 1) f ds = some o) : ∃ g r, P[f]? = some g ∧ ds.length = g.ps.length ∧ exs (run keep P n) (rho0 g.names g.ps ds) g.body = some r ∧ retR keep r = some o := by
  replace h := ob h
  obtain ⟨g, hg, h⟩ := h
  replace h := oi' h
  obtain ⟨hl, h⟩ := h
  replace h := ob h
  obtain ⟨r, hr, h⟩ := h
  exact ⟨g, r, hg, hl, hr, h⟩
theorem run_noerr : ∀ {n f : Nat} {ds : List D} {c : Nat}, run false P n f ds ≠ some (.err c)
  | 0, f, ds, c, h => by cases h
  | n + 1, f, ds, c, h => by
    obtain ⟨g, r, _, _, _, h⟩ := run_parts h
    obtain ⟨d, e, _⟩ := retR_ok h
    cases e

theorem run_ok {prog : Program} {w : World} (T : Top q loose mean mg mb base) (hp : prepAll fns [] N (recsOf q) fns = some P) (hb : blNames.all (freeIn q loose) = true) : ∀ n, FnsOk prog w base (run false P n) (faOf fns mg) n
  | 0 => fun f ds d A s vs E h _ _ => by cases h
  | n + 1 => fun f ds d A s vs E h O hv => by
    obtain ⟨g, r, hg, hl, hr, h⟩ := run_parts h
    obtain ⟨d', e, hd⟩ := retR_ok h
    cases e
    obtain ⟨dd, o, fd, e1, e2, e3, e4, e5⟩ := fnAt_of T hp hg
    have ER : Errs prog w base (run false P n) (faOf fns mg) n [] RZ0 := ⟨(fun sc x p m q1 q2 q3 pos c _ hx => by cases hx), (fun sc f ds c h₀ env T ρ A s vs h => (run_noerr h).elim)⟩
    rw [e4] at hr
    exact enter_ok e3 T.nolimit (xs_sound (n := N) (sc := scOf dd.scope) (gl_of T hp hb) (run_ok T hp hb n) ER dd.body g.body e5) hr hd hl O hv
end
end Mine

namespace Mine
open PySem PySem.W PySem.Calls PyProof.Rows PySem.SeqAt

theorem wellAll_ints {Pp : Params} {h : Heap} : ∀ {vs : List Value} {xs : List Int}, WellAll Pp h vs (ofPys (xs.map .int)) → Vs h vs (xs.map .int)
  | vs, [], x => by
    simp only [List.map_nil, ofPys] at x
    cases x; exact .nil
  | vs, n :: xs, x => by
    simp only [List.map_cons, ofPys] at x
    cases x with
    | cons a b =>
      simp only [ofPy] at a
      cases a
      exact .cons (.int _ _) (wellAll_ints b)

theorem ok_caller (h : Heap) : Ok h 20 callerA h := by
  refine ⟨rfl, ?_, ?_, [], below_caller h⟩
  · show 301 + 20 < recursionLimit; decide
  · decide +kernel

theorem script_V {Pp : Params} {h : Heap} {a : Addr} {xs : List Int} (W : Well Pp h (.ref a) (ofPy (.list (xs.map .int)))) (hl : xs.length ≤ 63) : V h (.ref a) (.lst (xs.map .int)) := by
  simp only [ofPy] at W
  cases W with
  | list ho hv =>
    exact .lst ⟨_, ho⟩ (wellAll_ints hv) (by rw [List.length_map]; exact Nat.le_trans hl (by decide))

theorem law_runs {q : Program} {loose : List Str} {mean : ExcName → Option Value} {mg mb : Str → Option Value} {prog : Program} {w : World} {s₁ : Shared} {fns : List Str} {P : Prg} {N i : Nat} {fa a : Addr} {n : Str} {xs : List Int} {E : Value → Shared → Prop}
    (T : Top q loose mean mg mb s₁.heap) (hp : prepAll fns [] N (recsOf q) fns = some P) (hb : blNames.all (freeIn q loose) = true) (hmg : mg n = some (.ref fa)) (hi : fns[i]? = some n)
    (W : Well w.params s₁.heap (.ref a) (ofPy (.list (xs.map .int)))) (hl : xs.length ≤ 63) (hrun : run false P 20 i [.lst (xs.map .int)] = some (.ok (.bool true))) :
    wpAny (model prog w) callerA (call (.ref fa) [.ref a]) (fun v s' => v = .bool true ∧ Keeps s₁ s') E s₁ := by
  have h := run_ok (prog := prog) (w := w) T hp hb 20 i _ _ callerA s₁ [.ref a] E hrun (ok_caller _) (.cons (script_V W hl) .nil)
  rw [faOf_eq hi hmg] at h
  refine wpAny_mono h (fun v s' q => ?_) fun _ _ x => x
  obtain ⟨K, hV⟩ := q
  cases hV
  exact ⟨rfl, K⟩

theorem good_true {c : ClaimW} {cl : Str → Option Addr} {mean : ExcName → Option Value} {args : List WData} {s₁ s' : Shared} {v : Value} (hv : v = .bool true ∧ Keeps s₁ s') (hg : s₁.gens = #[]) (hn : ∀ cls, c.raises args cls = false) (hp : c.post args (.bool true) args = true) :
    GoodWG c cl mean args s₁ (.ok (.ret v)) s' := by
  obtain ⟨rfl, h, tk, rfl, hk⟩ := hv
  exact GoodW.toG ⟨.inl ⟨.bool true, .bool true, [], rfl, hn, .bool true, hp, unshared_nil⟩, hk, rfl, hg⟩
end Mine

namespace Mine
open PySem PySem.W PySem.Calls PyProof.Rows PySem.SeqAt

noncomputable def addrs (fr : List Env) : List Addr := fr.filterMap (·.frame)
/-- an exception of the class at C is under way: all but the frames' own objects stands as at h₀ -/
noncomputable def Fly (h₀ : Heap) (fr : List Env) (C e : Addr) (h : Heap) : Prop :=
  ∃ t, Heap.FlyingW (hideAll h₀ (addrs fr)) fr e (.ref C) (.ref t) h ∧ h₀.UpToSlots h
/-- an exception in a frame: made here, or come from a call -/
noncomputable def RZ1 (base : Heap) (ca : Nat → Addr) : RZt := fun h₀ env A c e h =>
  ∃ a outer, e = .ref a ∧ A.frames = some (env :: outer) ∧
    ((∃ h₁ vs, Heap.MadeExcOf h₁ h a (.ref (ca c)) vs ∧ (∀ b o, h₀.get? b = some o → h₁.get? b = some o) ∧ h₁.FunFrames base (env :: outer)) ∨
     ∃ g, (∀ b o, h₀.get? b = some o → g.get? b = some o) ∧ Fly g (env :: outer) (ca c) a h)

section
variable {prog : Program} {w : World} {base : Heap} {ca : Nat → Addr}

theorem hide_stays {h₀ g : Heap} {env : Env} {outer : List Env} (hf : env.frame = some env.locals) (hn : h₀.get? env.locals = none) (k : ∀ b o, h₀.get? b = some o → g.get? b = some o) :
    (hideAll h₀ (addrs outer)).StaysIn (hideAll g (addrs (env :: outer))) := by
  intro b o q
  have q0 := of_hideAll _ q
  refine hideAll_get _ (k b o q0) fun hm => ?_
  have hm : b ∈ env.locals :: addrs outer := by
    rw [addrs, List.filterMap_cons_some hf] at hm; exact hm
  rcases List.mem_cons.mp hm with rfl | hm
  · rw [hn] at q0; cases q0
  · rw [hideAll_none _ hm] at q; cases q

theorem leave_RZ {h₀ : Heap} {env : Env} {A : Around} {c : Nat} {e : Value} {s : Shared} {Q : Unit → Shared → Prop} {E : Value → Shared → Prop} (z : RZ1 base ca h₀ env A c e s.heap) (hf : env.frame = some env.locals) (hn : h₀.get? env.locals = none)
    (hQ : ∀ a outer h', e = .ref a → A.frames = some (env :: outer) → Fly h₀ outer (ca c) a h' → Q () { s with heap := h' }) : wpAny (model prog w) A (leaving env e) Q E s := by
  obtain ⟨a, outer, rfl, hfr, z⟩ := z
  rcases z with ⟨h₁, vs, hm, k, hF⟩ | ⟨g, k, t, x, u⟩
  · have hin : ∀ e ∈ env :: outer, ∀ b, e.frame = some b → b ∈ addrs (env :: outer) := fun e he b hb => List.mem_filterMap.mpr ⟨e, he, hb⟩
    exact wpAny_leaves_madeW hfr hf (fun b o q => of_hideAll _ q) (funFrames_hide hF hin) hm fun h' t x1 x2 x3 x4 =>
      hQ a outer h' rfl hfr ⟨t, flyingW_base (hide_stays hf hn k) x1, (Heap.UpToSlots.of_keeps k).trans ((Heap.UpToSlots.of_keeps hm.keeps).trans x4)⟩
  · exact wpAny_leaves_onW hfr hf x fun h' y v => hQ a outer h' rfl hfr ⟨t, flyingW_base (hide_stays hf hn k) y, (Heap.UpToSlots.of_keeps k).trans (u.trans v)⟩

/-- calls that raise -/
noncomputable def ErrOk (prog : Program) (w : World) (base : Heap) (Φ : Fns) (fa ca : Nat → Addr) (k : Nat) : Prop :=
  ∀ f ds c A s vs, Φ f ds = some (.err c) → Ok base k A s.heap → Vs s.heap vs ds →
    wpAny (model prog w) A (call (.ref (fa f)) vs) (fun _ _ => False) (fun e s' => Same s s' ∧ ∃ a l, e = .ref a ∧ A.frames = some l ∧ Fly s.heap l (ca c) a s'.heap) s

theorem enter_err {Φ : Fns} {k : Nat} {A : Around} {s : Shared} {a : Addr} {ps : List Str} {body : List Stmt} {scope : Scope} {o : Obj} {fd : FuncData} {b : Ss} (F : FnAt base a ps body scope o fd) (hlim : base.NoLimit) (hX : XsOK prog w base Φ k (RZ1 base ca) (scOf scope) body b) {vs : List Value} {ds : List D} {c : Nat}
    (hrun : exs Φ (rho0 scope.names ps ds) b = some (.err c)) (hl : ds.length = ps.length) (O : Ok base (k + 1) A s.heap) (hv : Vs s.heap vs ds) :
    wpAny (model prog w) A (call (.ref a) vs) (fun _ _ => False) (fun e s' => Same s s' ∧ ∃ a l, e = .ref a ∧ A.frames = some l ∧ Fly s.heap l (ca c) a s'.heap) s := by
  have hvl := hv.length
  have hsc := F.scope'
  refine wpAny_call (codeAny_call_cells (by have := O.room; omega) (O.stays _ _ F.at') F.data (hlim.keeps O.stays) (F.code.keeps O.stays) F.body' (F.bind vs (by omega)) F.clo (fun x hx => ?_) (fun s₁ X => ?_) (by rw [hsc]; exact F.co) (by rw [hsc]; exact F.gen) (by rw [hsc]; exact F.kind))
  · have hm : x.1 ∈ ps := (List.of_mem_zip hx).1
    rw [hsc]
    rcases F.kinds x.1 hm with q | q
    · exact .inl q
    · exact .inr ⟨q, cells_some _ _ _ (.inl q)⟩
  · have I := inv0 F O hv hl X
    obtain ⟨h1, t1, rfl⟩ := X.toInCall.same
    refine hX s.heap _ [] _ _ _ (.err c) _ _ I PassesOwn.leaving hrun (fun fl s' f => f.2.2.elim) fun c' e s' hc sm z => ?_
    cases hc
    refine leave_RZ z I.frame I.newL fun ae outer h' e1 e2 e3 => ?_
    obtain ⟨l, L⟩ := O.fr
    have hfr := Around.frames_deeper (A := A) (env := callEnvC fd s.heap.objs.size a) L.stack
    rw [hfr] at e2
    cases e2
    subst e1
    exact ⟨(Same.mk' s h1 t1).trans (sm.trans ⟨h', s'.toks, rfl⟩), ae, _, rfl, L.stack, e3⟩

abbrev bmV : List Value := [.type "ValueError", .type "Exception", .type "BaseException", .type "object"]

variable {q : Program} {loose : List Str} {mean : ExcName → Option Value} {mg mb : Str → Option Value} {fns excs : List Str} {N : Nat} {P : Prg}

theorem raise_own {h₀ : Heap} {k : Nat} {sc : Sc} {env : Env} {T' : List (Addr × Obj)} {ρ : Rho} {A : Around} {s : Shared} {x m : Str} {p q1 q3 pos : Pos} {q2} {c : Nat} {Q : Flow → Shared → Prop} {E : Value → Shared → Prop}
    (T : Top q loose mean mg mb base) (hs : specOf q x = some ("ValueError.__new__", bmV)) (hc : excs[c]? = some x) (hg : glob sc x = true) (I : Inv base h₀ k sc env T' ρ A s.heap)
    (hE : ∀ e s', Same s s' → RZ1 base (faOf excs mg) h₀ env A c e s'.heap → E e s') :
    wpAny (model prog w) A (exec (.Raise (some (.Call (.Name x p) [.Constant (.str m) q2 q1] [] q3)) none pos) env) Q E s := by
  obtain ⟨C, O, _⟩ := T.ownAt hs
  obtain ⟨tl, N, nm, q', bs, hdct, sn, sub, ab, col, dd, k0, k1, k2, k3, k5, mN, hC, hN, hni, TL⟩ := O.own.obj
  have hca : faOf excs mg c = C := faOf_eq hc O.bound
  simp only [Mine.glob, Bool.and_eq_true, beq_iff_eq, Bool.not_eq_true'] at hg
  refine wpAny_Raise_call_subU (C := C) (nm := nm) (q := q') (N := N) (bs := bs) (bm := tl) (hdct := hdct) (sn := sn) (sub := sub) (ab := ab) (col := col) (dd := dd) (k0 := k0) (k1 := k1) (k2 := k2) (k3 := k3) (k5 := k5)
    PySem.F.excBase_ValueError (by decide +kernel) PySem.F.excBase_ValueError (mN := mN) (TL.hasType PySem.F.excBase_ValueError.hasBase) I.ok.hand rfl hni ?_
  refine Name_function_global I.kind ((I.kindOf x).trans hg.1) (loadGlobal_global (mg := mg) (by rw [I.glob]; exact T.g.keeps I.ok.stays) O.bound ⟨rfl, ?_⟩) hg.2
  refine evalArgs_plain (spliced_cons ?_)
  show wpAny _ _ (eval (.Constant (.str m) q2 q1) env) _ _ _
  refine Constant_str (spliced_nil ?_)
  have st := I.ok.stays
  refine ⟨rfl, (show 1 ≤ sizeLine by decide +kernel), st _ _ hC, hN.keeps st, TL.keeps st, fun h' e hm => ?_⟩
  obtain ⟨l, hl⟩ := I.stk
  obtain ⟨l', L⟩ := I.ok.fr
  have : l' = env :: l := by have := L.stack; rw [hl] at this; cases this; rfl
  subst this
  exact hE _ _ ⟨h', s.toks + 1, rfl⟩ ⟨e, l, rfl, hl, .inl ⟨s.heap, _, by rw [hca]; exact hm, I.keep, L.frames⟩⟩

theorem errs_of {Φ : Fns} {k : Nat} (T : Top q loose mean mg mb base) (hs : excs.all (fun x => decide (specOf q x = some ("ValueError.__new__", bmV))) = true) (hE : ErrOk prog w base Φ (faOf fns mg) (faOf excs mg) k) : Errs prog w base Φ (faOf fns mg) k excs (RZ1 base (faOf excs mg)) := by
  refine ⟨fun sc x p m q1 q2 q3 pos c hg hx h₀ env T' ρ A s Q E I h => ?_, fun sc f ds c h₀ env T' ρ A s vs hf I hv => ?_⟩
  · have hc := idxOf?_get hx
    exact raise_own T (of_decide_eq_true (List.all_eq_true.mp hs x (List.mem_of_getElem? hc))) hc hg I h
  · refine wpAny_mono (hE f ds c A s vs hf I.ok hv) (fun _ _ x => x) fun e s' z => ?_
    obtain ⟨sm, a, l, rfl, hl, fl⟩ := z
    obtain ⟨l', hl'⟩ := I.stk
    rw [hl'] at hl; cases hl
    exact ⟨sm, a, l', rfl, hl', .inr ⟨s.heap, I.keep, fl⟩⟩

theorem retR_cases {r : R} {o : Out} (h : retR true r = some o) : (∃ d, o = .ok d ∧ (r = .ret d ∨ ((∃ ρ, r = .next ρ) ∧ d = .none))) ∨ ∃ c, o = .err c ∧ r = .err c := by
  cases r with
  | ret d => cases h; exact .inl ⟨d, rfl, .inl rfl⟩
  | next ρ => cases h; exact .inl ⟨_, rfl, .inr ⟨⟨ρ, rfl⟩, rfl⟩⟩
  | err c => cases h; exact .inr ⟨c, rfl, rfl⟩
  | cont ρ => cases h

theorem run_ok2 (T : Top q loose mean mg mb base) (hp : prepAll fns excs N (recsOf q) fns = some P) (hb : blNames.all (freeIn q loose) = true) (hs : excs.all (fun x => decide (specOf q x = some ("ValueError.__new__", bmV))) = true) :
    ∀ n, FnsOk prog w base (run true P n) (faOf fns mg) n ∧ ErrOk prog w base (run true P n) (faOf fns mg) (faOf excs mg) n
  | 0 => ⟨(fun f ds d A s vs E h _ _ => by cases h), (fun f ds c A s vs h _ _ => by cases h)⟩
  | n + 1 => by
    obtain ⟨ih1, ih2⟩ := run_ok2 T hp hb hs n
    have ER := errs_of T hs ih2
    have G := gl_of T hp hb
    refine ⟨fun f ds d A s vs E h O hv => ?_, fun f ds c A s vs h O hv => ?_⟩
    · obtain ⟨g, r, hg, hl, hr, h⟩ := run_parts h
      obtain ⟨dd, o, fd, e1, e2, e3, e4, e5⟩ := fnAt_of T hp hg
      rw [e4] at hr
      rcases retR_cases h with ⟨d', e, hd⟩ | ⟨c, e, _⟩
      · cases e
        exact enter_ok e3 T.nolimit (xs_sound (n := N) (sc := scOf dd.scope) G ih1 ER dd.body g.body e5) hr hd hl O hv
      · cases e
    · obtain ⟨g, r, hg, hl, hr, h⟩ := run_parts h
      obtain ⟨dd, o, fd, e1, e2, e3, e4, e5⟩ := fnAt_of T hp hg
      rw [e4] at hr
      rcases retR_cases h with ⟨d', e, hd⟩ | ⟨c', e, hc⟩
      · cases e
      · cases e; subst hc
        exact enter_err e3 T.nolimit (xs_sound (n := N) (sc := scOf dd.scope) G ih1 ER dd.body g.body e5) hr hl O hv
end
end Mine

namespace Mine
open PySem PySem.W PySem.Calls PyProof.Rows PySem.SeqAt

section
variable {base h₀ h h' : Heap} {k : Nat} {sc : Sc} {env : Env} {T : List (Addr × Obj)} {ρ : Rho} {A : Around}

/-- the frame's own object has other slots; all else stands -/
theorem Inv.slots (I : Inv base h₀ k sc env T ρ A h) (hk : ∀ a q, a ≠ env.locals → h.get? a = some q → h'.get? a = some q) (hs : h.UpToSlots h') (hF : ∀ l, A.frames = some l → h'.FunFrames base l) : Inv base h₀ k sc env T ρ A h' ∧ Tk h h' := by
  obtain ⟨m, hm⟩ := I.ns
  have kt : ∀ a items, h.IsTuple a items → h'.IsTuple a items := fun a items t => let ⟨o, ho, r⟩ := t; ⟨o, hk a o (ns_notuple hm t) ho, r⟩
  refine ⟨?_, kt⟩
  obtain ⟨α, a1, a2, a3⟩ := I.own
  refine ⟨I.names, I.kind, I.glob, I.blt, I.cells, I.len, I.inj, I.lt, fun a q e => hk a q (by rintro rfl; rw [I.newL] at e; cases e) (I.keep a q e), I.newL, ⟨m, hs.ns hm⟩, fun x c hx => ?_, ⟨α, fun x i lo q1 q2 q3 => ?_, fun i ds q => ?_, a3⟩, fun p hp => ?_, ?_, I.frame, I.stk, I.above, I.bse⟩
  · obtain ⟨p1, p2, ⟨v, o'', ho', hd'⟩, p4⟩ := I.cel x c hx
    exact ⟨p1, p2, ⟨v, o'', hk c o'' p2 ho', hd'⟩, p4⟩
  · obtain ⟨v, p, q⟩ := a1 x i lo q1 q2 q3
    refine ⟨v, ?_, q.change kt fun ds e o ho => ?_⟩
    · cases p with
      | loc m' e1 e2 e3 => exact .loc m' e1 (hs.ns e2) e3
      | cell c e1 e2 e3 => obtain ⟨o'', ho', hd'⟩ := e3; exact .cell c e1 e2 ⟨o'', hk c o'' (I.cel x c e2).2.1 ho', hd'⟩
    · subst e
      obtain ⟨_, _, xs, p3⟩ := a2 i ds q3
      exact hk _ o (ns_nolist hm p3) ho
  · obtain ⟨p1, p2, xs, p3⟩ := a2 i ds q
    exact ⟨p1, p2, xs, p3.at fun o e => hk _ o (ns_nolist hm p3) e⟩
  · obtain ⟨p1, p2⟩ := I.prot p hp
    exact ⟨hk _ _ p2.1 p1, p2⟩
  · obtain ⟨x1, x2, x3, l, L⟩ := I.ok
    exact ⟨x1, x2, x3, l, L.stack, fun a q e => hk a q (by rintro rfl; have := I.bse _ _ e; rw [I.newL] at this; cases this) (L.stays a q e), hF l L.stack⟩

theorem Inv.base_hide (I : Inv base h₀ k sc env T ρ A h) {fr : List Env} (hfr : A.frames = some fr) : base.StaysIn (hideAll h (addrs fr)) := by
  obtain ⟨_, _, _, l, L⟩ := I.ok
  have := L.stack; rw [hfr] at this; cases this
  intro b o q
  refine hideAll_get _ (L.stays b o q) fun hm => ?_
  rw [(L.frames.mem hm).1] at q; cases q

/-- an exception has come to the outermost frame -/
theorem Inv.flown (I : Inv base h₀ k sc env T ρ A h) (hA : A.frames = some [env]) {C a : Addr} (F : Fly h [env] C a h') : Inv base h₀ k sc env T ρ A h' ∧ Tk h h' := by
  obtain ⟨t, x, u⟩ := F
  refine I.slots (fun b q hb e => x.1 b q (hideAll_get _ e fun hm => ?_)) u fun l hl => ?_
  · have hm : b ∈ addrs [env] := hm
    rw [addrs, List.filterMap_cons_some I.frame] at hm
    exact hb (List.mem_singleton.mp hm)
  · rw [hA] at hl; cases hl
    exact funFrames_base (I.base_hide hA) x.2.2.1
end

/-- what is known of the own exceptions' classes -/
structure Cls (base : Heap) (mg : Str → Option Value) (excs : List Str) (ca : Nat → Addr) (sub : Nat → Nat → Bool) : Prop where
  bound : ∀ i x, excs[i]? = some x → mg x = some (.ref (ca i))
  obj : ∀ i x, excs[i]? = some x → ∃ tl N nm q bs hdct sn sb ab col dd k0 k1 k2 k3 k5 newId, base.get? (ca i) = some (excClassObj nm q (ca i) N bs tl hdct sn sb ab col dd k0 k1 k2 k3 k5 newId) ∧ OwnTail base bmV tl ∧
    ∀ j y, excs[j]? = some y → (Value.ref (ca i) :: tl).contains (.ref (ca j)) = sub i j

section
variable {M : Model} {A : Around} {E : Value → Shared → Prop}
theorem excMatches_own {h : Heap} {g : Array GenState} {d : Drawn} {t : Nat} {os : OsState} {e C K : Addr} {oe : Obj} {Q : Bool → Shared → Prop}
    {nm q : Str} {N : Addr} {bs tl : List Value} {hdct : Bool} {sn : List Str} {sb : List Value} {ab : Bool} {col : Option Bool} {dd : Option Addr} {k0 k1 k2 k3 k5 : Option Value} {newId : String}
    {nm' q' : Str} {N' : Addr} {bs' tl' : List Value} {hdct' : Bool} {sn' : List Str} {sb' : List Value} {ab' : Bool} {col' : Option Bool} {dd' : Option Addr} {k0' k1' k2' k3' k5' : Option Value} {newId' : String} {b : Bool}
    (hC : h.get? C = some (excClassObj nm q C N bs tl hdct sn sb ab col dd k0 k1 k2 k3 k5 newId)) (hK : h.get? K = some (excClassObj nm' q' K N' bs' tl' hdct' sn' sb' ab' col' dd' k0' k1' k2' k3' k5' newId'))
    (he : h.get? e = some oe) (hcls : oe.cls = .ref C) (hbase : tl'.contains (.type "BaseException") = true) (hb : (Value.ref C :: tl).contains (.ref K) = b)
    (hq : Q b ⟨h, g, d, t, os⟩) : wpAny M A (excMatches (.ref e) (.ref K)) Q E ⟨h, g, d, t, os⟩ := by
  have hcB : (Value.ref K :: tl').contains (.type "BaseException") = true := by rw [List.contains_cons, hbase, Bool.or_true]
  have f := tc_notTuple
  unfold excMatches
  repeat (first | (with_reducible refine wpAny_loadPart_at he ?_; rw [hcls]) | with_reducible refine wpAny_loadPart_at hK ?_ | (with_reducible refine wpAny_isSubtype_exc hK ?_; rw [hcB]) | (with_reducible refine wpAny_isSubtype_exc hC ?_; rw [hb]) | wp_step)
  cases b <;> (wp_walk; exact hq)
end
end Mine

namespace Mine
open PySem PySem.W PySem.Calls PyProof.Rows PySem.SeqAt

/-- a handler: the class's number, the name that is set, the constant -/
structure Hd where
  c : Nat
  x : Nat
  d : D
/-- the statements of the outermost def -/
inductive U where
  | st (a : S)
  | tr (i f : Nat) (es : Es) (hs : List Hd)
  | ir (c g : E) (es : Es)
  | rt (es : Es)

noncomputable def tryR (sub : Nat → Nat → Bool) (ρ : Rho) (i : Nat) (hs : List Hd) (o : Out) : Option R := match o with
  | .ok d => putD ρ i d
  | .err c => (hs.find? fun h => sub c h.c).bind fun h => putD ρ h.x h.d
noncomputable def refR (Ψ : List D → Option Bool) (ds : List D) : Option R := (Ψ ds).map fun b => .ret (.bool b)
noncomputable def exU (Φ : Fns) (Ψ : List D → Option Bool) (sub : Nat → Nat → Bool) (ρ : Rho) : List U → Option R
  | [] => some (.next ρ)
  | u :: r => match u with
    | .st a => (ex Φ ρ a).bind (thenR fun ρ' => exU Φ Ψ sub ρ' r)
    | .tr i f es hs => (evs Φ ρ es).bind fun ds => (Φ f ds).bind fun o => (tryR sub ρ i hs o).bind (thenR fun ρ' => exU Φ Ψ sub ρ' r)
    | .ir c g es => (ev Φ ρ c).bind fun d => ifT d ((ev Φ ρ g).bind fun x => ifT x ((evs Φ ρ es).bind fun ds => refR Ψ ds) (some (.ret (.bool false)))) (exU Φ Ψ sub ρ r)
    | .rt es => (evs Φ ρ es).bind fun ds => refR Ψ ds

section
variable {prog : Program} {w : World} {base h₀ : Heap} {fns excs : List Str} {mg mb : Str → Option Value} {fa ca : Nat → Addr} {Φ : Fns} {k n : Nat} {sc : Sc} {env : Env} {T : List (Addr × Obj)} {ρ : Rho} {A : Around} {s : Shared}

theorem asCall2 (G : Gl fns base mg mb fa) (hΦ : FnsOk prog w base Φ fa k) (hE : ErrOk prog w base Φ fa ca k) {v : Expr} {q : Nat × Es} (h : asCall fns n sc v = some q) (I : Inv base h₀ k sc env T ρ A s.heap)
    {ds : List D} {out : Out} (hds : evs Φ ρ q.2 = some ds) (ho : Φ q.1 ds = some out) :
    wpAny (model prog w) A (eval v env) (fun r s' => ∃ d, out = .ok d ∧ Post s d r s') (fun e s' => ∃ c g a l, out = .err c ∧ Same s s' ∧ Tk s.heap g ∧ Inv base h₀ k sc env T ρ A g ∧ e = .ref a ∧ A.frames = some l ∧ Fly g l (ca c) a s'.heap) s := by
  obtain ⟨g, p, a, r, pos, rfl, hg, hi, hes⟩ := asCall_parts h
  have J := ev_sound (prog := prog) (w := w) (k := k) G hΦ n sc
  have hn := idxOf?_get hi
  obtain ⟨o, fd, h1, h2, h3⟩ := G.fn q.1 g hn
  obtain ⟨a', ha, _⟩ := ob (show ((cE fns n sc a).bind _) = some q.2 from hes)
  refine Call_ (load_fn G I.cx hg hn (callWith_def h3 ?_ (starEach_plain (J.plain ha) _ _)))
  refine wpAny_mono (args_ok J (a :: r) q.2 hes env ρ A s ds _ pos I.cx hds) (fun vs s₁ h₁ => ?_) fun _ _ x => x
  have I₁ := I.mono (keeps_heap h₁.1)
  refine ⟨I₁.ok.stays _ _ h2, ?_⟩
  cases out with
  | ok d => exact wpAny_mono (hΦ q.1 ds d A s₁ vs _ ho I₁.ok h₁.2) (fun r s₂ h₂ => ⟨d, rfl, keeps_trans h₁.1 h₂.1, h₂.2⟩) fun _ _ x => x
  | err c =>
    refine wpAny_mono (hE q.1 ds c A s₁ vs ho I₁.ok h₁.2) (fun r s₂ h₂ => h₂.elim) fun e s₂ h₂ => ?_
    obtain ⟨sm, a, l, e1, e2, e3⟩ := h₂
    exact ⟨c, s₁.heap, a, l, rfl, (Same.keeps h₁.1).trans sm, Tk.mono (keeps_heap h₁.1), I₁, e1, e2, e3⟩

theorem const_ok {M : Model} {A : Around} {E : Value → Shared → Prop} {cn : Const} {d : D} {kk : Nat} {pos : Pos} (h : cConst cn = some d) : wpAny M A (eval (.Constant cn kk pos) env) (Post s d) E s := by
  cases cn <;> first | exact nns h | exact nnb h | skip
  · cases h; exact wpAny_pure ⟨keeps_refl s, .none⟩
  · cases h; exact wpAny_pure ⟨keeps_refl s, .bool _⟩
  · cases h; exact wpAny_Constant_int post_int
  · cases h; exact Constant_str ⟨keeps_toks s _, .str _ _⟩

/-! the text -/
noncomputable def asgOf : Stmt → Option (List Expr × Expr)
  | .Assign ts v _ => some (ts, v)
  | _ => none
theorem asgOf_some {st : Stmt} {q : List Expr × Expr} (h : asgOf st = some q) : ∃ p, st = .Assign q.1 q.2 p := by
  cases st <;> first | exact nns h | exact nnb h | skip
  cases h; exact ⟨_, rfl⟩
noncomputable def hdOf (excs : List Str) (sc : Sc) : ExceptHandler → Option Hd
  | .ExceptHandler ty nm body _ => if nm.isNone = true then ty.bind fun t => (nameOf t).bind fun c => if glob sc c = true then (excs.idxOf? c).bind fun ci => (one body).bind fun st => (asgOf st).bind fun q => (one q.1).bind fun t => (nameOf t).bind fun y => (idxVar sc y).bind fun j => (constOf q.2).bind fun kc => (cConst kc).map fun d => ⟨ci, j, d⟩
    else none else none
noncomputable def hdsOf (excs : List Str) (sc : Sc) : List ExceptHandler → Option (List Hd)
  | [] => some []
  | h :: r => (hdOf excs sc h).bind fun a => (hdsOf excs sc r).map fun b => a :: b
theorem hdOf_some {h : ExceptHandler} {hd : Hd} (e : hdOf excs sc h = some hd) : ∃ c np y py kc kk kp pa hp, h = .ExceptHandler (some (.Name c np)) none [.Assign [.Name y py] (.Constant kc kk kp) pa] hp ∧ glob sc c = true ∧ excs.idxOf? c = some hd.c ∧ idxVar sc y = some hd.x ∧ cConst kc = some hd.d := by
  obtain ⟨ty, nm, body, hp⟩ := h
  replace e := oi' e
  obtain ⟨hn, e⟩ := e
  cases nm with
  | some => cases hn
  | none =>
  replace e := ob e
  obtain ⟨t, ht, e⟩ := e
  replace e := ob e
  obtain ⟨c, hc, e⟩ := e
  replace e := oi' e
  obtain ⟨hg, e⟩ := e
  replace e := ob e
  obtain ⟨ci, hci, e⟩ := e
  replace e := ob e
  obtain ⟨st, hst, e⟩ := e
  replace e := ob e
  obtain ⟨⟨q1, q2⟩, hq, e⟩ := e
  replace e := ob e
  obtain ⟨t', ht', e⟩ := e
  replace e := ob e
  obtain ⟨y, hy, e⟩ := e
  replace e := ob e
  obtain ⟨j, hj, e⟩ := e
  replace e := ob e
  obtain ⟨kc, hk, e⟩ := e
  replace e := om e
  obtain ⟨d, hd', rfl⟩ := e
  subst ht
  obtain ⟨np, rfl⟩ := nameOf_some hc
  have := one_some hst; subst this
  obtain ⟨pa, rfl⟩ := asgOf_some hq
  have ht' : one q1 = some t' := ht'
  have := one_some ht'; subst this
  obtain ⟨py, rfl⟩ := nameOf_some hy
  obtain ⟨kk, kp, hk'⟩ := constOf_some hk
  have hk' : q2 = _ := hk'
  subst hk'
  exact ⟨c, np, y, py, kc, kk, kp, pa, hp, rfl, hg, hci, hj, hd'⟩

theorem fly_marks {g h : Heap} {fr : List Env} {C a t : Addr} (x : Heap.FlyingW (hideAll g (addrs fr)) fr a (.ref C) (.ref t) h) (u : g.UpToSlots h) : Fly g fr C a h := ⟨t, x, u⟩

/-- the handlers take the exception -/
theorem handle_ok {sub : Nat → Nat → Bool} {g : Heap} {a : Addr} {c : Nat} {hd : Hd} {Q : Flow → Shared → Prop} {E : Value → Shared → Prop} {x₀ : Str} (hng : base.Ns mainGlobals mg) (Cl : Cls base mg excs ca sub) (hc : excs[c]? = some x₀) (I : Inv base h₀ k sc env T ρ A g) (hA : A.frames = some [env])
    (hp : hd.d.pure = true) : ∀ {hsE : List ExceptHandler} {hs : List Hd} {s : Shared}, hdsOf excs sc hsE = some hs → Fly g [env] (ca c) a s.heap → (hs.find? fun h => sub c h.c) = some hd →
      (∀ s' , Same s s' → Tk g s'.heap → Inv base h₀ k sc env T (ρ.set hd.x (some (.dat hd.d))) A s'.heap → Q .next s') → wpAny (model prog w) A (handleBy (.ref a) env hsE) Q E s
  | [], hs, s, e, F, hf, hQ => by cases e; cases hf
  | hE :: rest, hs, s, e, F, hf, hQ => by
    replace e := ob e
    obtain ⟨h0, eh, e1⟩ := e
    replace e1 := om e1
    obtain ⟨hs', er, rfl⟩ := e1
    obtain ⟨cn, np, y, py, kc, kk, kp, pa, hpos, rfl, hg, hci, hy, hk⟩ := hdOf_some eh
    have gl := hg
    simp only [Mine.glob, Bool.and_eq_true, beq_iff_eq, Bool.not_eq_true'] at gl
    obtain ⟨I₁, t₁⟩ := I.flown hA F
    have hcn := idxOf?_get hci
    obtain ⟨tl, N, nm, q, bs, hdct, sn, sb, ab, col, dd, k0, k1, k2, k3, k5, newId, hC, TL, hsub⟩ := Cl.obj c x₀ hc
    obtain ⟨tl', N', nm', q', bs', hdct', sn', sb', ab', col', dd', k0', k1', k2', k3', k5', newId', hK, TL', _⟩ := Cl.obj h0.c cn hcn
    have hb := hsub h0.c cn hcn
    obtain ⟨t, x, u⟩ := id F
    obtain ⟨oe, hoe, hoc⟩ := x.there
    refine wpAny_handleBy_cons (codeAny_handlers_test ?_) (by intro q; cases q)
    refine Name_function_global I.kind ((I.kindOf cn).trans gl.1) (loadGlobal_global (mg := mg) (by rw [I.glob]; exact hng.keeps I₁.ok.stays) (Cl.bound h0.c cn hcn) ?_) gl.2
    obtain ⟨hh, gg, dr, tk, os⟩ := s
    refine excMatches_own (I₁.ok.stays _ _ hC) (I₁.ok.stays _ _ hK) hoe hoc (TL'.hasType PySem.F.excBase_ValueError.hasBase) hb ?_
    cases hsb : sub c h0.c with
    | true =>
      rw [List.find?_cons_of_pos (by simpa using hsb)] at hf
      cases hf
      refine codeAny_handlers_suite (lands_againW x fun h₆ x₆ u₆ => ?_)
      have F₆ := fly_marks x₆ (u.trans u₆)
      obtain ⟨I₆, t₆⟩ := I.flown hA F₆
      refine wpAny_execs_cons (wpAny_Assign_Name (wpAny_mono (const_ok hk) (fun v s₇ q₇ => ?_) fun _ _ x => x) rfl)
      refine put_ok (s := ⟨h₆, gg, dr, tk, os⟩) I₆ hy q₇.1 q₇.2 hp fun s₈ f => ?_
      refine wpAny_execs_nil ?_
      exact hQ s₈ (Same.trans ⟨h₆, tk, rfl⟩ f.1) (t₆.trans f.2.1) f.2.2.2
    | false =>
      rw [List.find?_cons_of_neg (by simp [hsb])] at hf
      exact handle_ok hng Cl hc I hA hp er F hf hQ

/-- the outermost def's statements -/
noncomputable def XT (prog : Program) (w : World) (base : Heap) (Φ : Fns) (Ψ : List D → Option Bool) (sub : Nat → Nat → Bool) (k : Nat) (sc : Sc) (sts : List Stmt) (us : List U) : Prop :=
  ∀ h₀ env T ρ A s r Q, A.frames = some [env] → Inv base h₀ k sc env T ρ A s.heap → exU Φ Ψ sub ρ us = some r → (∀ c, r ≠ .err c) → (∀ fl s', FinR base h₀ k sc env T A s r fl s' → Q fl s') → wpAny (model prog w) A (execs sts env) Q (fun _ _ => False) s

theorem XT.after {Ψ : List D → Option Bool} {sub : Nat → Nat → Bool} {a : List Stmt} {us : List U} (ha : XT prog w base Φ Ψ sub k sc a us) {h₀ : Heap} {env : Env} {T : List (Addr × Obj)} {ρ : Rho} {A : Around} {s s₁ : Shared} {r : R} {Q : Flow → Shared → Prop}
    (sm : Same s s₁) (tk : Tk s.heap s₁.heap) (hA : A.frames = some [env]) (I : Inv base h₀ k sc env T ρ A s₁.heap) (hex : exU Φ Ψ sub ρ us = some r) (hr : ∀ c, r ≠ .err c) (hQ : ∀ fl s', FinR base h₀ k sc env T A s r fl s' → Q fl s') : wpAny (model prog w) A (execs a env) Q (fun _ _ => False) s₁ :=
  ha h₀ env T ρ A s₁ r Q hA I hex hr fun fl s' f => hQ fl s' (f.after sm tk)

theorem XT.nil {Ψ : List D → Option Bool} {sub : Nat → Nat → Bool} : XT prog w base Φ Ψ sub k sc [] [] := by
  intro h₀ env T ρ A s r Q hA I hex hr hQ
  cases hex
  exact wpAny_execs_nil (hQ _ _ ⟨Same.refl s, Tk.refl _, rfl, I⟩)

theorem XT.st {Ψ : List D → Option Bool} {sub : Nat → Nat → Bool} {RZ : RZt} {st : Stmt} {a : S} {r : List Stmt} {us : List U} (ha : XOK prog w base Φ k RZ sc st a) (hb : XT prog w base Φ Ψ sub k sc r us) : XT prog w base Φ Ψ sub k sc (st :: r) (.st a :: us) := by
  intro h₀ env T ρ A s r' Q hA I hex hr hQ
  replace hex := ob hex
  obtain ⟨ra, hx, hex1⟩ := hex
  refine wpAny_execs_cons (ha h₀ env T ρ A s ra _ _ I PassesOwn.never hx (fun fl s' F => ?_) fun c e s' hc sm z => ?_)
  · obtain ⟨F1, F2, F3⟩ := F
    cases ra with
    | next ρ' =>
      obtain ⟨rfl, I'⟩ := F3
      exact hb.after F1 F2 hA I' hex1 hr hQ
    | cont ρ' =>
      cases hex1
      obtain ⟨rfl, I'⟩ := F3
      exact hQ _ _ ⟨F1, F2, rfl, I'⟩
    | ret d =>
      cases hex1
      obtain ⟨v, ρ', rfl, q⟩ := F3
      exact hQ _ _ ⟨F1, F2, v, ρ', rfl, q⟩
    | err c => exact F3.elim
  · subst hc
    cases hex1
    exact hr c rfl

theorem XT.tr {Ψ : List D → Option Bool} {sub : Nat → Nat → Bool} (G : Gl fns base mg mb fa) (hΦ : FnsOk prog w base Φ fa k) (hE : ErrOk prog w base Φ fa ca k) (Cl : Cls base mg excs ca sub) (hcs : ∀ c j, sub c j = true → ∃ x, excs[c]? = some x) {x : Str} {px pa pos : Pos} {v : Expr} {i : Nat} {q : Nat × Es} {hsE : List ExceptHandler} {hs : List Hd} {r : List Stmt} {us : List U}
    (hx : idxVar sc x = some i) (h : asCall fns n sc v = some q) (hh : hdsOf excs sc hsE = some hs) (hne : hsE ≠ []) (hb : XT prog w base Φ Ψ sub k sc r us) : XT prog w base Φ Ψ sub k sc (.Try [.Assign [.Name x px] v pa] hsE [] [] pos :: r) (.tr i q.1 q.2 hs :: us) := by
  intro h₀ env T ρ A s r' Q hA I hex hr hQ
  replace hex := ob hex
  obtain ⟨ds, hds, hex1⟩ := hex
  replace hex1 := ob hex1
  obtain ⟨out, ho, hex2⟩ := hex1
  replace hex2 := ob hex2
  obtain ⟨r1, ht, hex3⟩ := hex2
  cases hsE with
  | nil => exact absurd rfl hne
  | cons hE0 hsE =>
  refine wpAny_execs_cons (wpAny_Try_except (wpAny_execs_cons (wpAny_Assign_Name (wpAny_mono (asCall2 G hΦ hE h I hds ho) (fun v s₁ q₁ => ?_) fun e s₁ q₁ => ?_) (asCall_swaps h _ _ _))))
  · obtain ⟨d, rfl, K, hV⟩ := q₁
    obtain ⟨hp, rfl⟩ := oi ht
    refine put_ok I hx K hV hp fun s' F => wpAny_execs_nil (wpAny_execs_nil ?_)
    exact hb.after F.1 F.2.1 hA F.2.2.2 hex3 hr hQ
  · obtain ⟨c, g, a, l, rfl, sm, tk, Ig, rfl, hl, F⟩ := q₁
    rw [hA] at hl; cases hl
    replace ht := ob ht
    obtain ⟨hd, hf, ht⟩ := ht
    replace ht := oi ht
    obtain ⟨hp, rfl⟩ := ht
    obtain ⟨x₀, hc⟩ := hcs c hd.c (by simpa using List.find?_some hf)
    obtain ⟨t, y, u⟩ := F
    refine wpAny_looks_onW hA I.frame y fun h₄ hd₄ u₄ => wpAny_landsW hd₄ fun h₅ y₅ u₅ => ?_
    refine handle_ok G.g Cl hc Ig hA hp hh (fly_marks y₅ ((u.trans u₄).trans u₅)) hf fun s' sm' tk' I' => ?_
    exact hb.after (sm.trans (Same.trans ⟨h₅, s₁.toks, rfl⟩ sm')) (tk.trans tk') hA I' hex3 hr hQ
end
end Mine

namespace Mine
open PySem PySem.W PySem.Calls PyProof.Rows PySem.SeqAt

/-- a call has come back that has dealt with an exception: the frames' own objects may have other slots -/
noncomputable def Weak (base : Heap) (A : Around) (s s' : Shared) : Prop :=
  Same s s' ∧ ∃ l, A.frames = some l ∧ (hideAll s.heap (addrs l)).StaysIn s'.heap ∧ s.heap.UpToSlots s'.heap ∧ s'.heap.FunFrames base l
noncomputable def RefOk (prog : Program) (w : World) (base : Heap) (Ψ : List D → Option Bool) (ra : Addr) (k : Nat) : Prop :=
  ∀ ds b A s vs, Ψ ds = some b → Ok base k A s.heap → Vs s.heap vs ds → wpAny (model prog w) A (call (.ref ra) vs) (fun v s' => v = .bool b ∧ Weak base A s s') (fun _ _ => False) s

section
variable {prog : Program} {w : World} {base h₀ : Heap} {fns excs : List Str} {mg mb : Str → Option Value} {fa ca : Nat → Addr} {Φ : Fns} {k n : Nat} {sc : Sc} {env : Env} {T : List (Addr × Obj)} {ρ : Rho} {A : Around} {s : Shared} {Ψ : List D → Option Bool} {sub : Nat → Nat → Bool} {ra : Addr}

theorem Inv.weak {s' : Shared} (I : Inv base h₀ k sc env T ρ A s.heap) (hA : A.frames = some [env]) (W : Weak base A s s') : Inv base h₀ k sc env T ρ A s'.heap ∧ Tk s.heap s'.heap := by
  obtain ⟨_, l, hl, x, u, F⟩ := W
  rw [hA] at hl; cases hl
  refine I.slots (fun b q hb e => x b q (hideAll_get _ e fun hm => ?_)) u fun l hl => ?_
  · rw [addrs, List.filterMap_cons_some I.frame] at hm
    exact hb (List.mem_singleton.mp hm)
  · rw [hA] at hl; cases hl; exact F

/-- the call that deals with the exception, from the outermost def -/
theorem ref_call (G : Gl fns base mg mb fa) (hΦ : FnsOk prog w base Φ fa k) (hR : RefOk prog w base Ψ ra k) {rf : Str} {o : Obj} {fd : FuncData} (hm : mg rf = some (.ref ra)) (ho : base.get? ra = some o) (hd : o.data = .func fd) {a : Expr} {r : List Expr} {es : Es} {p pos : Pos} (hg : glob sc rf = true)
    (hes : cEs (cE fns n sc) (a :: r) = some es) (hA : A.frames = some [env]) (I : Inv base h₀ k sc env T ρ A s.heap) {ds : List D} {b : Bool} (hds : evs Φ ρ es = some ds) (hb : Ψ ds = some b) :
    wpAny (model prog w) A (eval (.Call (.Name rf p) (a :: r) [] pos) env) (fun v s' => v = .bool b ∧ Same s s' ∧ Tk s.heap s'.heap ∧ Inv base h₀ k sc env T ρ A s'.heap) (fun _ _ => False) s := by
  have J := ev_sound (prog := prog) (w := w) (k := k) G hΦ n sc
  simp only [Mine.glob, Bool.and_eq_true, beq_iff_eq, Bool.not_eq_true'] at hg
  obtain ⟨a', ha, _⟩ := ob (show ((cE fns n sc a).bind _) = some es from hes)
  refine Call_ (Name_function_global I.kind ((I.kindOf rf).trans hg.1) (loadGlobal_global (mg := mg) (by rw [I.glob]; exact G.g.keeps I.ok.stays) hm (callWith_def hd ?_ (starEach_plain (J.plain ha) _ _))) hg.2)
  refine wpAny_mono (args_ok J (a :: r) es hes env ρ A s ds _ pos I.cx hds) (fun vs s₁ h₁ => ?_) fun _ _ x => x
  have I₁ := I.mono (keeps_heap h₁.1)
  refine ⟨I₁.ok.stays _ _ ho, wpAny_mono (hR ds b A s₁ vs hb I₁.ok h₁.2) (fun v s₂ h₂ => ?_) fun _ _ x => x⟩
  obtain ⟨I₂, t₂⟩ := I₁.weak hA h₂.2
  exact ⟨h₂.1, (Same.keeps h₁.1).trans h₂.2.1, (Tk.mono (keeps_heap h₁.1)).trans t₂, I₂⟩

theorem XT.rt (G : Gl fns base mg mb fa) (hΦ : FnsOk prog w base Φ fa k) (hR : RefOk prog w base Ψ ra k) {rf : Str} {o : Obj} {fd : FuncData} (hm : mg rf = some (.ref ra)) (ho : base.get? ra = some o) (hd : o.data = .func fd) {a : Expr} {r : List Expr} {es : Es} {p pos pr : Pos} (hg : glob sc rf = true)
    (hes : cEs (cE fns n sc) (a :: r) = some es) {rest : List Stmt} {us : List U} : XT prog w base Φ Ψ sub k sc (.Return (some (.Call (.Name rf p) (a :: r) [] pos)) pr :: rest) (.rt es :: us) := by
  intro h₀ env T ρ A s r' Q hA I hex hr hQ
  replace hex := ob hex
  obtain ⟨ds, hds, hex1⟩ := hex
  replace hex1 := om hex1
  obtain ⟨b, hb, rfl⟩ := hex1
  refine wpAny_execs_cons (wpAny_Return_some (wpAny_mono (ref_call G hΦ hR hm ho hd hg hes hA I hds hb) (fun v s₁ q => ?_) fun _ _ x => x))
  obtain ⟨rfl, sm, tk, I'⟩ := q
  exact hQ _ _ ⟨sm, tk, _, ρ, rfl, .bool b, I'⟩

theorem XT.ir (G : Gl fns base mg mb fa) (hΦ : FnsOk prog w base Φ fa k) (hR : RefOk prog w base Ψ ra k) {rf : Str} {o : Obj} {fd : FuncData} (hm : mg rf = some (.ref ra)) (ho : base.get? ra = some o) (hd : o.data = .func fd) {t g a : Expr} {r : List Expr} {tc gc : Mine.E} {es : Es} {p pos pb pr pi : Pos} (hg : glob sc rf = true)
    (ht : cE fns n sc t = some tc) (hgc : cE fns n sc g = some gc) (hes : cEs (cE fns n sc) (a :: r) = some es) {rest : List Stmt} {us : List U} (hb : XT prog w base Φ Ψ sub k sc rest us) :
    XT prog w base Φ Ψ sub k sc (.If t [.Return (some (.BoolOp .And [g, .Call (.Name rf p) (a :: r) [] pos] pb)) pr] [] pi :: rest) (.ir tc gc es :: us) := by
  intro h₀ env T ρ A s r' Q hA I hex hr hQ
  have J := ev_sound (prog := prog) (w := w) (k := k) G hΦ n sc
  replace hex := ob hex
  obtain ⟨d, hc, hex1⟩ := hex
  replace hex1 := ob hex1
  obtain ⟨bb, hbb, hex2⟩ := hex1
  rw [isTrueD_some hbb] at hc
  refine wpAny_execs_cons (wpAny_If (wpAny_mono ((J.1 t tc ht).2 env ρ A s bb _ I.cx hc) (fun q s₁ hq => ?_) fun _ _ x => x))
  obtain ⟨rfl, K⟩ := hq
  have I₁ := I.mono (keeps_heap K)
  have sm₁ := Same.keeps K
  have tk₁ := Tk.mono (keeps_heap K)
  cases q with
  | false => exact wpAny_execs_nil (hb.after sm₁ tk₁ hA I₁ hex2 hr hQ)
  | true =>
    replace hex2 := ob hex2
    obtain ⟨x, hx, hex3⟩ := hex2
    replace hex3 := ob hex3
    obtain ⟨y, hy, hex4⟩ := hex3
    rw [isTrueD_some hy] at hx
    refine wpAny_execs_cons (wpAny_Return_some ?_)
    show wpAny _ _ (do
      let v ← eval g env
      standAt pb
      let t ← holding [v] (truthy v)
      match BoolOp.And, t with
      | .And, false | .Or, true => pure v
      | _, _ => boolOp pb .And (evalEach [.Call (.Name rf p) (a :: r) [] pos] env)) _ _ _
    refine wpAny_bind (wpAny_mono ((J.1 g gc hgc).1 env ρ A s₁ _ _ I₁.cx hx) (fun v s₂ q₂ => wpAny_bind (wpAny_standAt (wpAny_bind (wpAny_holding ?_)))) fun _ _ x => x)
    obtain ⟨K2, hV⟩ := q₂
    have := hV.bool_inv; subst this
    refine wpAny_truthy_bool ?_
    have I₂ := I₁.mono (keeps_heap K2)
    have sm₂ := sm₁.trans (Same.keeps K2)
    have tk₂ := tk₁.trans (Tk.mono (keeps_heap K2))
    cases y with
    | false =>
      cases hex4
      exact wpAny_pure (hQ _ _ ⟨sm₂, tk₂, _, ρ, rfl, .bool false, I₂⟩)
    | true =>
      replace hex4 := ob hex4
      obtain ⟨ds, hds, hex5⟩ := hex4
      replace hex5 := om hex5
      obtain ⟨b, hb', rfl⟩ := hex5
      refine wpAny_mono (ref_call G hΦ hR hm ho hd hg hes hA I₂ hds hb') (fun v s₃ q₃ => ?_) fun _ _ x => x
      obtain ⟨rfl, sm, tk, I'⟩ := q₃
      exact hQ _ _ ⟨sm₂.trans sm, tk₂.trans tk, _, ρ, rfl, .bool b, I'⟩
end
end Mine

namespace Mine
open PySem PySem.W PySem.Calls PyProof.Rows PySem.SeqAt

noncomputable def D.atom : D → Bool
  | .tup _ => false
  | .lst _ => false
  | _ => true
theorem V.atom {h h' : Heap} {v : Value} {d : D} (x : V h v d) (e : d.atom = true) : V h' v d := by
  cases x with
  | none => exact .none
  | bool b => exact .bool b
  | int i t => exact .int i t
  | str x t => exact .str x t
  | tup => cases e
  | lst => cases e

/-- what a handler's suite may lean on -/
structure HCx (base : Heap) (ca : Nat → Addr) (sc : Sc) (env : Env) (ρ : Rho) (nm : Str) (a : Addr) (c : Nat) (h : Heap) : Prop where
  names : env.scope.names = sc.kd
  kind : env.scope.kind = .function
  glob : env.globals = mainGlobals
  blt : env.builtins = builtinsNs
  stays : ∀ b o, base.get? b = some o → h.get? b = some o
  exc : At h env nm (.ref a)
  obj : ∃ oe, h.get? a = some oe ∧ oe.cls = .ref (ca c)
  binds : ∀ x i d, sc.kd.lookup x = some .local → x ≠ nm → sc.ix.lookup x = some i → ρ.get i = some (.arg d) → d.atom = true → ∃ v, At h env x v ∧ V h v d

theorem HCx.mono {base : Heap} {ca : Nat → Addr} {sc : Sc} {env : Env} {ρ : Rho} {nm : Str} {a : Addr} {c : Nat} {h h' : Heap} (x : HCx base ca sc env ρ nm a c h) (e : ∀ b o, h.get? b = some o → h'.get? b = some o) : HCx base ca sc env ρ nm a c h' :=
  ⟨x.names, x.kind, x.glob, x.blt, fun b o q => e b o (x.stays b o q), x.exc.mono e, let ⟨oe, p, q⟩ := x.obj; ⟨oe, e _ _ p, q⟩, fun y i d h1 h2 h3 h4 h5 => let ⟨v, p, q⟩ := x.binds y i d h1 h2 h3 h4 h5; ⟨v, p.mono e, q.mono e⟩⟩

/-- the suite gives back a truth value -/
noncomputable def HBok (prog : Program) (w : World) (base : Heap) (excs : List Str) (ca : Nat → Addr) (sc : Sc) (nm : Str) (hb : List Stmt) (F : Nat → Rho → Option Bool) : Prop :=
  ∀ env ρ a c x₀ A s b, HCx base ca sc env ρ nm a c s.heap → excs[c]? = some x₀ → A.units + 8 < cLine → F c ρ = some b → wpAny (model prog w) A (execs hb env) (fun fl s' => fl = .ret (.bool b) ∧ Keeps s s') (fun _ _ => False) s

section
variable {prog : Program} {w : World} {base : Heap} {fns excs : List Str} {mg mb : Str → Option Value} {fa ca : Nat → Addr} {sc : Sc} {sub : Nat → Nat → Bool} {nm : Str}
variable {nm1 q : Str} {N : Addr} {bs tl : List Value} {hdct : Bool} {sn : List Str} {sb : List Value} {ab : Bool} {col : Option Bool} {dd : Option Addr} {k0 k1 k2 k3 k5 : Option Value} {newId : String}

theorem HCx.kindOf {env : Env} {ρ : Rho} {a : Addr} {c : Nat} {h : Heap} (X : HCx base ca sc env ρ nm a c h) (x : Str) : env.kindOf x = sc.kd.lookup x := by
  show env.scope.names.lookup x = _
  rw [X.names]

theorem HCx.builtin {env : Env} {ρ : Rho} {a : Addr} {c : Nat} {A : Around} {s : Shared} {x : Str} {pos : Pos} {v : Value} {Q : Value → Shared → Prop} {E : Value → Shared → Prop} (X : HCx base ca sc env ρ nm a c s.heap) (G : Gl fns base mg mb fa) (hg : Mine.glob sc x = true)
    (hx : x ∈ blNames) (hv : bootBuiltins x = some v) (h : Q v s) : wpAny (model prog w) A (eval (.Name x pos) env) Q E s := by
  simp only [Mine.glob, Bool.and_eq_true, beq_iff_eq, Bool.not_eq_true'] at hg
  obtain ⟨h1, h2⟩ := G.bl x hx
  refine Name_function_global X.kind ((X.kindOf x).trans hg.1) (loadGlobal_builtin (mg := mg) (mb := mb) ?_ h1 ?_ (h2.trans hv) h) hg.2
  · rw [X.glob]; exact G.g.keeps X.stays
  · rw [X.blt]; exact G.b.keeps X.stays

theorem isiT {A : Around} {E : Value → Shared → Prop} {s : Shared} {e C : Addr} {oe : Obj} {T : String} {Q : Value → Shared → Prop} (hC : s.heap.get? C = some (excClassObj nm1 q C N bs tl hdct sn sb ab col dd k0 k1 k2 k3 k5 newId)) (he : s.heap.get? e = some oe) (hcls : oe.cls = .ref C)
    (hb : tl.contains (.type T) = true) (hty : typeOf (.type T) = pure (.type "type")) (h : Q (.bool true) s) : wpAny (model prog w) A (call (.builtin "isinstance") [.ref e, .type T]) Q E s := by
  refine call_isinstance_of ?_
  obtain ⟨hp, g, d, t, os⟩ := s
  have hb' : (Value.ref C :: tl).contains (.type T) = true := by rw [List.contains_cons, hb, Bool.or_true]
  unfold Builtin.«isinstance.nested»
  repeat (first | (with_reducible refine wpAny_loadPart_at he ?_; rw [hcls]) | (with_reducible refine wpAny_isSubtype_exc hC ?_; rw [hb']) | wp_step)
  k_delta "plainIsInstance"
  repeat (first | (with_reducible refine wpAny_loadPart_at he ?_; rw [hcls]) | (with_reducible refine wpAny_isSubtype_exc hC ?_; rw [hb']) | wp_step)
  exact h

theorem boot_ValueError : bootBuiltins "ValueError" = some (.type "ValueError") := by decide +kernel
theorem type_ValueError : typeOf (.type "ValueError") = pure (.type "type") := by kernel_rfl

/-- return isinstance(e, ValueError) -/
theorem hb_isV (G : Gl fns base mg mb fa) (Cl : Cls base mg excs ca sub) (h1 : glob sc "isinstance" = true) (h2 : glob sc "ValueError" = true) (hd : (nm == ("__debug__" : Str)) = false) {p1 p2 p3 p4 p5 : Pos} :
    HBok prog w base excs ca sc nm [.Return (some (.Call (.Name "isinstance" p1) [.Name nm p2, .Name "ValueError" p3] [] p4)) p5] fun _ _ => some true := by
  intro env ρ a c x₀ A s b X hc hu hb
  cases hb
  obtain ⟨oe, ho, hoc⟩ := X.obj
  obtain ⟨tl, N, nm', q, bs, hdct, sn, sb, ab, col, dd, k0, k1, k2, k3, k5, newId, hC, TL, _⟩ := Cl.obj c x₀ hc
  refine wpAny_execs_cons (wpAny_Return_some (Call_ (X.builtin G h1 (by decide +kernel) boot_isinstance (callWith_builtin1 (args_cons (load_var (ρ := ρ) (sc := sc) X.kind X.exc ?_ hd) rfl) rfl rfl))))
  refine args_cons (X.builtin G h2 (by decide +kernel) boot_ValueError (args_nil ?_)) rfl
  exact isiT (X.stays _ _ hC) ho hoc (TL.hasType (by decide +kernel)) type_ValueError ⟨rfl, keeps_refl s⟩
end
end Mine

namespace Mine
open PySem PySem.W PySem.Calls PyProof.Rows PySem.SeqAt

noncomputable def errOf : Out → Option Nat
  | .ok _ => none
  | .err c => some c
theorem errOf_some {o : Out} {c : Nat} (h : errOf o = some c) : o = .err c := by cases o <;> cases h; rfl

/-- what the def that deals with every exception gives back -/
noncomputable def refRun (Φ : Fns) (sub : Nat → Nat → Bool) (names : List (Str × NameKind)) (ps : List Str) (q : Nat × Es) (ci : Nat) (F : Nat → Rho → Option Bool) (ds : List D) : Option Bool :=
  if ds.length = ps.length then (evs Φ (rho0 names ps ds) q.2).bind fun ds' => (Φ q.1 ds').bind fun o => (errOf o).bind fun c => if sub c ci = true then F c (rho0 names ps ds) else none else none

section
variable {prog : Program} {w : World} {base : Heap} {fns excs : List Str} {mg mb : Str → Option Value} {fa ca : Nat → Addr} {Φ : Fns} {k n : Nat} {sub : Nat → Nat → Bool}

theorem refused_ok (G : Gl fns base mg mb fa) (hΦ : FnsOk prog w base Φ fa k) (hE : ErrOk prog w base Φ fa ca k) (Cl : Cls base mg excs ca sub) (hcs : ∀ c j, sub c j = true → ∃ x, excs[c]? = some x)
    {ra : Addr} {ps : List Str} {body rest hb : List Stmt} {scope : Scope} {o : Obj} {fd : FuncData} {v : Expr} {hn nm : Str} {b₀ : Stmt} {pe np hp pt : Pos} {q : Nat × Es} {ci : Nat} {F : Nat → Rho → Option Bool}
    (Fn : FnAt base ra ps body scope o fd) (hbody : body = .Try [.Expr v pe] [.ExceptHandler (some (.Name hn np)) (some nm) (b₀ :: hb) hp] [] [] pt :: rest) (hv : asCall fns n (scOf scope) v = some q) (hg : glob (scOf scope) hn = true) (hci : excs.idxOf? hn = some ci)
    (hnm : scope.names.lookup nm = some .local) (hB : HBok prog w base excs ca (scOf scope) nm (b₀ :: hb) F) : RefOk prog w base (refRun Φ sub scope.names ps q ci F) ra (k + 1) := by
  intro ds b A s vs hrun O hvs
  replace hrun := oi' hrun
  obtain ⟨hl, hrun⟩ := hrun
  replace hrun := ob hrun
  obtain ⟨ds', hds, hrun⟩ := hrun
  replace hrun := ob hrun
  obtain ⟨out, ho, hrun⟩ := hrun
  replace hrun := ob hrun
  obtain ⟨c, hc, hrun⟩ := hrun
  replace hrun := oi' hrun
  obtain ⟨hsub, hF⟩ := hrun
  have := errOf_some hc; subst this
  subst hbody
  have hvl := hvs.length
  have hsc := Fn.scope'
  have gl := hg
  simp only [Mine.glob, Bool.and_eq_true, beq_iff_eq, Bool.not_eq_true'] at gl
  obtain ⟨x₀, hx₀⟩ := hcs _ _ hsub
  refine wpAny_call (codeAny_call_cells (by have := O.room; omega) (O.stays _ _ Fn.at') Fn.data (G.lim.keeps O.stays) (Fn.code.keeps O.stays) Fn.body' (Fn.bind vs (by omega)) Fn.clo (fun x hx => ?_) (fun s₁ X => ?_) (by rw [hsc]; exact Fn.co) (by rw [hsc]; exact Fn.gen) (by rw [hsc]; exact Fn.kind))
  · have hm : x.1 ∈ ps := (List.of_mem_zip hx).1
    rw [hsc]
    rcases Fn.kinds x.1 hm with q | q
    · exact .inl q
    · exact .inr ⟨q, cells_some _ _ _ (.inl q)⟩
  · have I := inv0 Fn O hvs hl X
    obtain ⟨h1, t1, rfl⟩ := X.toInCall.same
    obtain ⟨l, L⟩ := O.fr
    have hfr := Around.frames_deeper (A := A) (env := callEnvC fd s.heap.objs.size ra) L.stack
    generalize hEnv : callEnvC fd s.heap.objs.size ra = env at I hfr
    have hk := I.kind
    have hknm : env.kindOf nm = some .local := (I.kindOf nm).trans hnm
    have hpl : (env.scope.kind == .class || (env.scope.kind == .module && env.locals != env.globals)) = false := by rw [hk]; rfl
    refine wpAny_noRaise (wpAny_execs_cons (wpAny_Try_except (wpAny_execs_cons (wpAny_Expr_any (wpAny_mono (asCall2 G hΦ hE hv I hds ho) (fun v s₂ q₂ => ?_) fun e s₂ q₂ => ?_) (by simp [interactive, I.kind]) (asCall_swaps hv _ _ _)))))
    · obtain ⟨d, e, _⟩ := q₂; cases e
    obtain ⟨c', g, a, l', e', sm, tk, Ig, rfl, hl', t, y, u⟩ := q₂
    cases e'
    rw [hfr] at hl'; cases hl'
    refine wpAny_looks_onW hfr I.frame y fun h₄ hd₄ u₄ => wpAny_landsW hd₄ fun h₅ y₅ u₅ => ?_
    have ug := (u.trans u₄).trans u₅
    have bst := Ig.base_hide hfr
    have st₅ : ∀ b o, base.get? b = some o → h₅.get? b = some o := fun b o e => y₅.1 b o (bst b o e)
    obtain ⟨tl, N, nm', q', bs, hdct, sn, sb, ab, col, dd, k0, k1, k2, k3, k5, newId, hC, TL, hsubs⟩ := Cl.obj c x₀ hx₀
    have hcn := idxOf?_get hci
    obtain ⟨tl', N', nm'', q'', bs', hdct', sn', sb', ab', col', dd', k0', k1', k2', k3', k5', newId', hK, TL', _⟩ := Cl.obj ci hn hcn
    obtain ⟨oe, hoe, hoc⟩ := y₅.there
    refine wpAny_handleBy_cons (codeAny_handlers_test ?_) (by intro q; cases q)
    refine Name_function_global I.kind ((I.kindOf hn).trans gl.1) (loadGlobal_global (mg := mg) (by rw [I.glob]; exact G.g.keeps st₅) (Cl.bound ci hn hcn) ?_) gl.2
    obtain ⟨hh, gg, dr, tk0, os⟩ := s₂
    refine excMatches_own (st₅ _ _ hC) (st₅ _ _ hK) hoe hoc (TL'.hasType PySem.F.excBase_ValueError.hasBase) ((hsubs ci hn hcn).trans hsub) ?_
    refine codeAny_handlers_suite_as (lands_againW y₅ fun h₆ y₆ u₆ => ?_)
    have ug₆ := ug.trans u₆
    obtain ⟨m, hm⟩ := Ig.ns
    have hm₆ := ug₆.ns hm
    have st₆ : ∀ b o, base.get? b = some o → h₆.get? b = some o := fun b o e => y₆.1 b o (bst b o e)
    refine wpAny_storeName_local hknm hm₆ (fun h₇ hm₇ sb₇ => ?_) hpl
    have hne : ∀ b o, s.heap.get? b = some o → b ≠ env.locals := fun b o e q => by rw [q, I.newL] at e; cases e
    have hnb : ∀ b o, base.get? b = some o → b ≠ env.locals := fun b o e => hne b o (I.bse b o e)
    obtain ⟨oe₆, hoe₆, hoc₆⟩ := y₆.there
    have hae : a ≠ env.locals := by
      rintro rfl
      have : (hideAll g (addrs (env :: l))).get? env.locals = none := y₆.2.1
      obtain ⟨_, ws, hoe', hod, hof, _⟩ := y₆.first
      obtain ⟨om, es, ep, hom, hdm, _⟩ := hm₆
      rw [hoe'] at hom; cases hom
      rw [hof] at hdm; cases hdm
    have X₇ : HCx base ca (scOf scope) env (rho0 scope.names ps ds) nm a c h₇ := by
      refine ⟨I.names, I.kind, I.glob, I.blt, fun b o e => sb₇.extBut b o (hnb b o e) (st₆ b o e), .loc _ hknm hm₇ (if_pos rfl), ⟨oe₆, sb₇.extBut a oe₆ hae hoe₆, hoc₆⟩, fun x i d q1 q2 q3 q4 q5 => ?_⟩
      obtain ⟨α, a1, _, _⟩ := Ig.own
      obtain ⟨v, p, lv⟩ := a1 x i (.arg d) (by rw [q1]; rfl) q3 q4
      refine ⟨v, ?_, (show V s.heap v d from lv).atom q5⟩
      cases p with
      | loc m' e1 e2 e3 =>
        have := ns_fun e2 hm; subst this
        exact .loc _ e1 hm₇ (by rw [if_neg q2]; exact e3)
      | cell c e1 e2 e3 => rw [(I.kindOf x).trans q1] at e1; cases e1
    refine wpAny_mono (hB env _ a c x₀ _ ⟨h₇, gg, dr, tk0 + 1, os⟩ b X₇ hx₀ (by have := O.units; show A.units + 3 + 8 < cLine; omega) hF) (fun fl s₈ q₈ => ?_) fun _ _ x => x.elim
    obtain ⟨rfl, h₈, tk₈, rfl, K8⟩ := q₈
    refine wpAny_nameGoes_keeps hknm (hm₇.keeps K8) hpl fun h₉ v₉ hm₉ sb₉ => ?_
    -- what has become of the caller's objects
    have up : ∀ b o, h₆.get? b = some o → b ≠ env.locals → h₉.get? b = some o := fun b o e hb => sb₉.extBut b o hb (K8 b o (sb₇.extBut b o hb e))
    refine ⟨rfl, ((Same.mk' s h1 t1).trans sm).trans ⟨h₉, tk₈ + 1, rfl⟩, l, L.stack, fun b o e => ?_, fun b o e hf => ?_, ?_⟩
    · have e0 := of_hideAll _ e
      exact up b o (y₆.1 b o (hide_stays I.frame I.newL Ig.keep b o e)) (hne b o e0)
    · obtain ⟨sl, hsl⟩ := ug₆ b o (Ig.keep b o e) hf
      exact ⟨sl, up b _ hsl (hne b o e)⟩
    · have hF₆ := funFrames_base bst y₆.2.2.1
      refine funFrames_any (fun b o e hd => ?_) hF₆.2.2
      by_cases hb : b = env.locals
      · subst hb
        obtain ⟨om, es, ep, hom, hdm, _⟩ := hm₉
        exact ⟨om, hom, fun vs q => by rw [hdm] at q; cases q⟩
      · exact ⟨o, up b o e hb, hd⟩
end
end Mine

namespace Mine
open PySem PySem.W PySem.Calls PyProof.Rows PySem.SeqAt

/-! the outermost def's text -/
noncomputable def tryOf : Stmt → Option (List Stmt × List ExceptHandler)
  | .Try b h o f _ => if o.isEmpty = true ∧ f.isEmpty = true then some (b, h) else none
  | _ => none
theorem tryOf_some {st : Stmt} {q : List Stmt × List ExceptHandler} (h : tryOf st = some q) : ∃ p, st = .Try q.1 q.2 [] [] p := by
  cases st <;> first | exact nns h | exact nnb h | skip
  rename_i b hh o f p
  obtain ⟨⟨h1, h2⟩, rfl⟩ := oi (show (if o.isEmpty = true ∧ f.isEmpty = true then some (b, hh) else none) = some q from h)
  cases o with
  | cons => cases h1
  | nil =>
    cases f with
    | cons => cases h2
    | nil => exact ⟨p, rfl⟩
noncomputable def retOf : Stmt → Option Expr
  | .Return e _ => e
  | _ => none
theorem retOf_some {st : Stmt} {e : Expr} (h : retOf st = some e) : ∃ p, st = .Return (some e) p := by
  cases st <;> first | exact nns h | exact nnb h | skip
  rename_i e' p
  have h : e' = some e := h
  subst h
  exact ⟨p, rfl⟩
noncomputable def ifOf : Stmt → Option (Expr × List Stmt)
  | .If t a b _ => if b.isEmpty = true then some (t, a) else none
  | _ => none
theorem ifOf_some {st : Stmt} {q : Expr × List Stmt} (h : ifOf st = some q) : ∃ p, st = .If q.1 q.2 [] p := by
  cases st <;> first | exact nns h | exact nnb h | skip
  rename_i t a b p
  obtain ⟨h1, rfl⟩ := oi (show (if b.isEmpty = true then some (t, a) else none) = some q from h)
  cases b with
  | cons => cases h1
  | nil => exact ⟨p, rfl⟩
noncomputable def isAnd : BoolOp → Bool
  | .And => true
  | .Or => false
noncomputable def andOf : Expr → Option (Expr × Expr)
  | .BoolOp op vs _ => if isAnd op = true then two vs else none
  | _ => none
theorem andOf_some {e : Expr} {q : Expr × Expr} (h : andOf e = some q) : ∃ p, e = .BoolOp .And [q.1, q.2] p := by
  cases e <;> first | exact nns h | exact nnb h | skip
  rename_i op vs p
  obtain ⟨h1, h2⟩ := oi' (show (if isAnd op = true then two vs else none) = some q from h)
  cases op with
  | Or => cases h1
  | And => rw [two_some h2]; exact ⟨p, rfl⟩

noncomputable def refCall (fns : List Str) (n : Nat) (sc : Sc) (rf : Str) (v : Expr) : Option Es :=
  (callOf v).bind fun c => if nameIs rf c.1 = true ∧ glob sc rf = true ∧ c.2.1.isEmpty = false then cEs (cE fns n sc) c.2.1 else none
theorem refCall_some {fns : List Str} {n : Nat} {sc : Sc} {rf : Str} {v : Expr} {es : Es} (h : refCall fns n sc rf v = some es) : ∃ p a r pos, v = .Call (.Name rf p) (a :: r) [] pos ∧ glob sc rf = true ∧ cEs (cE fns n sc) (a :: r) = some es := by
  replace h := ob h
  obtain ⟨⟨fn, args, pos⟩, hc, h1⟩ := h
  replace h1 := oi' h1
  obtain ⟨⟨h2, h3, h4⟩, h5⟩ := h1
  have := callOf_some hc; subst this
  obtain ⟨p, hp⟩ := nameIs_some h2
  have hp : fn = _ := hp
  subst hp
  cases args with
  | nil => cases h4
  | cons a r => exact ⟨p, a, r, pos, rfl, h3, h5⟩

noncomputable def cTry (fns excs : List Str) (n : Nat) (sc : Sc) (st : Stmt) : Option U :=
  (tryOf st).bind fun p => (one p.1).bind fun a => (asgOf a).bind fun q => (one q.1).bind fun t => (nameOf t).bind fun x => (idxVar sc x).bind fun i => (asCall fns n sc q.2).bind fun c => (hdsOf excs sc p.2).bind fun hs => if p.2.isEmpty = false then some (.tr i c.1 c.2 hs) else none
noncomputable def cRt (fns : List Str) (n : Nat) (sc : Sc) (rf : Str) (st : Stmt) : Option U := (retOf st).bind fun e => (refCall fns n sc rf e).map .rt
noncomputable def cIr (fns : List Str) (n : Nat) (sc : Sc) (rf : Str) (st : Stmt) : Option U :=
  (ifOf st).bind fun p => (one p.2).bind fun a => (retOf a).bind fun e => (andOf e).bind fun q => (cE fns n sc p.1).bind fun tc => (cE fns n sc q.1).bind fun gc => (refCall fns n sc rf q.2).map fun es => .ir tc gc es
noncomputable def cU (fns excs : List Str) (n : Nat) (sc : Sc) (rf : Str) (st : Stmt) : Option U := match cTry fns excs n sc st with
  | some u => some u
  | none => match cIr fns n sc rf st with
    | some u => some u
    | none => match cRt fns n sc rf st with
      | some u => some u
      | none => (cS fns excs n sc st).map .st
noncomputable def cUs (fns excs : List Str) (n : Nat) (sc : Sc) (rf : Str) : List Stmt → Option (List U)
  | [] => some []
  | s :: r => (cU fns excs n sc rf s).bind fun a => (cUs fns excs n sc rf r).map fun b => a :: b

section
variable {prog : Program} {w : World} {base : Heap} {fns excs : List Str} {mg mb : Str → Option Value} {fa ca : Nat → Addr} {Φ : Fns} {k n : Nat} {sc : Sc} {RZ : RZt} {Ψ : List D → Option Bool} {sub : Nat → Nat → Bool} {ra : Addr}

theorem us_sound (G : Gl fns base mg mb fa) (hΦ : FnsOk prog w base Φ fa k) (ER : Errs prog w base Φ fa k excs RZ) (hE : ErrOk prog w base Φ fa ca k) (Cl : Cls base mg excs ca sub) (hcs : ∀ c j, sub c j = true → ∃ x, excs[c]? = some x)
    (hR : RefOk prog w base Ψ ra k) {rf : Str} {o : Obj} {fd : FuncData} (hm : mg rf = some (.ref ra)) (ho : base.get? ra = some o) (hd : o.data = .func fd) : ∀ {sts : List Stmt} {us : List U}, cUs fns excs n sc rf sts = some us → XT prog w base Φ Ψ sub k sc sts us
  | [], us, h => by cases h; exact XT.nil
  | st :: r, us, h => by
    obtain ⟨u, hu, h1⟩ := ob h
    replace h1 := om h1
    obtain ⟨us', hus, rfl⟩ := h1
    have ih := us_sound G hΦ ER hE Cl hcs hR hm ho hd hus
    unfold cU at hu
    cases e1 : cTry fns excs n sc st with
    | some u' =>
      rw [e1] at hu; cases hu
      obtain ⟨⟨b, hsE⟩, e2, h2⟩ := ob e1
      replace h2 := ob h2
      obtain ⟨a, e3, h3⟩ := h2
      obtain ⟨⟨q1, v⟩, e4, h4⟩ := ob h3
      obtain ⟨t, e5, h5⟩ := ob h4
      obtain ⟨x, e6, h6⟩ := ob h5
      obtain ⟨i, e7, h7⟩ := ob h6
      obtain ⟨c, e8, h8⟩ := ob h7
      obtain ⟨hs, e9, h9⟩ := ob h8
      replace h9 := oi h9
      obtain ⟨hne, rfl⟩ := h9
      obtain ⟨p, rfl⟩ := tryOf_some e2
      have e3 : one b = some a := e3
      have := one_some e3; subst this
      obtain ⟨pa, rfl⟩ := asgOf_some e4
      have e5 : one q1 = some t := e5
      have := one_some e5; subst this
      obtain ⟨px, rfl⟩ := nameOf_some e6
      exact XT.tr G hΦ hE Cl hcs e7 e8 e9 (fun q => by have q : hsE = [] := q; rw [q] at hne; cases hne) ih
    | none =>
      rw [e1] at hu
      dsimp only at hu
      cases e2 : cIr fns n sc rf st with
      | some u' =>
        rw [e2] at hu; cases hu
        obtain ⟨⟨t, a⟩, e3, h3⟩ := ob e2
        replace h3 := ob h3
        obtain ⟨s, e4, h4⟩ := h3
        obtain ⟨e, e5, h5⟩ := ob h4
        replace h5 := ob h5
        obtain ⟨⟨g, v⟩, e6, h6⟩ := h5
        replace h6 := ob h6
        obtain ⟨tc, e7, h7⟩ := h6
        replace h7 := ob h7
        obtain ⟨gc, e8, h8⟩ := h7
        replace h8 := om h8
        obtain ⟨es, e9, rfl⟩ := h8
        obtain ⟨p, rfl⟩ := ifOf_some e3
        have e4 : one a = some s := e4
        have := one_some e4; subst this
        obtain ⟨pr, rfl⟩ := retOf_some e5
        obtain ⟨pb, rfl⟩ := andOf_some e6
        obtain ⟨pp, a', r', pos, hv, hg, hes⟩ := refCall_some e9
        have hv : v = _ := hv
        subst hv
        exact XT.ir G hΦ hR hm ho hd hg e7 e8 hes ih
      | none =>
        rw [e2] at hu
        dsimp only at hu
        cases e3 : cRt fns n sc rf st with
        | some u' =>
          rw [e3] at hu; cases hu
          obtain ⟨e, e4, h4⟩ := ob e3
          replace h4 := om h4
          obtain ⟨es, e5, rfl⟩ := h4
          obtain ⟨pr, rfl⟩ := retOf_some e4
          obtain ⟨pp, a', r', pos, rfl, hg, hes⟩ := refCall_some e5
          exact XT.rt G hΦ hR hm ho hd hg hes
        | none =>
          rw [e3] at hu
          replace hu := om hu
          obtain ⟨a, ha, rfl⟩ := hu
          exact XT.st (x_sound G hΦ ER st a ha) ih
end

/-! what the heads tell of the classes -/
noncomputable def refOf : Value → Option Addr
  | .ref a => some a
  | _ => none
noncomputable def mroOfD : Data → Option (List Value)
  | .cls cd => some cd.mro
  | _ => none
noncomputable def clsAt (h : Heap) (x y : Str) : Option Bool :=
  ((h.nsMap mainGlobals x).bind refOf).bind fun a => ((h.nsMap mainGlobals y).bind refOf).bind fun b => (h.get? a).bind fun o => (mroOfD o.data).map fun l => l.contains (.ref b)
theorem nsMap_keep {h h' : Heap} (e : ∀ b o, h.get? b = some o → h'.get? b = some o) {a : Addr} {x : Str} {v : Value} (q : h.nsMap a x = some v) : h'.nsMap a x = some v := by
  unfold Heap.nsMap at q ⊢
  cases ho : h.get? a with
  | none => rw [ho] at q; cases q
  | some o => rw [ho] at q; rw [e a o ho]; exact q
theorem clsAt_keep {h h' : Heap} (e : ∀ b o, h.get? b = some o → h'.get? b = some o) {x y : Str} {b : Bool} (q : clsAt h x y = some b) : clsAt h' x y = some b := by
  replace q := ob q
  obtain ⟨a, ha, q⟩ := q
  replace q := ob q
  obtain ⟨c, hc, q⟩ := q
  replace q := ob q
  obtain ⟨o, ho, q⟩ := q
  replace ha := ob ha
  obtain ⟨v, hv, ha⟩ := ha
  replace hc := ob hc
  obtain ⟨v', hv', hc⟩ := hc
  unfold clsAt
  rw [nsMap_keep e hv, Option.bind_some, ha, Option.bind_some, nsMap_keep e hv', Option.bind_some, hc, Option.bind_some, e _ _ ho]
  exact q
noncomputable def clsTab (names : List Str) (h : Heap) : List (List (Option Bool)) := names.map fun x => names.map fun y => clsAt h x y
noncomputable def subTab (m : Nat) (sub : Nat → Nat → Bool) : List (List (Option Bool)) := (List.range m).map fun i => (List.range m).map fun j => some (sub i j)
noncomputable def excHook (names : List Str) (sub : Nat → Nat → Bool) : Hook where
  α := List (List (Option Bool))
  obs := fun s => clsTab names s.heap
  val := fun _ => subTab names.length sub
  says := fun _ h => ∀ i j x y, names[i]? = some x → names[j]? = some y → clsAt h x y = some (sub i j)
  of := fun w s e i j x y hx hy => by
    have hi := (List.getElem?_eq_some_iff.mp hx).1
    have hj := (List.getElem?_eq_some_iff.mp hy).1
    have e1 := congrArg (fun l : List (List (Option Bool)) => (l[i]?).bind fun r => r[j]?) e
    simp only [clsTab, subTab, List.getElem?_map, hx, hy, Option.map_some, Option.bind_some, List.getElem?_range hi, List.getElem?_range hj] at e1
    exact Option.some.inj e1
  keeps := fun w h h' q e i j x y hx hy => clsAt_keep e (q i j x y hx hy)

section
variable {q : Program} {loose : List Str} {mean : ExcName → Option Value} {mg mb : Str → Option Value} {base : Heap} {fns excs : List Str} {N : Nat} {P : Prg} {sub : Nat → Nat → Bool}

theorem ns_nsMap {a : Addr} {m : Str → Option Value} {h : Heap} (x : h.Ns a m) (y : Str) : h.nsMap a y = m y := by
  obtain ⟨o, es, ep, ho, hd, _, hf⟩ := x
  unfold Heap.nsMap
  rw [ho]; dsimp only; rw [hd]; exact hf y

theorem cls_of (T : Top q loose mean mg mb base) (hs : excs.all (fun x => decide (specOf q x = some ("ValueError.__new__", bmV))) = true) {w : World} (Y : (excHook excs sub).says w base) : Cls base mg excs (faOf excs mg) sub := by
  have own : ∀ i x, excs[i]? = some x → OwnClsQ x (faOf excs mg i) bmV "ValueError.__new__" mg base := fun i x hx => by
    obtain ⟨C, O, _⟩ := T.ownAt (of_decide_eq_true (List.all_eq_true.mp hs x (List.mem_of_getElem? hx)))
    rw [faOf_eq hx O.bound]; exact O
  refine ⟨fun i x hx => (own i x hx).bound, fun i x hx => ?_⟩
  obtain ⟨tl, N, nm, q', bs, hdct, sn, sb, ab, col, dd, k0, k1, k2, k3, k5, mN, hC, hN, hni, TL⟩ := (own i x hx).own.obj
  refine ⟨tl, N, nm, q', bs, hdct, sn, sb, ab, col, dd, k0, k1, k2, k3, k5, _, hC, TL, fun j y hy => ?_⟩
  have e := Y i j x y hx hy
  unfold clsAt at e
  rw [ns_nsMap T.g x, ns_nsMap T.g y, (own i x hx).bound, (own j y hy).bound, Option.bind_some, Option.bind_some] at e
  have e : (base.get? (faOf excs mg i)).bind (fun o => (mroOfD o.data).map fun l => l.contains (.ref (faOf excs mg j))) = some (sub i j) := e
  rw [hC] at e
  exact Option.some.inj e

theorem fnAt_rec (T : Top q loose mean mg mb base) {n : Str} {d : DefRec} (hd : (recsOf q).find? (fun d => d.name == n) = some d) (hc : fnCheck d = true) : ∃ (a : Addr) (o : Obj) (fd : FuncData), mg n = some (.ref a) ∧ FnAt base a (d.params.args.map (·.arg)) d.body d.scope o fd := by
  have hmem := List.mem_of_find?_eq_some hd
  have hname : d.name = n := by
    have h4 := List.find?_some hd
    exact beq_iff_eq.mp h4
  obtain ⟨a, o, pm, code, doc, e1, e2, e3, e4⟩ := T.fn d hmem
  refine ⟨a, o, docDef d.name d.params d.body d.scope pm code doc, hname ▸ e1, ?_⟩
  simp only [fnCheck, Bool.and_eq_true, decide_eq_true_eq, Bool.not_eq_true', beq_iff_eq, List.isEmpty_iff, Option.isNone_iff_eq_none, List.all_eq_true, Bool.or_eq_true] at hc
  obtain ⟨⟨⟨⟨⟨⟨⟨⟨c1, c2⟩, c3⟩, c4⟩, c5⟩, c6⟩, c7⟩, c8⟩, c9⟩ := hc
  exact ⟨e2, e3, e4, rfl, rfl, rfl, rfl, rfl, fun vals hl => binds_plain c1 c2 c3 c4 rfl (by simpa [docDef] using hl) c8, c5, c6, c7, c8, c9⟩

theorem FnsOk.le {prog : Program} {w : World} {Φ : Fns} {fa : Nat → Addr} {j k : Nat} (h : FnsOk prog w base Φ fa j) (e : j ≤ k) : FnsOk prog w base Φ fa k := fun f ds d A s vs E h1 O h2 => h f ds d A s vs E h1 (O.le e) h2
theorem ErrOk.le {prog : Program} {w : World} {Φ : Fns} {fa ca : Nat → Addr} {j k : Nat} (h : ErrOk prog w base Φ fa ca j) (e : j ≤ k) : ErrOk prog w base Φ fa ca k := fun f ds c A s vs h1 O h2 => h f ds c A s vs h1 (O.le e) h2

/-- class 0 is the base of all the others -/
noncomputable def subE (m : Nat) : Nat → Nat → Bool := fun c j => decide (c < m) && (j == 0 || c == j)
theorem subE_in {c j : Nat} (h : subE excs.length c j = true) : ∃ x, excs[c]? = some x := by
  have h := of_decide_eq_true (Bool.and_eq_true _ _ ▸ h).1
  exact ⟨_, List.getElem?_eq_getElem h⟩

/-! the def that deals with every exception: its suite is return isinstance(e, ValueError) -/
noncomputable def exprOf : Stmt → Option Expr
  | .Expr v _ => some v
  | _ => none
theorem exprOf_some {st : Stmt} {v : Expr} (h : exprOf st = some v) : ∃ p, st = .Expr v p := by
  cases st <;> first | exact nns h | exact nnb h | skip
  cases h; exact ⟨_, rfl⟩
noncomputable def hdlOf : ExceptHandler → Option (Str × Str × List Stmt)
  | .ExceptHandler ty nm body _ => ty.bind fun t => (nameOf t).bind fun c => nm.map fun n => (c, n, body)
theorem hdlOf_some {h : ExceptHandler} {q : Str × Str × List Stmt} (e : hdlOf h = some q) : ∃ np hp, h = .ExceptHandler (some (.Name q.1 np)) (some q.2.1) q.2.2 hp := by
  obtain ⟨ty, nm, body, hp⟩ := h
  replace e := ob e
  obtain ⟨t, ht, e⟩ := e
  replace e := ob e
  obtain ⟨c, hc, e⟩ := e
  replace e := om e
  obtain ⟨n, hn, rfl⟩ := e
  obtain ⟨np, rfl⟩ := nameOf_some hc
  subst ht hn
  exact ⟨np, hp, rfl⟩
noncomputable def isVof (nm : Str) (v : Expr) : Bool := ((callOf v).bind fun c => if nameIs "isinstance" c.1 = true then (two c.2.1).bind fun p => if nameIs nm p.1 = true ∧ nameIs "ValueError" p.2 = true then some () else none else none).isSome
noncomputable def isVsuite (nm : Str) (l : List Stmt) : Bool := (((one l).bind retOf).map (isVof nm)).getD false
theorem isVsuite_some {nm : Str} {l : List Stmt} (h : isVsuite nm l = true) : ∃ p1 p2 p3 p4 p5, l = [.Return (some (.Call (.Name "isinstance" p1) [.Name nm p2, .Name "ValueError" p3] [] p4)) p5] := by
  unfold isVsuite at h
  cases e1 : (one l).bind retOf with
  | none => rw [e1] at h; cases h
  | some v =>
    rw [e1] at h
    replace e1 := ob e1
    obtain ⟨st, e2, e3⟩ := e1
    have h : (((callOf v).bind fun c => if nameIs "isinstance" c.1 = true then (two c.2.1).bind fun p => if nameIs nm p.1 = true ∧ nameIs "ValueError" p.2 = true then some () else none else none)).isSome = true := h
    obtain ⟨_, h⟩ := Option.isSome_iff_exists.mp h
    replace h := ob h
    obtain ⟨⟨fn, args, pos⟩, e4, h1⟩ := h
    replace h1 := oi' h1
    obtain ⟨e5, h2⟩ := h1
    replace h2 := ob h2
    obtain ⟨⟨a, b⟩, e6, h3⟩ := h2
    replace h3 := oi h3
    obtain ⟨⟨e7, e8⟩, _⟩ := h3
    have := one_some e2; subst this
    obtain ⟨p5, rfl⟩ := retOf_some e3
    have := callOf_some e4; subst this
    obtain ⟨p1, e5⟩ := nameIs_some e5
    obtain ⟨p2, e7⟩ := nameIs_some e7
    obtain ⟨p3, e8⟩ := nameIs_some e8
    have e5 : fn = _ := e5
    have e7 : a = _ := e7
    have e8 : b = _ := e8
    have e6 : two args = some (a, b) := e6
    have := two_some e6
    subst this e5 e7 e8
    exact ⟨p1, p2, p3, pos, p5, rfl⟩
noncomputable def headOf {α : Type} : List α → Option α
  | [] => none
  | a :: _ => some a
noncomputable def refParts (fns excs : List Str) (n : Nat) (sc : Sc) (body : List Stmt) : Option ((Nat × Es) × Nat) :=
  (headOf body).bind fun st => (tryOf st).bind fun p => (one p.1).bind fun a => (exprOf a).bind fun v => (asCall fns n sc v).bind fun q => (one p.2).bind fun h => (hdlOf h).bind fun t =>
    if glob sc t.1 = true ∧ sc.kd.lookup t.2.1 = some .local ∧ glob sc "isinstance" = true ∧ glob sc "ValueError" = true ∧ (t.2.1 == ("__debug__" : Str)) = false ∧ isVsuite t.2.1 t.2.2 = true then (excs.idxOf? t.1).map fun ci => (q, ci) else none

theorem ref_ok {prog : Program} {w : World} {Φ : Fns} {fa ca : Nat → Addr} {k n : Nat} (G : Gl fns base mg mb fa) (hΦ : FnsOk prog w base Φ fa k) (hE : ErrOk prog w base Φ fa ca k) (Cl : Cls base mg excs ca sub) (hcs : ∀ c j, sub c j = true → ∃ x, excs[c]? = some x)
    {ra : Addr} {ps : List Str} {body : List Stmt} {scope : Scope} {o : Obj} {fd : FuncData} {q : Nat × Es} {ci : Nat} (Fn : FnAt base ra ps body scope o fd) (h : refParts fns excs n (scOf scope) body = some (q, ci)) :
    RefOk prog w base (refRun Φ sub scope.names ps q ci fun _ _ => some true) ra (k + 1) := by
  obtain ⟨st, e1, h1⟩ := ob h
  replace h1 := ob h1
  obtain ⟨⟨b, hs⟩, e2, h2⟩ := h1
  replace h2 := ob h2
  obtain ⟨a, e3, h3⟩ := h2
  replace h3 := ob h3
  obtain ⟨v, e4, h4⟩ := h3
  replace h4 := ob h4
  obtain ⟨q', e5, h5⟩ := h4
  replace h5 := ob h5
  obtain ⟨hd, e6, h6⟩ := h5
  replace h6 := ob h6
  obtain ⟨⟨cn, nm, suite⟩, e7, h7⟩ := h6
  replace h7 := oi' h7
  obtain ⟨⟨c1, c2, c3, c4, c5, c6⟩, h8⟩ := h7
  replace h8 := om h8
  obtain ⟨ci', e8, h9⟩ := h8
  cases h9
  cases body with
  | nil => cases e1
  | cons st' rest =>
  cases e1
  obtain ⟨pt, rfl⟩ := tryOf_some e2
  have e3 : one b = some a := e3
  have e6 : one hs = some hd := e6
  have := one_some e3; subst this
  have := one_some e6; subst this
  obtain ⟨pe, rfl⟩ := exprOf_some e4
  obtain ⟨np, hp, rfl⟩ := hdlOf_some e7
  have c6 : isVsuite nm suite = true := c6
  obtain ⟨p1, p2, p3, p4, p5, hst⟩ := isVsuite_some c6
  subst hst
  exact refused_ok G hΦ hE Cl hcs Fn rfl e5 c1 e8 c2 (hb_isV G Cl c3 c4 c5)

theorem law_runsR {prog : Program} {w : World} {s₁ : Shared} {a fa ra : Addr} {n rf : Str} {xs : List Int} {E : Value → Shared → Prop} {dl : DefRec} {us : List U} {Ψ : List D → Option Bool} {ro : Obj} {rfd : FuncData}
    (T : Top q loose mean mg mb s₁.heap) (Cl : Cls s₁.heap mg excs (faOf excs mg) (subE excs.length)) (hp : prepAll fns excs N (recsOf q) fns = some P) (hb : blNames.all (freeIn q loose) = true) (hs : excs.all (fun x => decide (specOf q x = some ("ValueError.__new__", bmV))) = true)
    (hdl : (recsOf q).find? (fun d => d.name == n) = some dl) (hcl : fnCheck dl = true) (hus : cUs fns excs N (scOf dl.scope) rf dl.body = some us) (hR : RefOk prog w s₁.heap Ψ ra 18) (hra : mg rf = some (.ref ra)) (hro : s₁.heap.get? ra = some ro) (hrd : ro.data = .func rfd)
    (hmg : mg n = some (.ref fa)) (W : Well w.params s₁.heap (.ref a) (ofPy (.list (xs.map .int)))) (hl : xs.length ≤ 63) (hps : (dl.params.args.map (·.arg)).length = 1)
    (hrun : exU (run true P 17) Ψ (subE excs.length) (rho0 dl.scope.names (dl.params.args.map (·.arg)) [.lst (xs.map .int)]) us = some (.ret (.bool true))) :
    wpAny (model prog w) callerA (call (.ref fa) [.ref a]) (fun v s' => v = .bool true ∧ Keeps s₁ s') E s₁ := by
  obtain ⟨r1, r2⟩ := run_ok2 (prog := prog) (w := w) T hp hb hs 17
  have G := gl_of T hp hb
  obtain ⟨la, lo, lfd, hla, Fl⟩ := fnAt_rec T hdl hcl
  rw [hmg] at hla; cases hla
  have r1' := r1.le (k := 18) (by decide)
  have r2' := r2.le (k := 18) (by decide)
  have hX := us_sound G r1' (errs_of T hs r2') r2' Cl (fun c j h => subE_in h) hR hra hro hrd hus
  have O : Ok s₁.heap 19 callerA s₁.heap := (ok_caller s₁.heap).le (by decide)
  have hvs : Vs s₁.heap [.ref a] [.lst (xs.map .int)] := .cons (script_V W hl) .nil
  have hsc := Fl.scope'
  refine wpAny_call (codeAny_call_cells (by have := O.room; omega) Fl.at' Fl.data T.nolimit Fl.code Fl.body' (Fl.bind [.ref a] hps.symm) Fl.clo (fun x hx => ?_) (fun s₂ X => ?_) (by rw [hsc]; exact Fl.co) (by rw [hsc]; exact Fl.gen) (by rw [hsc]; exact Fl.kind))
  · have hm : x.1 ∈ dl.params.args.map (·.arg) := (List.of_mem_zip hx).1
    rw [hsc]
    rcases Fl.kinds x.1 hm with q | q
    · exact .inl q
    · exact .inr ⟨q, cells_some _ _ _ (.inl q)⟩
  · have I := inv0 Fl O hvs hps.symm X
    obtain ⟨h1, t1, rfl⟩ := X.toInCall.same
    refine wpAny_noRaise (hX s₁.heap _ [] _ _ _ _ _ (Around.frames_deeper (A := callerA) rfl) I hrun (fun c e => by cases e) fun fl s' f => ?_)
    obtain ⟨f1, f2, v, ρ', rfl, hV, I'⟩ := f
    have sm : Same s₁ s' := Same.trans (Same.mk' s₁ h1 t1) f1
    obtain ⟨h2, t2, rfl⟩ := sm
    have := hV.bool_inv; subst this
    exact ⟨rfl, h2, t2, rfl, I'.keep⟩
theorem law_runs2 {prog : Program} {w : World} {s₁ : Shared} {a fa : Addr} {n rf : Str} {xs : List Int} {E : Value → Shared → Prop} {dl dr : DefRec} {us : List U} {qr : Nat × Es} {ci : Nat}
    (T : Top q loose mean mg mb s₁.heap) (Y : (excHook excs (subE excs.length)).says w s₁.heap) (hp : prepAll fns excs N (recsOf q) fns = some P) (hb : blNames.all (freeIn q loose) = true) (hs : excs.all (fun x => decide (specOf q x = some ("ValueError.__new__", bmV))) = true)
    (hdl : (recsOf q).find? (fun d => d.name == n) = some dl) (hcl : fnCheck dl = true) (hdr : (recsOf q).find? (fun d => d.name == rf) = some dr) (hcr : fnCheck dr = true) (hus : cUs fns excs N (scOf dl.scope) rf dl.body = some us) (hrp : refParts fns excs N (scOf dr.scope) dr.body = some (qr, ci))
    (hmg : mg n = some (.ref fa)) (W : Well w.params s₁.heap (.ref a) (ofPy (.list (xs.map .int)))) (hl : xs.length ≤ 63) (hps : (dl.params.args.map (·.arg)).length = 1)
    (hrun : exU (run true P 17) (refRun (run true P 17) (subE excs.length) dr.scope.names (dr.params.args.map (·.arg)) qr ci fun _ _ => some true) (subE excs.length) (rho0 dl.scope.names (dl.params.args.map (·.arg)) [.lst (xs.map .int)]) us = some (.ret (.bool true))) :
    wpAny (model prog w) callerA (call (.ref fa) [.ref a]) (fun v s' => v = .bool true ∧ Keeps s₁ s') E s₁ := by
  obtain ⟨r1, r2⟩ := run_ok2 (prog := prog) (w := w) T hp hb hs 17
  have Cl := cls_of T hs Y
  obtain ⟨ra, ro, rfd, hra, Fr⟩ := fnAt_rec T hdr hcr
  exact law_runsR T Cl hp hb hs hdl hcl hus (ref_ok (gl_of T hp hb) r1 r2 Cl (fun c j h => subE_in h) Fr hrp) hra Fr.at' Fr.data hmg W hl hps hrun
end
end Mine

namespace Mine
open PySem

/-! evaluation, in a shape that simp can walk -/
noncomputable def ifB {α : Type} (o : Option D) (x y : Option α) : Option α := o.bind fun d => ifT d x y
/-- what is left to do, and is not looked into yet -/
noncomputable def K (Φ : Fns) (r : Ss) : Rho → Option R := fun ρ => exs Φ ρ r
noncomputable def ifS (o : Option D) (Φ : Fns) (ρ : Rho) (a b : Ss) : Option R := o.bind fun d => ifT d (exs Φ ρ a) (exs Φ ρ b)
noncomputable def andS (o : Option D) (Φ : Fns) (ρ : Rho) (b : E) : Option D := ifB o ((ev Φ ρ b).bind fun y => (isTrueD y).map .bool) (some (.bool false))
noncomputable def orS (o : Option D) (Φ : Fns) (ρ : Rho) (b : E) : Option D := ifB o (some (.bool true)) ((ev Φ ρ b).bind fun y => (isTrueD y).map .bool)
noncomputable def seqR (o : Option R) (f : Rho → Option R) : Option R := o.bind (thenR f)
noncomputable def outR (keep : Bool) (o : Option R) : Option Out := o.bind (retR keep)
noncomputable def asgR (ρ : Rho) (x : Nat) (o : Option D) : Option R := o.bind fun d => putD ρ x d
noncomputable def boolR (o : Option D) : Option D := o.bind fun y => (isTrueD y).map .bool
noncomputable def callR (ρ : Rho) (t : Tg) (o : Option Out) : Option R := o.bind fun x => outT ρ t x
noncomputable def okR (o : Option Out) : Option D := o.bind okOf

section
variable {Φ : Fns} {ρ : Rho} {keep : Bool}
@[simp] theorem ex_iff (c : E) (a b : Ss) : ex Φ ρ (.iff c a b) = ifS (ev Φ ρ c) Φ ρ a b := (rfl)
@[simp] theorem exs_cons (s : S) (r : Ss) : exs Φ ρ (.cons s r) = seqR (ex Φ ρ s) (K Φ r) := (rfl)
@[simp] theorem exs_nil : exs Φ ρ .nil = some (.next ρ) := (rfl)
@[simp] theorem ex_asg (x : Nat) (e : E) : ex Φ ρ (.asg x e) = asgR ρ x (ev Φ ρ e) := (rfl)
@[simp] theorem ex_ret (e : E) : ex Φ ρ (.ret e) = (ev Φ ρ e).map .ret := (rfl)
@[simp] theorem ex_callS (t : Tg) (f : Nat) (es : Es) : ex Φ ρ (.callS t f es) = (evs Φ ρ es).bind fun ds => callR ρ t (Φ f ds) := (rfl)
theorem fnRun_eq {f : Fn} {ds : List D} (h : ds.length = f.ps.length) : fnRun keep Φ f ds = outR keep (exs Φ (rho0 f.names f.ps ds) f.body) := if_pos h
@[simp] theorem ev_and (a b : E) : ev Φ ρ (.and a b) = andS (ev Φ ρ a) Φ ρ b := (rfl)
@[simp] theorem ev_or (a b : E) : ev Φ ρ (.or a b) = orS (ev Φ ρ a) Φ ρ b := (rfl)
@[simp] theorem ev_call (f : Nat) (es : Es) : ev Φ ρ (.call f es) = (evs Φ ρ es).bind fun ds => okR (Φ f ds) := (rfl)
@[simp] theorem ifB_bool {α : Type} (p : Bool) (x y : Option α) : ifB (some (.bool p)) x y = if p = true then x else y := by cases p <;> rfl
@[simp] theorem ifS_bool (p : Bool) (a b : Ss) : ifS (some (.bool p)) Φ ρ a b = if p = true then exs Φ ρ a else exs Φ ρ b := (rfl)
@[simp] theorem andS_bool (p : Bool) (b : E) : andS (some (.bool p)) Φ ρ b = if p = true then boolR (ev Φ ρ b) else some (.bool false) := (rfl)
@[simp] theorem orS_bool (p : Bool) (b : E) : orS (some (.bool p)) Φ ρ b = if p = true then some (.bool true) else boolR (ev Φ ρ b) := (rfl)
@[simp] theorem ifS_ite (p : Prop) [Decidable p] (x y : Option D) (a b : Ss) : ifS (if p then x else y) Φ ρ a b = if p then ifS x Φ ρ a b else ifS y Φ ρ a b := by split <;> rfl
@[simp] theorem andS_ite (p : Prop) [Decidable p] (x y : Option D) (b : E) : andS (if p then x else y) Φ ρ b = if p then andS x Φ ρ b else andS y Φ ρ b := by split <;> rfl
@[simp] theorem orS_ite (p : Prop) [Decidable p] (x y : Option D) (b : E) : orS (if p then x else y) Φ ρ b = if p then orS x Φ ρ b else orS y Φ ρ b := by split <;> rfl
@[simp] theorem boolR_bool (p : Bool) : boolR (some (.bool p)) = some (.bool p) := rfl
@[simp] theorem seqR_next (ρ' : Rho) (r : Ss) : seqR (some (.next ρ')) (K Φ r) = exs Φ ρ' r := (rfl)
@[simp] theorem seqR_ret (d : D) (f : Rho → Option R) : seqR (some (.ret d)) f = some (.ret d) := (rfl)
@[simp] theorem seqR_cont (ρ' : Rho) (f : Rho → Option R) : seqR (some (.cont ρ')) f = some (.cont ρ') := (rfl)
@[simp] theorem seqR_err (c : Nat) (f : Rho → Option R) : seqR (some (.err c)) f = some (.err c) := (rfl)
@[simp] theorem outR_ret (d : D) : outR keep (some (.ret d)) = some (.ok d) := (rfl)
@[simp] theorem outR_next (ρ' : Rho) : outR keep (some (.next ρ')) = some (.ok .none) := (rfl)
@[simp] theorem outR_err (c : Nat) : outR true (some (.err c)) = some (.err c) := (rfl)
@[simp] theorem asgR_some (x : Nat) (d : D) : asgR ρ x (some d) = if d.pure = true then some (.next (ρ.set x (some (.dat d)))) else none := (rfl)
@[simp] theorem callR_ok (t : Tg) (d : D) : callR ρ t (some (.ok d)) = putT ρ d t := (rfl)
@[simp] theorem callR_err (t : Tg) (c : Nat) : callR ρ t (some (.err c)) = some (.err c) := (rfl)
@[simp] theorem okR_ok (d : D) : okR (some (.ok d)) = some d := rfl
@[simp] theorem seqR_ite (p : Prop) [Decidable p] (x y : Option R) (f : Rho → Option R) : seqR (if p then x else y) f = if p then seqR x f else seqR y f := by split <;> rfl
@[simp] theorem outR_ite (p : Prop) [Decidable p] (x y : Option R) : outR keep (if p then x else y) = if p then outR keep x else outR keep y := by split <;> rfl
@[simp] theorem boolR_ite (p : Prop) [Decidable p] (x y : Option D) : boolR (if p then x else y) = if p then boolR x else boolR y := by split <;> rfl
@[simp] theorem ifB_ite {α : Type} (p : Prop) [Decidable p] (a b : Option D) (x y : Option α) : ifB (if p then a else b) x y = if p then ifB a x y else ifB b x y := by split <;> rfl
@[simp] theorem asgR_ite (p : Prop) [Decidable p] (x : Nat) (a b : Option D) : asgR ρ x (if p then a else b) = if p then asgR ρ x a else asgR ρ x b := by split <;> rfl
@[simp] theorem map_ite {α β : Type} (p : Prop) [Decidable p] (a b : Option α) (f : α → β) : Option.map f (if p then a else b) = if p then Option.map f a else Option.map f b := by split <;> rfl
@[simp] theorem pure_int (i : Int) : D.pure (.int i) = true := rfl
@[simp] theorem eqb_int (a b : Int) : D.eqb (.int a) (.int b) = (a == b) := by simp [D.eqb]
@[simp] theorem eqb_str (a b : Str) : D.eqb (.str a) (.str b) = (a == b) := by simp [D.eqb]
@[simp] theorem eqb_bool (a b : Bool) : D.eqb (.bool a) (.bool b) = (a == b) := by simp [D.eqb]
end

theorem run_at {keep : Bool} {P : Prg} {n f : Nat} {g : Fn} {ds : List D} (h : P[f]? = some g) : run keep P (n + 1) f ds = fnRun keep (run keep P n) g ds := by
  show (P[f]?).bind _ = _
  rw [h]; rfl

/-! loops -/
theorem loop_inv {α : Type} {body : α → Rho → Option R} (J : Nat → Rho → Prop) : ∀ (ds : List α) (i : Nat) (ρ : Rho), J i ρ → (∀ j d ρ, ds[j]? = some d → J (i + j) ρ → ∃ ρ', (body d ρ = some (.next ρ') ∨ body d ρ = some (.cont ρ')) ∧ J (i + j + 1) ρ') →
    ∃ ρ', loopO body ds ρ = some (.next ρ') ∧ J (i + ds.length) ρ'
  | [], i, ρ, h, _ => ⟨ρ, rfl, h⟩
  | d :: ds, i, ρ, h, hb => by
    obtain ⟨ρ', h1, h2⟩ := hb 0 d ρ rfl h
    obtain ⟨ρ'', h3, h4⟩ := loop_inv J ds (i + 1) ρ' h2 fun j d' ρ₁ hd hj => by
      have := hb (j + 1) d' ρ₁ (by simpa using hd) (by rw [show i + (j + 1) = i + 1 + j by omega]; exact hj)
      rwa [show i + (j + 1) + 1 = i + 1 + j + 1 by omega] at this
    refine ⟨ρ'', ?_, by rw [List.length_cons, show i + (ds.length + 1) = i + 1 + ds.length by omega]; exact h4⟩
    show (body d ρ).bind _ = _
    rcases h1 with h1 | h1 <;> rw [h1] <;> exact h3

/-- a loop that leaves at the first item of a kind -/
theorem loop_find {α : Type} {body : α → Rho → Option R} (J : Rho → Prop) (c : α → Bool) (d₀ : D) : ∀ (ds : List α) (ρ : Rho), J ρ → (∀ d ∈ ds, ∀ ρ, J ρ → (c d = true → body d ρ = some (.ret d₀)) ∧ (c d = false → ∃ ρ', body d ρ = some (.next ρ') ∧ J ρ')) →
    (ds.any c = true → loopO body ds ρ = some (.ret d₀)) ∧ (ds.any c = false → ∃ ρ', loopO body ds ρ = some (.next ρ') ∧ J ρ')
  | [], ρ, h, _ => ⟨fun q => by simp at q, fun _ => ⟨ρ, rfl, h⟩⟩
  | d :: ds, ρ, h, hb => by
    obtain ⟨h1, h2⟩ := hb d (.head _) ρ h
    cases hc : c d with
    | true =>
      refine ⟨fun _ => ?_, fun q => by simp [hc] at q⟩
      show (body d ρ).bind _ = _
      rw [h1 hc]; rfl
    | false =>
      obtain ⟨ρ', h3, h4⟩ := h2 hc
      have ih := loop_find J c d₀ ds ρ' h4 fun d' hd ρ₁ hj => hb d' (.tail _ hd) ρ₁ hj
      rw [List.any_cons, hc, Bool.false_or]
      have e : loopO body (d :: ds) ρ = loopO body ds ρ' := by
        show (body d ρ).bind _ = _
        rw [h3]; rfl
      rw [e]; exact ih

/-- a loop that leaves at the first item of a kind, with an error -/
theorem loop_err {α : Type} {body : α → Rho → Option R} (J : Rho → Prop) (c : α → Bool) (x : Nat) : ∀ (ds : List α) (ρ : Rho), J ρ → (∀ d ∈ ds, ∀ ρ, J ρ → (c d = true → body d ρ = some (.err x)) ∧ (c d = false → ∃ ρ', body d ρ = some (.next ρ') ∧ J ρ')) →
    (ds.any c = true → loopO body ds ρ = some (.err x)) ∧ (ds.any c = false → ∃ ρ', loopO body ds ρ = some (.next ρ') ∧ J ρ')
  | [], ρ, h, _ => ⟨fun q => by simp at q, fun _ => ⟨ρ, rfl, h⟩⟩
  | d :: ds, ρ, h, hb => by
    obtain ⟨h1, h2⟩ := hb d (.head _) ρ h
    cases hc : c d with
    | true =>
      refine ⟨fun _ => ?_, fun q => by simp [hc] at q⟩
      show (body d ρ).bind _ = _
      rw [h1 hc]; rfl
    | false =>
      obtain ⟨ρ', h3, h4⟩ := h2 hc
      have ih := loop_err J c x ds ρ' h4 fun d' hd ρ₁ hj => hb d' (.tail _ hd) ρ₁ hj
      rw [List.any_cons, hc, Bool.false_or]
      have e : loopO body (d :: ds) ρ = loopO body ds ρ' := by
        show (body d ρ).bind _ = _
        rw [h3]; rfl
      rw [e]; exact ih

/-- a loop over lists that may leave early: what it ends in is told by a fold -/
theorem comp_all {α β : Type} {c : α → Option Bool} {f : α → Option β} (Rel : α → β → Prop) : ∀ (ds : List α), (∀ d ∈ ds, c d = some true ∧ ∃ y, f d = some y ∧ Rel d y) → ∃ ys, compO c f ds = some ys ∧ ys.length = ds.length ∧ (∀ y ∈ ys, ∃ d ∈ ds, Rel d y)
  | [], _ => ⟨[], rfl, rfl, fun y hy => by cases hy⟩
  | d :: ds, h => by
    obtain ⟨h1, y, h2, h3⟩ := h d (.head _)
    obtain ⟨ys, h4, h5, h6⟩ := comp_all Rel ds fun d' hd => h d' (.tail _ hd)
    refine ⟨y :: ys, by show (c d).bind _ = _; rw [h1]; show (f d).bind _ = _; rw [h2]; show (compO c f ds).map _ = _; rw [h4]; rfl, by rw [List.length_cons, List.length_cons, h5], fun z hz => ?_⟩
    rcases List.mem_cons.mp hz with rfl | hz
    · exact ⟨d, .head _, h3⟩
    · obtain ⟨d', a, b⟩ := h6 z hz
      exact ⟨d', .tail _ a, b⟩
noncomputable def bin2 (o : Op) (x y : Option D) : Option D := x.bind fun a => y.bind fun b => evBin o a b
noncomputable def cmp2 (o : Cm) (x y : Option D) : Option D := x.bind fun a => y.bind fun b => (evCmp o a b).map .bool
noncomputable def idx2 (x y : Option D) : Option D := x.bind fun a => y.bind fun b => evIdx a b
noncomputable def len1 (x : Option D) : Option D := x.bind fun x => (items x).map fun ds => .int ds.length
noncomputable def neg1 (x : Option D) : Option D := x.bind negD
noncomputable def not1 (x : Option D) : Option D := x.bind notD
noncomputable def isi1 (t : Ty) (x : Option D) : Option D := x.map fun d => .bool (evIsi t d)
noncomputable def max2 (x y : Option D) : Option D := x.bind fun a => y.bind fun b => maxD a b
noncomputable def toInt1 (x : Option D) : Option D := x.bind toIntD
noncomputable def sortD1 (x : Option D) : Option D := x.bind sortD
noncomputable def toTup1 (x : Option D) : Option D := x.bind fun x => (items x).map .tup
noncomputable def toLst1 (x : Option D) : Option D := x.bind fun x => (items x).map .lst
noncomputable def slTo2 (x y : Option D) : Option D := x.bind fun a => y.bind fun b => cutTo a b
noncomputable def slFrom2 (x y : Option D) : Option D := x.bind fun a => y.bind fun b => cutFrom a b
noncomputable def slBoth3 (x y z : Option D) : Option D := x.bind fun a => y.bind fun b => z.bind fun c => cutBoth a b c
noncomputable def cons2 (x : Option D) (y : Option (List D)) : Option (List D) := x.bind fun d => y.map fun ds => d :: ds
noncomputable def chain3 (o₁ o₂ : Cm) (x y z : Option D) : Option D := ifB (cmp2 o₁ x y) (cmp2 o₂ y z) (some (.bool false))
noncomputable def appR (ρ : Rho) (x : Nat) (o : Option D) : Option R := (ρ.own? x).bind fun ds => o.bind fun d => if d.pure = true ∧ ds.length < lim then some (.next (ρ.set x (some (.own (ds ++ [d]))))) else none
noncomputable def setR (ρ : Rho) (x : Nat) (i o : Option D) : Option R := (ρ.own? x).bind fun ds => i.bind fun y => o.bind fun d => (intOf y).bind fun j => if 0 ≤ j ∧ j < ds.length ∧ d.pure = true then some (.next (ρ.set x (some (.own (ds.set j.toNat d))))) else none
noncomputable def ownR (ρ : Rho) (x : Nat) (o : Option (List D)) : Option R := o.bind fun ds => putO ρ x ds
noncomputable def unpR (ρ : Rho) (xs : List Nat) (o : Option D) : Option R := o.bind fun d => putU ρ xs d

section
variable {Φ : Fns} {ρ : Rho} {keep : Bool}
@[simp] theorem ev_k (d : D) : ev Φ ρ (.k d) = some d := (rfl)
@[simp] theorem ev_v (i : Nat) : ev Φ ρ (.v i) = (ρ.get i).map Lo.val := (rfl)
@[simp] theorem ev_bin (o : Op) (a b : E) : ev Φ ρ (.bin o a b) = bin2 o (ev Φ ρ a) (ev Φ ρ b) := (rfl)
@[simp] theorem ev_cmp (o : Cm) (a b : E) : ev Φ ρ (.cmp o a b) = cmp2 o (ev Φ ρ a) (ev Φ ρ b) := (rfl)
@[simp] theorem ev_idx (a b : E) : ev Φ ρ (.idx a b) = idx2 (ev Φ ρ a) (ev Φ ρ b) := (rfl)
@[simp] theorem ev_len (a : E) : ev Φ ρ (.len a) = len1 (ev Φ ρ a) := (rfl)
@[simp] theorem ev_neg (a : E) : ev Φ ρ (.neg a) = neg1 (ev Φ ρ a) := (rfl)
@[simp] theorem ev_not (a : E) : ev Φ ρ (.not a) = not1 (ev Φ ρ a) := (rfl)
@[simp] theorem ev_isi (a : E) (t : Ty) : ev Φ ρ (.isi a t) = isi1 t (ev Φ ρ a) := (rfl)
@[simp] theorem ev_max (a b : E) : ev Φ ρ (.max a b) = max2 (ev Φ ρ a) (ev Φ ρ b) := (rfl)
@[simp] theorem ev_toInt (a : E) : ev Φ ρ (.toInt a) = toInt1 (ev Φ ρ a) := (rfl)
@[simp] theorem ev_sorted (a : E) : ev Φ ρ (.sorted a) = sortD1 (ev Φ ρ a) := (rfl)
@[simp] theorem sortD1_some (x : D) : sortD1 (some x) = sortD x := (rfl)
@[simp] theorem ev_toTup (a : E) : ev Φ ρ (.toTup a) = toTup1 (ev Φ ρ a) := (rfl)
@[simp] theorem ev_toLst (a : E) : ev Φ ρ (.toLst a) = toLst1 (ev Φ ρ a) := (rfl)
@[simp] theorem ev_slTo (a b : E) : ev Φ ρ (.slTo a b) = slTo2 (ev Φ ρ a) (ev Φ ρ b) := (rfl)
@[simp] theorem ev_slFrom (a b : E) : ev Φ ρ (.slFrom a b) = slFrom2 (ev Φ ρ a) (ev Φ ρ b) := (rfl)
@[simp] theorem ev_slBoth (a b c : E) : ev Φ ρ (.slBoth a b c) = slBoth3 (ev Φ ρ a) (ev Φ ρ b) (ev Φ ρ c) := (rfl)
@[simp] theorem ev_tup (es : Es) : ev Φ ρ (.tup es) = (evs Φ ρ es).map .tup := (rfl)
@[simp] theorem ev_lst (es : Es) : ev Φ ρ (.lst es) = (evs Φ ρ es).map .lst := (rfl)
@[simp] theorem evs_nil : evs Φ ρ .nil = some [] := (rfl)
@[simp] theorem evs_cons (e : E) (es : Es) : evs Φ ρ (.cons e es) = cons2 (ev Φ ρ e) (evs Φ ρ es) := (rfl)
@[simp] theorem ev_chain (o₁ o₂ : Cm) (a b c : E) : ev Φ ρ (.chain o₁ o₂ a b c) = chain3 o₁ o₂ (ev Φ ρ a) (ev Φ ρ b) (ev Φ ρ c) := by
  show ((ev Φ ρ a).bind fun x => (ev Φ ρ b).bind fun y => (evCmp o₁ x y).bind fun p => if p = true then (ev Φ ρ c).bind fun z => (evCmp o₂ y z).map D.bool else some (D.bool false)) = _
  cases ev Φ ρ a with
  | none => rfl
  | some x =>
    cases ev Φ ρ b with
    | none => rfl
    | some y =>
      show ((evCmp o₁ x y).bind fun p => if p = true then (ev Φ ρ c).bind fun z => (evCmp o₂ y z).map D.bool else some (D.bool false)) = ifB ((evCmp o₁ x y).map D.bool) _ _
      cases evCmp o₁ x y <;> rfl
@[simp] theorem ex_app (x : Nat) (e : E) : ex Φ ρ (.app x e) = appR ρ x (ev Φ ρ e) := (rfl)
@[simp] theorem ex_seti (x : Nat) (i e : E) : ex Φ ρ (.seti x i e) = setR ρ x (ev Φ ρ i) (ev Φ ρ e) := (rfl)
@[simp] theorem ex_ownD (x : Nat) (es : Es) : ex Φ ρ (.ownD x es) = ownR ρ x (evs Φ ρ es) := (rfl)
@[simp] theorem ex_ownL (x : Nat) (e : E) : ex Φ ρ (.ownL x e) = ownR ρ x ((ev Φ ρ e).bind items) := by
  show (ev Φ ρ e).bind _ = ((ev Φ ρ e).bind items).bind _
  cases ev Φ ρ e <;> rfl
@[simp] theorem ex_unp (xs : List Nat) (e : E) : ex Φ ρ (.unp xs e) = unpR ρ xs (ev Φ ρ e) := (rfl)
@[simp] theorem ex_cont : ex Φ ρ .cont = some (.cont ρ) := (rfl)
@[simp] theorem ex_rais (c : Nat) : ex Φ ρ (.rais c) = some (.err c) := (rfl)
end

section
variable {a b c : Int} {x y : List D} {s t : Str} {p q : Bool} {d e : D} {ρ : Rho}
@[simp] theorem b_add : bin2 .add (some (.int a)) (some (.int b)) = some (.int (a + b)) := (rfl)
@[simp] theorem b_sub : bin2 .sub (some (.int a)) (some (.int b)) = some (.int (a - b)) := (rfl)
@[simp] theorem b_mul : bin2 .mul (some (.int a)) (some (.int b)) = if a.natAbs < 1000000000 ∨ b.natAbs < 1000000000 then some (.int (a * b)) else none := (rfl)
@[simp] theorem b_div : bin2 .div (some (.int a)) (some (.int b)) = if 0 < b ∧ b < 1000000000 then some (.int (a / b)) else none := (rfl)
@[simp] theorem b_mod : bin2 .mod (some (.int a)) (some (.int b)) = if 0 < b then some (.int (a % b)) else none := (rfl)
@[simp] theorem b_pow : bin2 .pow (some (.int 10)) (some (.int 60)) = some (.int (10 ^ 60)) := (rfl)
@[simp] theorem b_addT : bin2 .add (some (.tup x)) (some (.tup y)) = if x.length + y.length ≤ lim then some (.tup (x ++ y)) else none := (rfl)
@[simp] theorem b_addL : bin2 .add (some (.lst x)) (some (.lst y)) = if x.length + y.length ≤ lim then some (.lst (x ++ y)) else none := (rfl)
@[simp] theorem c_eqI : cmp2 .eq (some (.int a)) (some (.int b)) = some (.bool (a == b)) := by simp [cmp2, evCmp]
@[simp] theorem c_eqS : cmp2 .eq (some (.str s)) (some (.str t)) = some (.bool (s == t)) := by simp [cmp2, evCmp]
@[simp] theorem c_eqB : cmp2 .eq (some (.bool p)) (some (.bool q)) = some (.bool (p == q)) := by simp [cmp2, evCmp]
@[simp] theorem c_neI : cmp2 .ne (some (.int a)) (some (.int b)) = some (.bool (!(a == b))) := by simp [cmp2, evCmp]
@[simp] theorem c_neS : cmp2 .ne (some (.str s)) (some (.str t)) = some (.bool (!(s == t))) := by simp [cmp2, evCmp]
@[simp] theorem c_lt : cmp2 .lt (some (.int a)) (some (.int b)) = some (.bool (decide (a < b))) := (rfl)
@[simp] theorem c_le : cmp2 .le (some (.int a)) (some (.int b)) = some (.bool (decide (a ≤ b))) := (rfl)
@[simp] theorem c_gt : cmp2 .gt (some (.int a)) (some (.int b)) = some (.bool (decide (a > b))) := (rfl)
@[simp] theorem c_ge : cmp2 .ge (some (.int a)) (some (.int b)) = some (.bool (decide (a ≥ b))) := (rfl)
@[simp] theorem i_tup : idx2 (some (.tup x)) (some (.int a)) = if 0 ≤ a then x[a.toNat]? else none := (rfl)
@[simp] theorem i_lst : idx2 (some (.lst x)) (some (.int a)) = if 0 ≤ a then x[a.toNat]? else none := (rfl)
@[simp] theorem l_tup : len1 (some (.tup x)) = some (.int x.length) := rfl
@[simp] theorem l_lst : len1 (some (.lst x)) = some (.int x.length) := rfl
@[simp] theorem n_int : neg1 (some (.int a)) = some (.int (-a)) := rfl
@[simp] theorem n_bool : not1 (some (.bool p)) = some (.bool (!p)) := rfl
@[simp] theorem s_isi {t : Ty} : isi1 t (some d) = some (.bool (evIsi t d)) := rfl
@[simp] theorem m_int : max2 (some (.int a)) (some (.int b)) = some (.int (if b > a then b else a)) := (rfl)
@[simp] theorem t_int : toInt1 (some (.bool p)) = some (.int (if p then 1 else 0)) := rfl
@[simp] theorem t_lst : toTup1 (some (.lst x)) = some (.tup x) := rfl
@[simp] theorem t_tup : toTup1 (some (.tup x)) = some (.tup x) := rfl
@[simp] theorem tl_lst : toLst1 (some (.lst x)) = some (.lst x) := rfl
@[simp] theorem tl_tup : toLst1 (some (.tup x)) = some (.lst x) := rfl
@[simp] theorem sl_to : slTo2 (some (.tup x)) (some (.int a)) = if 0 ≤ a then some (.tup (x.take a.toNat)) else none := (rfl)
@[simp] theorem sl_from : slFrom2 (some (.tup x)) (some (.int a)) = if 0 ≤ a then some (.tup (x.drop a.toNat)) else none := (rfl)
@[simp] theorem sl_both : slBoth3 (some (.tup x)) (some (.int a)) (some (.int b)) = if 0 ≤ a ∧ 0 ≤ b then some (.tup ((x.take b.toNat).drop a.toNat)) else none := (rfl)
@[simp] theorem k_some : cons2 (some d) (some x) = some (d :: x) := rfl
@[simp] theorem ch_some (o₁ o₂ : Cm) (u v w : Option D) : chain3 o₁ o₂ u v w = ifB (cmp2 o₁ u v) (cmp2 o₂ v w) (some (.bool false)) := rfl
@[simp] theorem isi_tt : evIsi .tuple (.tup x) = true := rfl
@[simp] theorem isi_ti : evIsi .tuple (.int a) = false := rfl
@[simp] theorem isi_tn : evIsi .tuple .none = false := rfl
@[simp] theorem isi_tb : evIsi .tuple (.bool p) = false := rfl
@[simp] theorem isi_ii : evIsi .int (.int a) = true := rfl
@[simp] theorem isi_it : evIsi .int (.tup x) = false := rfl
@[simp] theorem isi_in : evIsi .int .none = false := rfl
@[simp] theorem isi_ib : evIsi .int (.bool p) = true := rfl
@[simp] theorem isi_bb : evIsi .bool (.bool p) = true := rfl
@[simp] theorem isi_bi : evIsi .bool (.int a) = false := rfl
@[simp] theorem isi_bt : evIsi .bool (.tup x) = false := rfl
@[simp] theorem isi_bn : evIsi .bool .none = false := rfl
@[simp] theorem isi_ss : evIsi .str (.str s) = true := rfl
@[simp] theorem is_none : cmp2 .is (some .none) (some .none) = some (.bool true) := rfl
@[simp] theorem is_int : cmp2 .is (some (.int a)) (some .none) = some (.bool false) := rfl
@[simp] theorem is_tup : cmp2 .is (some (.tup x)) (some .none) = some (.bool false) := rfl
@[simp] theorem isn_none : cmp2 .isNot (some .none) (some .none) = some (.bool false) := rfl
@[simp] theorem isn_int : cmp2 .isNot (some (.int a)) (some .none) = some (.bool true) := rfl
@[simp] theorem isn_tup : cmp2 .isNot (some (.tup x)) (some .none) = some (.bool true) := rfl
@[simp] theorem get_0 (o : Option Lo) (r : Rho) : Rho.get (o :: r) 0 = o := rfl
@[simp] theorem get_s (o : Option Lo) (r : Rho) (i : Nat) : Rho.get (o :: r) (i + 1) = Rho.get r i := rfl
@[simp] theorem intOf_int : intOf (.int a) = some a := rfl
@[simp] theorem tupOf_tup : tupOf (.tup x) = some x := rfl
@[simp] theorem lstOf_lst : lstOf (.lst x) = some x := rfl
@[simp] theorem isTrueD_bool : isTrueD (.bool p) = some p := rfl
@[simp] theorem items_tup : items (.tup x) = some x := rfl
@[simp] theorem items_lst : items (.lst x) = some x := rfl
@[simp] theorem own_0 (r : Rho) : Rho.own? (some (.own x) :: r) 0 = some x := rfl
@[simp] theorem own_s (o : Option Lo) (r : Rho) (i : Nat) : Rho.own? (o :: r) (i + 1) = Rho.own? r i := rfl
@[simp] theorem putO_eq (i : Nat) : putO ρ i x = if D.pures x = true then some (.next (ρ.set i (some (.own x)))) else none := (rfl)
@[simp] theorem putD_eq (i : Nat) : putD ρ i d = if d.pure = true then some (.next (ρ.set i (some (.dat d)))) else none := (rfl)
@[simp] theorem val_d : Lo.val (.dat d) = d := rfl
@[simp] theorem val_a : Lo.val (.arg d) = d := rfl
@[simp] theorem val_o : Lo.val (.own x) = .lst x := rfl
@[simp] theorem put_drop : putT ρ d .drop = some (.next ρ) := (rfl)
@[simp] theorem put_var (i : Nat) : putT ρ d (.var i) = if d.pure = true then some (.next (ρ.set i (some (.dat d)))) else none := (rfl)
@[simp] theorem ownR_some (i : Nat) : ownR ρ i (some x) = if D.pures x = true then some (.next (ρ.set i (some (.own x)))) else none := (rfl)
@[simp] theorem unpR_tup (xs : List Nat) : unpR ρ xs (some (.tup x)) = if x.length = xs.length ∧ D.pures x = true then some (.next (setAll ρ xs x)) else none := (rfl)
end
end Mine

namespace Mine
open PySem

/-! the outermost def, in a shape that simp walks -/
noncomputable def KU (Φ : Fns) (Ψ : List D → Option Bool) (sub : Nat → Nat → Bool) (r : List U) : Rho → Option R := fun ρ => exU Φ Ψ sub ρ r
noncomputable def tryU (sub : Nat → Nat → Bool) (ρ : Rho) (i : Nat) (hs : List Hd) (o : Option Out) : Option R := o.bind (tryR sub ρ i hs)
noncomputable def irU (o : Option D) (Φ : Fns) (Ψ : List D → Option Bool) (sub : Nat → Nat → Bool) (ρ : Rho) (g : E) (es : Es) (r : List U) : Option R :=
  o.bind fun d => ifT d ((ev Φ ρ g).bind fun x => ifT x ((evs Φ ρ es).bind fun ds => refR Ψ ds) (some (.ret (.bool false)))) (exU Φ Ψ sub ρ r)
noncomputable def irG (o : Option D) (Φ : Fns) (Ψ : List D → Option Bool) (ρ : Rho) (es : Es) : Option R := o.bind fun x => ifT x ((evs Φ ρ es).bind fun ds => refR Ψ ds) (some (.ret (.bool false)))
section
variable {Φ : Fns} {Ψ : List D → Option Bool} {sub : Nat → Nat → Bool} {ρ : Rho}
@[simp] theorem exU_st (a : S) (r : List U) : exU Φ Ψ sub ρ (.st a :: r) = seqR (ex Φ ρ a) (KU Φ Ψ sub r) := (rfl)
@[simp] theorem exU_tr (i f : Nat) (es : Es) (hs : List Hd) (r : List U) : exU Φ Ψ sub ρ (.tr i f es hs :: r) = (evs Φ ρ es).bind fun ds => seqR (tryU sub ρ i hs (Φ f ds)) (KU Φ Ψ sub r) := by
  show ((evs Φ ρ es).bind fun ds => (Φ f ds).bind fun o => (tryR sub ρ i hs o).bind (thenR fun ρ' => exU Φ Ψ sub ρ' r)) = _
  cases evs Φ ρ es with
  | none => rfl
  | some ds => show ((Φ f ds).bind _) = seqR ((Φ f ds).bind _) _; cases Φ f ds <;> rfl
@[simp] theorem exU_ir (c g : E) (es : Es) (r : List U) : exU Φ Ψ sub ρ (.ir c g es :: r) = irU (ev Φ ρ c) Φ Ψ sub ρ g es r := (rfl)
@[simp] theorem exU_rt (es : Es) (r : List U) : exU Φ Ψ sub ρ (.rt es :: r) = (evs Φ ρ es).bind fun ds => refR Ψ ds := (rfl)
@[simp] theorem seqR_nextU (ρ' : Rho) (r : List U) : seqR (some (.next ρ')) (KU Φ Ψ sub r) = exU Φ Ψ sub ρ' r := (rfl)
@[simp] theorem irU_bool (p : Bool) (g : E) (es : Es) (r : List U) : irU (some (.bool p)) Φ Ψ sub ρ g es r = if p = true then irG (ev Φ ρ g) Φ Ψ ρ es else exU Φ Ψ sub ρ r := (rfl)
@[simp] theorem irG_true (es : Es) : irG (some (.bool true)) Φ Ψ ρ es = (evs Φ ρ es).bind fun ds => refR Ψ ds := (rfl)
@[simp] theorem irG_false (es : Es) : irG (some (.bool false)) Φ Ψ ρ es = some (.ret (.bool false)) := (rfl)
@[simp] theorem tryU_ok (i : Nat) (hs : List Hd) (d : D) : tryU sub ρ i hs (some (.ok d)) = putD ρ i d := (rfl)
theorem tryU_err (i : Nat) (hs : List Hd) (c : Nat) {h : Hd} (e : (hs.find? fun h => sub c h.c) = some h) : tryU sub ρ i hs (some (.err c)) = putD ρ h.x h.d := by
  show ((hs.find? fun h => sub c h.c).bind _) = _
  rw [e]; rfl
end
end Mine

namespace Mine
open PySem
noncomputable def F_l_cell_at : Fn := ⟨[(Str.ofString "_law_script"), (Str.ofString "_law_k")], [((Str.ofString "_law_script"), .local), ((Str.ofString "_law_k"), .local), ((Str.ofString "len"), .globalImplicit)],
 (.cons (.iff (.cmp .lt (.v 1) (.len (.v 0)))
 (.cons (.ret (.idx (.v 0) (.v 1)))
 .nil)
 .nil)
 (.cons (.ret (.k (.int (0))))
 .nil))⟩

noncomputable def F_l_mixed : Fn := ⟨[(Str.ofString "_law_script"), (Str.ofString "_law_k")], [((Str.ofString "_law_script"), .local), ((Str.ofString "_law_k"), .local), ((Str.ofString "_law_cell"), .local), ((Str.ofString "len"), .globalImplicit)],
 (.cons (.asg 2 (.k (.int (0))))
 (.cons (.iff (.cmp .gt (.len (.v 0)) (.k (.int (0))))
 (.cons (.asg 2 (.idx (.v 0) (.bin .mod (.v 1) (.len (.v 0)))))
 .nil)
 .nil)
 (.cons (.ret (.bin .mod (.bin .mul (.bin .add (.v 2) (.bin .mul (.k (.int (7919))) (.v 1))) (.k (.int (48271)))) (.k (.int (2147483647)))))
 .nil)))⟩

noncomputable def F_l_value_by : Fn := ⟨[(Str.ofString "_law_script"), (Str.ofString "_law_k"), (Str.ofString "_law_sizes")], [((Str.ofString "_law_script"), .local), ((Str.ofString "_law_k"), .local), ((Str.ofString "_law_sizes"), .local), ((Str.ofString "_law_number"), .local), ((Str.ofString "_law_rest"), .local), ((Str.ofString "_law_mixed"), .globalImplicit), ((Str.ofString "_law_cell_at"), .globalImplicit), ((Str.ofString "max"), .globalImplicit), ((Str.ofString "len"), .globalImplicit)],
 (.cons (.callS (.var 3) 1 (.cons (.v 0) (.cons (.v 1) .nil)))
 (.cons (.asg 4 (.bin .div (.v 3) (.k (.int (8)))))
 (.cons (.iff (.cmp .eq (.bin .mod (.v 3) (.k (.int (8)))) (.k (.int (0))))
 (.cons (.ret (.k .none))
 .nil)
 .nil)
 (.cons (.iff (.cmp .eq (.bin .mod (.v 3) (.k (.int (8)))) (.k (.int (1))))
 (.cons (.ret (.bin .mul (.bin .mod (.call 0 (.cons (.v 0) (.cons (.bin .mod (.v 1) (.max (.k (.int (1))) (.len (.v 0)))) .nil))) (.bin .pow (.k (.int (10))) (.k (.int (60))))) (.idx (.lst (.cons (.k (.int (1))) (.cons (.neg (.k (.int (1)))) .nil))) (.bin .mod (.v 4) (.k (.int (2)))))))
 .nil)
 .nil)
 (.cons (.iff (.and (.cmp .lt (.bin .mod (.v 3) (.k (.int (8)))) (.k (.int (6)))) (.cmp .gt (.idx (.v 2) (.k (.int (0)))) (.k (.int (0)))))
 (.cons (.ret (.tup (.cons (.k (.str (Str.ofString "young"))) (.cons (.bin .mod (.v 4) (.idx (.v 2) (.k (.int (0))))) .nil))))
 .nil)
 .nil)
 (.cons (.iff (.and (.cmp .gt (.bin .mod (.v 3) (.k (.int (8)))) (.k (.int (4)))) (.cmp .gt (.idx (.v 2) (.k (.int (1)))) (.k (.int (0)))))
 (.cons (.ret (.tup (.cons (.k (.str (Str.ofString "old"))) (.cons (.bin .mod (.v 4) (.idx (.v 2) (.k (.int (1))))) .nil))))
 .nil)
 .nil)
 (.cons (.ret (.bin .sub (.bin .mod (.v 4) (.k (.int (7)))) (.k (.int (3)))))
 .nil)))))))⟩

noncomputable def C_l_thing_by_1 : E :=
 (.call 2 (.cons (.v 0) (.cons (.bin .add (.bin .add (.v 1) (.k (.int (1)))) (.v 12)) (.cons (.v 2) .nil))))
noncomputable def F_l_thing_by : Fn := ⟨[(Str.ofString "_law_script"), (Str.ofString "_law_k"), (Str.ofString "_law_sizes")], [((Str.ofString "_law_script"), .cell), ((Str.ofString "_law_k"), .cell), ((Str.ofString "_law_sizes"), .cell), ((Str.ofString "_law_number"), .local), ((Str.ofString "_law_many"), .local), ((Str.ofString "_law_age"), .local), ((Str.ofString "_law_mixed"), .globalImplicit), ((Str.ofString "_law_cell_at"), .globalImplicit), ((Str.ofString "max"), .globalImplicit), ((Str.ofString "len"), .globalImplicit), ((Str.ofString "tuple"), .globalImplicit), ((Str.ofString "range"), .globalImplicit)],
 (.cons (.callS (.var 3) 1 (.cons (.v 0) (.cons (.v 1) .nil)))
 (.cons (.asg 4 (.bin .mod (.v 3) (.k (.int (4)))))
 (.cons (.iff (.cmp .eq (.bin .mod (.bin .div (.v 3) (.k (.int (4)))) (.k (.int (32)))) (.k (.int (3))))
 (.cons (.asg 4 (.bin .mod (.bin .div (.v 3) (.k (.int (128)))) (.k (.int (100)))))
 .nil)
 .nil)
 (.cons (.asg 5 (.bin .mod (.bin .div (.v 3) (.k (.int (12800)))) (.k (.int (4)))))
 (.cons (.iff (.cmp .eq (.bin .mod (.bin .div (.v 3) (.k (.int (51200)))) (.k (.int (8)))) (.k (.int (1))))
 (.cons (.asg 5 (.bin .mod (.call 0 (.cons (.v 0) (.cons (.bin .mod (.v 1) (.max (.k (.int (1))) (.len (.v 0)))) .nil))) (.bin .pow (.k (.int (10))) (.k (.int (60))))))
 .nil)
 .nil)
 (.cons (.ret (.tup (.cons (.v 5) (.cons (.toTup (.comp C_l_thing_by_1 (.range (.v 4)) (.k (.bool true)))) .nil))))
 .nil))))))⟩

noncomputable def B_l_book_of_1 : Ss :=
 (.cons (.asg 4 (.idx (.idx (.idx (.v 0) (.v 2)) (.k (.int (1)))) (.v 3)))
 (.cons (.iff (.and (.isi (.v 4) .tuple) (.cmp .eq (.idx (.v 4) (.k (.int (0)))) (.k (.str (Str.ofString "young")))))
 (.cons (.app 1 (.tup (.cons (.v 2) (.cons (.v 3) .nil))))
 .nil)
 .nil)
 .nil))
noncomputable def B_l_book_of_2 : Ss :=
 (.cons (.for1 3 (.range (.len (.idx (.idx (.v 0) (.v 2)) (.k (.int (1)))))) B_l_book_of_1)
 .nil)
noncomputable def F_l_book_of : Fn := ⟨[(Str.ofString "_law_old")], [((Str.ofString "_law_old"), .local), ((Str.ofString "_law_found"), .local), ((Str.ofString "_law_place"), .local), ((Str.ofString "_law_k"), .local), ((Str.ofString "_law_value"), .local), ((Str.ofString "range"), .globalImplicit), ((Str.ofString "len"), .globalImplicit), ((Str.ofString "isinstance"), .globalImplicit), ((Str.ofString "tuple"), .globalImplicit)],
 (.cons (.ownD 1 .nil)
 (.cons (.for1 2 (.range (.len (.v 0))) B_l_book_of_2)
 (.cons (.ret (.toTup (.v 1)))
 .nil)))⟩

noncomputable def F_l_next : Fn := ⟨[(Str.ofString "_law_word"), (Str.ofString "_law_k"), (Str.ofString "_law_sizes")], [((Str.ofString "_law_word"), .local), ((Str.ofString "_law_k"), .local), ((Str.ofString "_law_sizes"), .local), ((Str.ofString "_law_other"), .local), ((Str.ofString "_law_at"), .local), ((Str.ofString "int"), .globalImplicit)],
 (.cons (.asg 3 (.idx (.lst (.cons (.k (.str (Str.ofString "young"))) (.cons (.k (.str (Str.ofString "old"))) .nil))) (.toInt (.cmp .eq (.v 0) (.k (.str (Str.ofString "young")))))))
 (.cons (.asg 4 (.idx (.lst (.cons (.v 1) (.cons (.bin .add (.v 1) (.k (.int (1)))) .nil))) (.toInt (.cmp .eq (.v 0) (.k (.str (Str.ofString "old")))))))
 (.cons (.iff (.cmp .lt (.v 4) (.idx (.v 2) (.toInt (.cmp .eq (.v 3) (.k (.str (Str.ofString "old")))))))
 (.cons (.ret (.tup (.cons (.v 3) (.cons (.v 4) .nil))))
 .nil)
 .nil)
 (.cons (.iff (.cmp .lt (.bin .add (.v 1) (.k (.int (1)))) (.idx (.v 2) (.toInt (.cmp .eq (.v 0) (.k (.str (Str.ofString "old")))))))
 (.cons (.ret (.tup (.cons (.v 0) (.cons (.bin .add (.v 1) (.k (.int (1)))) .nil))))
 .nil)
 .nil)
 (.cons (.ret (.k (.int (7))))
 .nil)))))⟩

noncomputable def B_l_chained_1 : Ss :=
 (.cons (.app 3 (.tup (.cons (.idx (.idx (.v 0) (.v 4)) (.k (.int (0)))) (.cons (.bin .add (.idx (.idx (.v 0) (.v 4)) (.k (.int (1)))) (.tup (.cons (.call 5 (.cons (.v 1) (.cons (.v 4) (.cons (.v 2) .nil)))) .nil))) .nil))))
 .nil)
noncomputable def F_l_chained : Fn := ⟨[(Str.ofString "_law_half"), (Str.ofString "_law_word"), (Str.ofString "_law_sizes")], [((Str.ofString "_law_half"), .local), ((Str.ofString "_law_word"), .local), ((Str.ofString "_law_sizes"), .local), ((Str.ofString "_law_rows"), .local), ((Str.ofString "_law_k"), .local), ((Str.ofString "range"), .globalImplicit), ((Str.ofString "len"), .globalImplicit), ((Str.ofString "_law_next"), .globalImplicit), ((Str.ofString "tuple"), .globalImplicit)],
 (.cons (.ownD 3 .nil)
 (.cons (.for1 4 (.range (.len (.v 0))) B_l_chained_1)
 (.cons (.ret (.toTup (.v 3)))
 .nil)))⟩

noncomputable def B_l_heap_by_1 : Ss :=
 (.cons (.iff (.cmp .eq (.bin .mod (.bin .div (.call 0 (.cons (.v 0) (.cons (.v 2) .nil))) (.k (.int (6)))) (.k (.int (6)))) (.k (.int (1))))
 (.cons (.seti 1 (.v 2) (.bin .mod (.bin .mod (.bin .mul (.call 0 (.cons (.v 0) (.cons (.v 2) .nil))) (.k (.int (48271)))) (.k (.int (2147483647)))) (.k (.int (71)))))
 .nil)
 .nil)
 .nil)
noncomputable def C_l_heap_by_2 : E :=
 (.call 3 (.cons (.v 0) (.cons (.bin .mul (.k (.int (100))) (.v 11)) (.cons (.v 1) .nil))))
noncomputable def C_l_heap_by_3 : E :=
 (.call 3 (.cons (.v 0) (.cons (.bin .add (.k (.int (10000))) (.bin .mul (.k (.int (100))) (.v 11))) (.cons (.v 1) .nil))))
noncomputable def C_l_heap_by_4 : E :=
 (.call 2 (.cons (.v 0) (.cons (.bin .add (.k (.int (20000))) (.v 11)) (.cons (.v 1) .nil))))
noncomputable def F_l_heap_by : Fn := ⟨[(Str.ofString "_law_script")], [((Str.ofString "_law_script"), .cell), ((Str.ofString "_law_sizes"), .cell), ((Str.ofString "_law_k"), .local), ((Str.ofString "_law_young"), .local), ((Str.ofString "_law_old"), .local), ((Str.ofString "_law_roots"), .local), ((Str.ofString "_law_cell_at"), .globalImplicit), ((Str.ofString "range"), .globalImplicit), ((Str.ofString "tuple"), .globalImplicit), ((Str.ofString "_law_chained"), .globalImplicit), ((Str.ofString "_law_book_of"), .globalImplicit)],
 (.cons (.ownD 1 (.cons (.bin .mod (.call 0 (.cons (.v 0) (.cons (.k (.int (0))) .nil))) (.k (.int (6)))) (.cons (.bin .mod (.call 0 (.cons (.v 0) (.cons (.k (.int (1))) .nil))) (.k (.int (6)))) (.cons (.bin .mod (.call 0 (.cons (.v 0) (.cons (.k (.int (2))) .nil))) (.k (.int (5)))) .nil))))
 (.cons (.for1 2 (.range (.k (.int (3)))) B_l_heap_by_1)
 (.cons (.asg 3 (.toTup (.comp C_l_heap_by_2 (.range (.idx (.v 1) (.k (.int (0))))) (.k (.bool true)))))
 (.cons (.asg 4 (.toTup (.comp C_l_heap_by_3 (.range (.idx (.v 1) (.k (.int (1))))) (.k (.bool true)))))
 (.cons (.asg 5 (.toTup (.comp C_l_heap_by_4 (.range (.idx (.v 1) (.k (.int (2))))) (.k (.bool true)))))
 (.cons (.iff (.or (.cmp .eq (.bin .mod (.bin .div (.call 0 (.cons (.v 0) (.cons (.k (.int (2))) .nil))) (.k (.int (2556)))) (.k (.int (8)))) (.k (.int (1)))) (.cmp .eq (.bin .mod (.call 0 (.cons (.v 0) (.cons (.k (.int (2))) .nil))) (.k (.int (11)))) (.k (.int (3)))))
 (.cons (.callS (.var 3) 6 (.cons (.v 3) (.cons (.k (.str (Str.ofString "young"))) (.cons (.v 1) .nil))))
 (.cons (.callS (.var 4) 6 (.cons (.v 4) (.cons (.k (.str (Str.ofString "old"))) (.cons (.v 1) .nil))))
 (.cons (.iff (.cmp .gt (.idx (.v 1) (.k (.int (0)))) (.k (.int (0))))
 (.cons (.asg 5 (.bin .add (.tup (.cons (.tup (.cons (.k (.str (Str.ofString "young"))) (.cons (.k (.int (0))) .nil))) .nil)) (.slFrom (.v 5) (.k (.int (1))))))
 .nil)
 .nil)
 .nil)))
 .nil)
 (.cons (.ret (.tup (.cons (.v 3) (.cons (.v 4) (.cons (.v 5) (.cons (.call 4 (.cons (.v 4) .nil)) .nil))))))
 .nil)))))))⟩

noncomputable def F_is_pointer : Fn := ⟨[(Str.ofString "value")], [((Str.ofString "value"), .local), ((Str.ofString "isinstance"), .globalImplicit), ((Str.ofString "tuple"), .globalImplicit)],
 (.cons (.ret (.isi (.v 0) .tuple))
 .nil)⟩

noncomputable def F_half_of : Fn := ⟨[(Str.ofString "heap"), (Str.ofString "pointer")], [((Str.ofString "heap"), .local), ((Str.ofString "pointer"), .local)],
 (.cons (.iff (.cmp .eq (.idx (.v 1) (.k (.int (0)))) (.k (.str (Str.ofString "young"))))
 (.cons (.ret (.idx (.v 0) (.k (.int (0)))))
 .nil)
 .nil)
 (.cons (.ret (.idx (.v 0) (.k (.int (1)))))
 .nil))⟩

noncomputable def F_leads : Fn := ⟨[(Str.ofString "heap"), (Str.ofString "pointer")], [((Str.ofString "heap"), .local), ((Str.ofString "pointer"), .local), ((Str.ofString "len"), .globalImplicit), ((Str.ofString "half_of"), .globalImplicit)],
 (.cons (.ret (.chain .le .lt (.k (.int (0))) (.idx (.v 1) (.k (.int (1)))) (.len (.call 9 (.cons (.v 0) (.cons (.v 1) .nil))))))
 .nil)⟩

noncomputable def F_l_leads : Fn := ⟨[(Str.ofString "_law_heap"), (Str.ofString "_law_pointer")], [((Str.ofString "_law_heap"), .local), ((Str.ofString "_law_pointer"), .local), ((Str.ofString "_law_half"), .local), ((Str.ofString "len"), .globalImplicit)],
 (.cons (.asg 2 (.idx (.v 0) (.k (.int (0)))))
 (.cons (.iff (.cmp .eq (.idx (.v 1) (.k (.int (0)))) (.k (.str (Str.ofString "old"))))
 (.cons (.asg 2 (.idx (.v 0) (.k (.int (1)))))
 .nil)
 .nil)
 (.cons (.ret (.and (.cmp .le (.k (.int (0))) (.idx (.v 1) (.k (.int (1))))) (.cmp .lt (.idx (.v 1) (.k (.int (1)))) (.len (.v 2)))))
 .nil)))⟩

noncomputable def F_l_pointer_by : Fn := ⟨[(Str.ofString "_law_cell"), (Str.ofString "_law_heap"), (Str.ofString "_law_far")], [((Str.ofString "_law_cell"), .local), ((Str.ofString "_law_heap"), .local), ((Str.ofString "_law_far"), .local), ((Str.ofString "_law_way"), .local), ((Str.ofString "_law_half"), .local), ((Str.ofString "_law_place"), .local), ((Str.ofString "len"), .globalImplicit)],
 (.cons (.asg 3 (.bin .mod (.v 0) (.k (.int (9)))))
 (.cons (.iff (.cmp .eq (.v 3) (.k (.int (0))))
 (.cons (.ret (.k .none))
 .nil)
 .nil)
 (.cons (.iff (.cmp .eq (.v 3) (.k (.int (1))))
 (.cons (.ret (.bin .sub (.bin .mod (.bin .div (.v 0) (.k (.int (9)))) (.k (.int (5)))) (.k (.int (1)))))
 .nil)
 .nil)
 (.cons (.asg 4 (.idx (.v 1) (.bin .mod (.v 3) (.k (.int (2))))))
 (.cons (.asg 5 (.bin .sub (.bin .mod (.bin .div (.v 0) (.k (.int (9)))) (.bin .add (.len (.v 4)) (.k (.int (4))))) (.k (.int (2)))))
 (.cons (.iff (.cmp .eq (.v 5) (.bin .add (.len (.v 4)) (.k (.int (1)))))
 (.cons (.asg 5 (.idx (.lst (.cons (.v 2) (.cons (.bin .sub (.neg (.k (.int (1)))) (.v 2)) .nil))) (.bin .mod (.bin .div (.bin .div (.v 0) (.k (.int (9)))) (.bin .add (.len (.v 4)) (.k (.int (4))))) (.k (.int (2))))))
 .nil)
 .nil)
 (.cons (.ret (.tup (.cons (.idx (.lst (.cons (.k (.str (Str.ofString "young"))) (.cons (.k (.str (Str.ofString "old"))) .nil))) (.bin .mod (.v 3) (.k (.int (2))))) (.cons (.v 5) .nil))))
 .nil)))))))⟩


noncomputable def fnsC : List Str := ["_law_cell_at", "_law_mixed", "_law_value_by", "_law_thing_by", "_law_book_of", "_law_next", "_law_chained", "_law_heap_by", "is_pointer", "half_of", "leads"]
structure Common (P : Prg) : Prop where
  c0 : P[0]? = some F_l_cell_at
  c1 : P[1]? = some F_l_mixed
  c2 : P[2]? = some F_l_value_by
  c3 : P[3]? = some F_l_thing_by
  c4 : P[4]? = some F_l_book_of
  c5 : P[5]? = some F_l_next
  c6 : P[6]? = some F_l_chained
  c7 : P[7]? = some F_l_heap_by
  c8 : P[8]? = some F_is_pointer
  c9 : P[9]? = some F_half_of
  c10 : P[10]? = some F_leads
end Mine


namespace Mine
open PySem

abbrev wY : Str := Str.ofString "young"
abbrev wO : Str := Str.ofString "old"
theorem YO : (wY == wO) = false := by decide +kernel
theorem OY : (wO == wY) = false := by decide +kernel
theorem YY : (wY == wY) = true := by decide +kernel
theorem OO : (wO == wO) = true := by decide +kernel
theorem YneO : ¬ wY = wO := by decide +kernel
theorem OneY : ¬ wO = wY := by decide +kernel

theorem lim_eq : (lim : Int) = 1000000 := rfl
theorem lim_n : lim = 1000000 := rfl

section
variable {Φ : Fns} {ρ : Rho}
theorem evIt_range {a : E} {m : Int} (h : ev Φ ρ a = some (.int m)) (h0 : -1000000 ≤ m) (h1 : m ≤ 1000000) : evIt Φ ρ (.range a) = some (rangeD 0 m) := by
  show (ev Φ ρ a).bind _ = _
  rw [h]; exact if_pos ⟨h0, h1⟩
theorem evIt_seq {a : E} {d : D} {ds : List D} (h : ev Φ ρ a = some d) (hi : items d = some ds) (hp : D.pures ds = true) : evIt Φ ρ (.seq a) = some ds := by
  show (ev Φ ρ a).bind _ = _
  rw [h]; show (items d).bind _ = _
  rw [hi]; exact if_pos hp
theorem ex_for {x : Nat} {it : It} {b : Ss} {ds : List D} (h : evIt Φ ρ it = some ds) (ho : itOk Φ ρ it = true) : ex Φ ρ (.for1 x it b) = loopO (fun d ρ => exs Φ (ρ.set x (some (.dat d))) b) ds ρ := by
  show (evIt Φ ρ it).bind _ = _
  rw [h]; exact if_pos ho
theorem ex_for_range {x : Nat} {a : E} {b : Ss} {m : Int} (h : ev Φ ρ a = some (.int m)) (h0 : -1000000 ≤ m) (h1 : m ≤ 1000000) :
    ex Φ ρ (.for1 x (.range a) b) = loopO (fun d ρ => exs Φ (ρ.set x (some (.dat d))) b) (rangeD 0 m) ρ := ex_for (evIt_range h h0 h1) rfl
theorem ex_for_tup {x : Nat} {a : E} {b : Ss} {ds : List D} (h : ev Φ ρ a = some (.tup ds)) (hp : D.pures ds = true) :
    ex Φ ρ (.for1 x (.seq a) b) = loopO (fun d ρ => exs Φ (ρ.set x (some (.dat d))) b) ds ρ :=
  ex_for (evIt_seq h rfl hp) (by show (ρ.noOwn || ((ev Φ ρ a).bind tupOf).isSome) = true; rw [h]; exact Bool.or_true _)
theorem ex_for_lst {x : Nat} {a : E} {b : Ss} {ds : List D} (h : ev Φ ρ a = some (.lst ds)) (hp : D.pures ds = true) (hn : ρ.noOwn = true) :
    ex Φ ρ (.for1 x (.seq a) b) = loopO (fun d ρ => exs Φ (ρ.set x (some (.dat d))) b) ds ρ :=
  ex_for (evIt_seq h rfl hp) (by show (ρ.noOwn || ((ev Φ ρ a).bind tupOf).isSome) = true; rw [hn]; rfl)
theorem ex_forV {x y : Nat} {b : Ss} {lo : Lo} {ds : List D} (h : ρ.get y = some lo) (hi : items lo.val = some ds) (ho : lo.own?.isNone = true) (hp : D.pures ds = true) :
    ex Φ ρ (.forV x y b) = loopO (fun d ρ => exs Φ (ρ.set x (some (.dat d))) b) ds ρ := by
  show (ρ.get y).bind _ = _
  rw [h]; show (items lo.val).bind _ = _
  rw [hi]; exact if_pos ⟨ho, hp⟩
theorem ev_comp {el cd : E} {it : It} {ds res : List D} (h : evIt Φ ρ it = some ds) (hc : compO (fun d => (ev Φ (ρ ++ [some (.dat d)]) cd).bind isTrueD) (fun d => ev Φ (ρ ++ [some (.dat d)]) el) ds = some res) (hp : D.pures res = true) :
    ev Φ ρ (.comp el it cd) = some (.lst res) := by
  show (evIt Φ ρ it).bind _ = _
  rw [h]; show (compO _ _ ds).bind _ = _
  rw [hc]; exact if_pos hp
end
theorem rangeD_len (m : Int) : (rangeD 0 m).length = m.toNat := by simp [rangeD]
theorem rangeD_some {m : Int} {j : Nat} {d : D} (h : (rangeD 0 m)[j]? = some d) : d = .int j ∧ (j : Int) < m := by
  have hl := (List.getElem?_eq_some_iff.mp h).1
  rw [rangeD_get hl] at h
  rw [rangeD_len] at hl
  exact ⟨by simpa using h.symm, by omega⟩
theorem rangeD_mem {m : Int} {d : D} (h : d ∈ rangeD 0 m) : ∃ j : Nat, d = .int j ∧ (j : Int) < m := by
  obtain ⟨j, hj⟩ := List.getElem?_of_mem h
  exact ⟨j, rangeD_some hj⟩

noncomputable def scr (xs : List Int) : D := .lst (xs.map .int)
noncomputable def cellAt (xs : List Int) (k : Int) : Int := (xs[k.toNat]?).getD 0
noncomputable def mixed (xs : List Int) (k : Int) : Int := ((if 0 < xs.length then cellAt xs (k % xs.length) else 0) + 7919 * k) * 48271 % 2147483647
theorem mixed_range (xs : List Int) (k : Int) : 0 ≤ mixed xs k ∧ mixed xs k < 2147483647 := by unfold mixed; omega

/-! shapes -/
abbrev Bd := Str → Int → Prop
noncomputable def okV (b : Bd) (v : D) : Prop := v = .none ∨ (∃ i, v = .int i) ∨ ∃ s i, (s = wY ∨ s = wO) ∧ b s i ∧ v = .tup [.str s, .int i]
noncomputable def okTm (m : Nat) (b : Bd) (t : D) : Prop := ∃ a vs, t = .tup [.int a, .tup vs] ∧ vs.length ≤ m ∧ ∀ v ∈ vs, okV b v
abbrev okT (b : Bd) (t : D) : Prop := okTm 101 b t
noncomputable def inB (s0 s1 : Int) : Bd := fun s i => 0 ≤ i ∧ i < if s = wY then s0 else s1

theorem okV.okN {b : Bd} {v : D} (h : okV b v) : v.okN 1 = true := by
  rcases h with rfl | ⟨i, rfl⟩ | ⟨s, i, _, _, rfl⟩ <;> rfl
theorem okTm.okN {m : Nat} {b : Bd} {t : D} (h : okTm m b t) : t.okN 3 = true := by
  obtain ⟨a, vs, rfl, _, hv⟩ := h
  have : vs.all (D.okN 1) = true := List.all_eq_true.mpr fun v hv' => (hv v hv').okN
  rw [D.okN_tup, List.all_cons, List.all_cons, D.okN_int, D.okN_tup, this]; rfl
theorem okV.pure {b : Bd} {v : D} (h : okV b v) : v.pure = true := D.okN_le (by decide) h.okN
theorem okTm.pure {m : Nat} {b : Bd} {t : D} (h : okTm m b t) : t.pure = true := D.okN_le (by decide) h.okN
theorem okVs.pures {b : Bd} {vs : List D} (h : ∀ v ∈ vs, okV b v) : D.pures vs = true := List.all_eq_true.mpr fun v hv => (h v hv).pure
theorem okTs.pures {m : Nat} {b : Bd} {vs : List D} (h : ∀ v ∈ vs, okTm m b v) : D.pures vs = true := List.all_eq_true.mpr fun v hv => (h v hv).pure
theorem okTs.tup {m : Nat} {b : Bd} {vs : List D} (h : ∀ v ∈ vs, okTm m b v) : D.pure (.tup vs) = true :=
  D.okN_le (n := 4) (by decide) (by rw [D.okN_tup]; exact List.all_eq_true.mpr fun v hv => (h v hv).okN)
theorem okVs.tup {b : Bd} {vs : List D} (h : ∀ v ∈ vs, okV b v) : D.pure (.tup vs) = true :=
  D.okN_le (n := 2) (by decide) (by rw [D.okN_tup]; exact List.all_eq_true.mpr fun v hv => (h v hv).okN)

section
variable {keep : Bool} {P : Prg} (C : Common P) {n : Nat} {xs : List Int} {k : Int}

theorem rho_cell_at (a b : D) : rho0 F_l_cell_at.names F_l_cell_at.ps [a, b] = [some (.arg a), some (.arg b), none] := by kernel_rfl
include C in
theorem r_cell_at (hk : 0 ≤ k) : run keep P (n + 1) 0 [scr xs, .int k] = some (.ok (.int (cellAt xs k))) := by
  rw [run_at C.c0, fnRun_eq rfl, rho_cell_at]
  simp [F_l_cell_at, scr, hk, cellAt]
  by_cases h : k < xs.length
  · have h' : k.toNat < xs.length := by omega
    simp [h, h', List.getElem?_eq_getElem h']
  · have h' : ¬ k.toNat < xs.length := by omega
    simp [h, List.getElem?_eq_none (Nat.le_of_not_lt h')]

theorem rho_mixed (a b : D) : rho0 F_l_mixed.names F_l_mixed.ps [a, b] = [some (.arg a), some (.arg b), none, none] := by kernel_rfl
include C in
theorem r_mixed (hk : 0 ≤ k) : run keep P (n + 1) 1 [scr xs, .int k] = some (.ok (.int (mixed xs k))) := by
  rw [run_at C.c1, fnRun_eq rfl, rho_mixed]
  by_cases h : 0 < xs.length
  · have h1 : 0 ≤ k % (xs.length : Int) := Int.emod_nonneg _ (by omega)
    have h2 : k % (xs.length : Int) < xs.length := Int.emod_lt_of_pos _ (by omega)
    have h' : (k % (xs.length : Int)).toNat < xs.length := by omega
    simp [F_l_mixed, scr, mixed, h, h1, h', List.getElem?_eq_getElem h', cellAt]
  · simp [F_l_mixed, scr, mixed, h]

/-! the sizes -/
noncomputable def szs (s0 s1 s2 : Int) : D := .lst [.int s0, .int s1, .int s2]
structure Sz (s0 s1 s2 : Int) : Prop where
  a0 : 0 ≤ s0
  a1 : s0 ≤ 70
  b0 : 0 ≤ s1
  b1 : s1 ≤ 70
  c0 : 0 ≤ s2
  c1 : s2 ≤ 70

theorem rho_value_by (a b c : D) : rho0 F_l_value_by.names F_l_value_by.ps [a, b, c] = [some (.arg a), some (.arg b), some (.arg c), none, none, none, none, none, none] := by kernel_rfl
include C in
theorem r_value_byL {s0 s1 : Int} {tl : List D} (hk : 0 ≤ k) : ∃ v, run keep P (n + 2) 2 [scr xs, .int k, .lst (.int s0 :: .int s1 :: tl)] = some (.ok v) ∧ okV (inB s0 s1) v := by
  rw [run_at C.c2, fnRun_eq rfl, rho_value_by]
  have hm := r_mixed (keep := keep) C (n := n) (xs := xs) hk
  obtain ⟨m0, m1⟩ := mixed_range xs k
  have hmx : (0 : Int) < if ((xs.length : Nat) : Int) > 1 then ((xs.length : Nat) : Int) else 1 := by split <;> omega
  have hc := r_cell_at (keep := keep) C (n := n) (xs := xs) (k := k % if ((xs.length : Nat) : Int) > 1 then ((xs.length : Nat) : Int) else 1) (Int.emod_nonneg _ (by omega))
  simp only [scr] at hm hc
  by_cases h0 : mixed xs k % 8 = 0
  · simp [F_l_value_by, hm, scr, h0]
    exact .inl rfl
  by_cases h1 : mixed xs k % 8 = 1
  · have h2 : mixed xs k / 8 % 2 = 0 ∨ mixed xs k / 8 % 2 = 1 := by omega
    rcases h2 with h2 | h2 <;> simp [F_l_value_by, hm, hc, scr, hmx, h0, h1, h2] <;> exact .inr (.inl ⟨_, rfl⟩)
  by_cases h2 : mixed xs k % 8 < 6 ∧ 0 < s0
  · simp [F_l_value_by, hm, scr, h0, h1, h2.1, h2.2]
    exact .inr (.inr ⟨wY, _, .inl rfl, ⟨Int.emod_nonneg _ (by omega), by rw [if_pos rfl]; exact Int.emod_lt_of_pos _ h2.2⟩, rfl⟩)
  by_cases h3 : 4 < mixed xs k % 8 ∧ 0 < s1
  · have e : (∃ v, outR keep (exs (run keep P (n + 1)) [some (.arg (scr xs)), some (.arg (.int k)), some (.arg (.lst (.int s0 :: .int s1 :: tl))), none, none, none, none, none, none] F_l_value_by.body) = some (.ok v) ∧ v = .tup [.str wO, .int (mixed xs k / 8 % s1)]) := by
      by_cases h4 : mixed xs k % 8 < 6
      · have h5 : ¬ 0 < s0 := fun q => h2 ⟨h4, q⟩
        simp [F_l_value_by, hm, scr, h0, h1, h4, h5, h3.1, h3.2]
      · simp [F_l_value_by, hm, scr, h0, h1, h4, h3.1, h3.2]
    obtain ⟨v, e1, rfl⟩ := e
    exact ⟨_, e1, .inr (.inr ⟨wO, _, .inr rfl, ⟨Int.emod_nonneg _ (by omega), by rw [if_neg OneY]; exact Int.emod_lt_of_pos _ h3.2⟩, rfl⟩)⟩
  · refine ⟨.int (mixed xs k / 8 % 7 - 3), ?_, .inr (.inl ⟨_, rfl⟩)⟩
    by_cases h4 : mixed xs k % 8 < 6 <;> by_cases h5 : 4 < mixed xs k % 8 <;> by_cases h6 : 0 < s0 <;> by_cases h7 : 0 < s1 <;> simp [h4, h5, h6, h7] at h2 h3 <;> simp [F_l_value_by, hm, scr, h0, h1, h4, h5, h6, h7]
include C in
theorem r_value_by {s0 s1 s2 : Int} (Z : Sz s0 s1 s2) (hk : 0 ≤ k) : ∃ v, run keep P (n + 2) 2 [scr xs, .int k, szs s0 s1 s2] = some (.ok v) ∧ okV (inB s0 s1) v := r_value_byL C hk

theorem rho_thing_by (a b c : D) : rho0 F_l_thing_by.names F_l_thing_by.ps [a, b, c] = [some (.arg a), some (.arg b), some (.arg c), none, none, none, none, none, none, none, none, none] := by kernel_rfl
include C in
theorem r_thing_by {s0 s1 s2 : Int} (Z : Sz s0 s1 s2) (hk : 0 ≤ k) : ∃ t, run keep P (n + 3) 3 [scr xs, .int k, szs s0 s1 s2] = some (.ok t) ∧ okTm 99 (inB s0 s1) t := by
  rw [run_at C.c3, fnRun_eq rfl, rho_thing_by]
  have hm := r_mixed (keep := keep) C (n := n + 1) (xs := xs) hk
  obtain ⟨m0, m1⟩ := mixed_range xs k
  have hmx : (0 : Int) < if ((xs.length : Nat) : Int) > 1 then ((xs.length : Nat) : Int) else 1 := by split <;> omega
  have hc := r_cell_at (keep := keep) C (n := n + 1) (xs := xs) (k := k % if ((xs.length : Nat) : Int) > 1 then ((xs.length : Nat) : Int) else 1) (Int.emod_nonneg _ (by omega))
  have hcomp : ∀ (num age : D) (many : Int), 0 ≤ many → many ≤ 99 → ∃ res, ev (run keep P (n + 2)) [some (.arg (scr xs)), some (.arg (.int k)), some (.arg (szs s0 s1 s2)), some (.dat num), some (.dat (.int many)), some (.dat age), none, none, none, none, none, none] (.comp C_l_thing_by_1 (.range (.v 4)) (.k (.bool true))) = some (.lst res) ∧ res.length = many.toNat ∧ ∀ v ∈ res, okV (inB s0 s1) v := by
    intro num age many h0 h1
    obtain ⟨res, e1, e2, e3⟩ := comp_all (c := fun d => (ev (run keep P (n + 2)) ([some (.arg (scr xs)), some (.arg (.int k)), some (.arg (szs s0 s1 s2)), some (.dat num), some (.dat (.int many)), some (.dat age), none, none, none, none, none, none] ++ [some (.dat d)]) (.k (.bool true))).bind isTrueD)
      (f := fun d => ev (run keep P (n + 2)) ([some (.arg (scr xs)), some (.arg (.int k)), some (.arg (szs s0 s1 s2)), some (.dat num), some (.dat (.int many)), some (.dat age), none, none, none, none, none, none] ++ [some (.dat d)]) C_l_thing_by_1) (fun _ v => okV (inB s0 s1) v) (rangeD 0 many) (fun d hd => by
        obtain ⟨j, rfl, hj⟩ := rangeD_mem hd
        refine ⟨by simp [isTrueD], ?_⟩
        obtain ⟨v, hv1, hv2⟩ := r_value_by (keep := keep) C (n := n) (xs := xs) (k := k + 1 + j) Z (by omega)
        exact ⟨v, by simp [C_l_thing_by_1, hv1], hv2⟩)
    have hok : ∀ v ∈ res, okV (inB s0 s1) v := fun v hv => (e3 v hv).elim fun _ q => q.2
    exact ⟨res, ev_comp (evIt_range (by simp) (by omega) (by omega)) e1 (okVs.pures hok), by rw [e2, rangeD_len], hok⟩
  simp only [scr] at hm hc hcomp ⊢
  have big : (10 : Int) ^ 60 = 1000000000000000000000000000000000000000000000000000000000000 := by decide +kernel
  by_cases h1 : mixed xs k / 4 % 32 = 3 <;> by_cases h2 : mixed xs k / 51200 % 8 = 1
  · obtain ⟨res, e1, e2, e3⟩ := hcomp (.int (mixed xs k)) (.int (cellAt xs (k % if ((xs.length : Nat) : Int) > 1 then ((xs.length : Nat) : Int) else 1) % 10 ^ 60)) (mixed xs k / 128 % 100) (by omega) (by omega)
    simp [F_l_thing_by, hm, hc, h1, h2, hmx] at e1 ⊢
    rw [e1]
    exact ⟨_, rfl, _, res, rfl, by omega, e3⟩
  · obtain ⟨res, e1, e2, e3⟩ := hcomp (.int (mixed xs k)) (.int (mixed xs k / 12800 % 4)) (mixed xs k / 128 % 100) (by omega) (by omega)
    simp [F_l_thing_by, hm, hc, h1, h2, hmx] at e1 ⊢
    rw [e1]
    exact ⟨_, rfl, _, res, rfl, by omega, e3⟩
  · obtain ⟨res, e1, e2, e3⟩ := hcomp (.int (mixed xs k)) (.int (cellAt xs (k % if ((xs.length : Nat) : Int) > 1 then ((xs.length : Nat) : Int) else 1) % 10 ^ 60)) (mixed xs k % 4) (by omega) (by omega)
    simp [F_l_thing_by, hm, hc, h1, h2, hmx] at e1 ⊢
    rw [e1]
    exact ⟨_, rfl, _, res, rfl, by omega, e3⟩
  · obtain ⟨res, e1, e2, e3⟩ := hcomp (.int (mixed xs k)) (.int (mixed xs k / 12800 % 4)) (mixed xs k % 4) (by omega) (by omega)
    simp [F_l_thing_by, hm, hc, h1, h2, hmx] at e1 ⊢
    rw [e1]
    exact ⟨_, rfl, _, res, rfl, by omega, e3⟩

/-! the book -/
noncomputable def isYoung : D → Bool
  | .tup (.str s :: _) => s == wY
  | _ => false
noncomputable def fieldsOf : D → List D
  | .tup [_, .tup vs] => vs
  | _ => []
noncomputable def pairsAt (p : Nat) (vs : List D) : List D := (vs.zipIdx.filter fun q => isYoung q.1).map fun q => .tup [.int p, .int (q.2 : Nat)]
noncomputable def bookOf (o : List D) : List D := (o.zipIdx.map fun q => pairsAt q.2 (fieldsOf q.1)).flatten

theorem take_snoc {α : Type} {l : List α} {j : Nat} {a : α} (h : l[j]? = some a) : l.take (j + 1) = l.take j ++ [a] := by
  rw [List.take_add_one, h]; rfl
theorem pairsAt_len (p : Nat) (vs : List D) : (pairsAt p vs).length ≤ vs.length := by
  unfold pairsAt
  rw [List.length_map]
  exact Nat.le_trans (List.length_filter_le _ _) (by simp)
noncomputable def pairsTo (p : Nat) (vs : List D) (j : Nat) : List D := ((vs.zipIdx.take j).filter fun q => isYoung q.1).map fun q => .tup [.int p, .int (q.2 : Nat)]
noncomputable def bookTo (o : List D) (i : Nat) : List D := ((o.zipIdx.take i).map fun q => pairsAt q.2 (fieldsOf q.1)).flatten
theorem pairsTo_all (p : Nat) (vs : List D) : pairsTo p vs vs.length = pairsAt p vs := by
  unfold pairsTo pairsAt; rw [List.take_of_length_le (by simp)]
theorem bookTo_all (o : List D) : bookTo o o.length = bookOf o := by
  unfold bookTo bookOf; rw [List.take_of_length_le (by simp)]
theorem pairsTo_succ {p : Nat} {vs : List D} {j : Nat} {v : D} (h : vs[j]? = some v) : pairsTo p vs (j + 1) = pairsTo p vs j ++ (if isYoung v then [.tup [.int p, .int (j : Nat)]] else []) := by
  unfold pairsTo
  rw [take_snoc (zipIdx_get h), List.filter_append, List.map_append]
  congr 1
  by_cases q : isYoung v = true <;> simp [q]
theorem bookTo_succ {o : List D} {i : Nat} {t : D} (h : o[i]? = some t) : bookTo o (i + 1) = bookTo o i ++ pairsAt i (fieldsOf t) := by
  unfold bookTo
  rw [take_snoc (zipIdx_get h), List.map_append, List.flatten_append]
  simp
theorem pairsTo_len (p : Nat) (vs : List D) (j : Nat) : (pairsTo p vs j).length ≤ j := by
  unfold pairsTo
  rw [List.length_map]
  refine Nat.le_trans (List.length_filter_le _ _) ?_
  rw [List.length_take]; omega
theorem pair_pure (a b : Int) : D.pure (.tup [.int a, .int b]) = true := rfl
theorem pairsTo_pures (p : Nat) (vs : List D) (j : Nat) : D.pures (pairsTo p vs j) = true := by
  unfold pairsTo
  simp only [D.pures, List.all_map, List.all_eq_true]
  intro x _; rfl
theorem pairsAt_pures (p : Nat) (vs : List D) : D.pures (pairsAt p vs) = true := by rw [← pairsTo_all]; exact pairsTo_pures _ _ _
theorem bookTo_pures (o : List D) (i : Nat) : D.pures (bookTo o i) = true := by
  unfold bookTo
  simp only [D.pures, List.all_flatten, List.all_map, List.all_eq_true]
  intro x _
  exact pairsAt_pures _ _
theorem bookTo_len {m : Nat} {b : Bd} {o : List D} (h : ∀ t ∈ o, okTm m b t) : ∀ i, i ≤ o.length → (bookTo o i).length ≤ i * m
  | 0, _ => by simp [bookTo]
  | i + 1, hi => by
    have ht : o[i]? = some o[i] := List.getElem?_eq_getElem (by omega)
    rw [bookTo_succ ht, List.length_append]
    have := bookTo_len h i (by omega)
    have h2 := pairsAt_len i (fieldsOf o[i])
    obtain ⟨a, vs, e, hl, _⟩ := h o[i] (List.getElem_mem _)
    rw [e] at h2 ⊢
    simp only [fieldsOf] at h2 ⊢
    rw [Nat.add_mul]; omega

theorem okV_young {b : Bd} {v : D} (h : okV b v) : (∃ i, v = .tup [.str wY, .int i]) ∧ isYoung v = true ∨ isYoung v = false := by
  rcases h with rfl | ⟨i, rfl⟩ | ⟨s, i, hs, _, rfl⟩
  · exact .inr rfl
  · exact .inr rfl
  · rcases hs with rfl | rfl
    · exact .inl ⟨⟨i, rfl⟩, YY⟩
    · exact .inr OY

theorem rho_lbook_of (a : D) : rho0 F_l_book_of.names F_l_book_of.ps [a] = [some (.arg a), none, none, none, none, none, none, none, none] := by kernel_rfl
include C in
theorem r_lbook_of {b : Bd} {o : List D} (ho : ∀ t ∈ o, okT b t) (hl : o.length ≤ 100) : run keep P (n + 1) 4 [.tup o] = some (.ok (.tup (bookOf o))) := by
  rw [run_at C.c4, fnRun_eq rfl, rho_lbook_of]
  have outer : ∃ ρ', loopO (fun d ρ => exs (run keep P n) (ρ.set 2 (some (.dat d))) B_l_book_of_2) (rangeD 0 (o.length : Int)) [some (.arg (.tup o)), some (.own []), none, none, none, none, none, none, none] = some (.next ρ') ∧
      ∃ c d e, ρ' = [some (.arg (.tup o)), some (.own (bookTo o (0 + (rangeD 0 (o.length : Int)).length))), c, d, e, none, none, none, none] := by
    refine loop_inv (fun i ρ => ∃ c d e, ρ = [some (.arg (.tup o)), some (.own (bookTo o i)), c, d, e, none, none, none, none]) _ 0 _ ⟨_, _, _, rfl⟩ ?_
    rintro i d ρ hd ⟨c, d', e, rfl⟩
    obtain ⟨rfl, hi⟩ := rangeD_some hd
    rw [Nat.zero_add]
    have hi' : i < o.length := by omega
    have hoi : o[i]? = some o[i] := List.getElem?_eq_getElem hi'
    obtain ⟨a, vs, et, hvl, hvs⟩ := ho o[i] (List.getElem_mem _)
    have hb0 := bookTo_len ho i (by omega)
    have inner : ∃ ρ', loopO (fun d ρ => exs (run keep P n) (ρ.set 3 (some (.dat d))) B_l_book_of_1) (rangeD 0 (vs.length : Int)) [some (.arg (.tup o)), some (.own (bookTo o i)), some (.dat (.int i)), d', e, none, none, none, none] = some (.next ρ') ∧
        ∃ d e, ρ' = [some (.arg (.tup o)), some (.own (bookTo o i ++ pairsTo i vs (0 + (rangeD 0 (vs.length : Int)).length))), some (.dat (.int i)), d, e, none, none, none, none] := by
      refine loop_inv (fun j ρ => ∃ d e, ρ = [some (.arg (.tup o)), some (.own (bookTo o i ++ pairsTo i vs j)), some (.dat (.int i)), d, e, none, none, none, none]) _ 0 _ ⟨d', e, by simp [pairsTo]⟩ ?_
      rintro j d ρ hd ⟨d'', e'', rfl⟩
      obtain ⟨rfl, hj⟩ := rangeD_some hd
      rw [Nat.zero_add]
      have hj' : j < vs.length := by omega
      have hvj : vs[j]? = some vs[j] := List.getElem?_eq_getElem hj'
      have hp := pairsTo_len i vs j
      have hv := hvs vs[j] (List.getElem_mem _)
      have hpu := hv.pure
      have hlen : (bookTo o i).length + (pairsTo i vs j).length < lim := by
        rw [lim_n]
        have : i * 101 ≤ 100 * 101 := Nat.mul_le_mul_right _ (by omega)
        omega
      rw [pairsTo_succ hvj]
      rcases okV_young hv with ⟨⟨z, hz⟩, hy⟩ | hy
      · refine ⟨_, .inl ?_, some (.dat (.int j)), some (.dat vs[j]), rfl⟩
        rw [hz] at hvj hy
        simp [B_l_book_of_1, hoi, et, hvj, hz, hy, appR, hlen, YY, D.pure, D.okN]
      · refine ⟨_, .inl ?_, some (.dat (.int j)), some (.dat vs[j]), rfl⟩
        rcases hv with hz | ⟨z, hz⟩ | ⟨w, z, hw, _, hz⟩
        · rw [hz] at hvj hy; simp [B_l_book_of_1, hoi, et, hvj, hz, hy]
        · rw [hz] at hvj hy; simp [B_l_book_of_1, hoi, et, hvj, hz, hy]
        · have hw' : (w == wY) = false := by rw [hz] at hy; exact hy
          rw [hz] at hvj hy
          simp [B_l_book_of_1, hoi, et, hvj, hz, hy, hw', D.pure, D.okN]
    obtain ⟨ρ1, l1, d1, e1, hρ⟩ := inner
    refine ⟨ρ1, .inl ?_, some (.dat (.int i)), d1, e1, ?_⟩
    · unfold B_l_book_of_2
      rw [exs_cons, ex_for_range (m := (vs.length : Int)) (by simp [hoi, et]) (by omega) (by omega)]
      simp only [List.set_cons_succ, List.set_cons_zero]
      rw [l1]; simp
    · rw [hρ, rangeD_len, Int.toNat_natCast, Nat.zero_add, pairsTo_all, bookTo_succ hoi, et]; rfl
  obtain ⟨ρ1, l1, c1, d1, e1, hρ⟩ := outer
  unfold F_l_book_of
  simp only [exs_cons, ex_ownD, evs_nil, ownR_some]
  rw [if_pos (show D.pures [] = true from rfl), seqR_next]
  simp only [List.set_cons_succ, List.set_cons_zero]
  rw [exs_cons, ex_for_range (m := (o.length : Int)) (by simp) (by omega) (by omega)]
  rw [l1, hρ, rangeD_len, Int.toNat_natCast, Nat.zero_add, bookTo_all]
  simp
end
end Mine

namespace Mine
open PySem

section
variable {keep : Bool} {P : Prg} (C : Common P) {n : Nat} {xs : List Int} {k : Int}

theorem rho_next (a b c : D) : rho0 F_l_next.names F_l_next.ps [a, b, c] = [some (.arg a), some (.arg b), some (.arg c), none, none, none] := by kernel_rfl
include C in
theorem r_next {s0 s1 s2 : Int} {w : Str} (hw : w = wY ∨ w = wO) (hk : 0 ≤ k) : ∃ v, run keep P (n + 1) 5 [.str w, .int k, szs s0 s1 s2] = some (.ok v) ∧ okV (inB s0 s1) v := by
  rw [run_at C.c5, fnRun_eq rfl, rho_next]
  have e1 : Int.toNat 1 = 1 := rfl
  rcases hw with rfl | rfl
  · by_cases h1 : k < s1
    · refine ⟨.tup [.str wO, .int k], ?_, .inr (.inr ⟨wO, k, .inr rfl, ⟨hk, by rw [if_neg OneY]; exact h1⟩, rfl⟩)⟩
      simp [F_l_next, szs, YY, YO, OO, h1]
    · by_cases h2 : k + 1 < s0
      · refine ⟨.tup [.str wY, .int (k + 1)], ?_, .inr (.inr ⟨wY, k + 1, .inl rfl, ⟨by omega, by rw [if_pos rfl]; exact h2⟩, rfl⟩)⟩
        simp [F_l_next, szs, YY, YO, OO, h1, h2]
      · refine ⟨.int 7, ?_, .inr (.inl ⟨_, rfl⟩)⟩
        simp [F_l_next, szs, YY, YO, OO, h1, h2]
  · by_cases h1 : k + 1 < s0
    · refine ⟨.tup [.str wY, .int (k + 1)], ?_, .inr (.inr ⟨wY, k + 1, .inl rfl, ⟨by omega, by rw [if_pos rfl]; exact h1⟩, rfl⟩)⟩
      simp [F_l_next, szs, OY, OO, YO, h1]
    · by_cases h2 : k + 1 < s1
      · refine ⟨.tup [.str wO, .int (k + 1)], ?_, .inr (.inr ⟨wO, k + 1, .inr rfl, ⟨by omega, by rw [if_neg OneY]; exact h2⟩, rfl⟩)⟩
        simp [F_l_next, szs, OY, OO, YO, h1, h2]
      · refine ⟨.int 7, ?_, .inr (.inl ⟨_, rfl⟩)⟩
        simp [F_l_next, szs, OY, OO, YO, h1, h2]

theorem rho_chained (a b c : D) : rho0 F_l_chained.names F_l_chained.ps [a, b, c] = [some (.arg a), some (.arg b), some (.arg c), none, none, none, none, none, none] := by kernel_rfl
include C in
theorem r_chained {s0 s1 s2 : Int} {w : Str} (hw : w = wY ∨ w = wO) {h : List D} (hh : ∀ t ∈ h, okTm 99 (inB s0 s1) t) (hl : h.length ≤ 70) :
    ∃ h', run keep P (n + 2) 6 [.tup h, .str w, szs s0 s1 s2] = some (.ok (.tup h')) ∧ h'.length = h.length ∧ ∀ t ∈ h', okTm 100 (inB s0 s1) t := by
  rw [run_at C.c6, fnRun_eq rfl, rho_chained]
  have lp : ∃ ρ', loopO (fun d ρ => exs (run keep P (n + 1)) (ρ.set 4 (some (.dat d))) B_l_chained_1) (rangeD 0 (h.length : Int)) [some (.arg (.tup h)), some (.arg (.str w)), some (.arg (szs s0 s1 s2)), some (.own []), none, none, none, none, none] = some (.next ρ') ∧
      ∃ rows e, ρ' = [some (.arg (.tup h)), some (.arg (.str w)), some (.arg (szs s0 s1 s2)), some (.own rows), e, none, none, none, none] ∧ rows.length = 0 + (rangeD 0 (h.length : Int)).length ∧ ∀ t ∈ rows, okTm 100 (inB s0 s1) t := by
    refine loop_inv (fun j ρ => ∃ rows e, ρ = [some (.arg (.tup h)), some (.arg (.str w)), some (.arg (szs s0 s1 s2)), some (.own rows), e, none, none, none, none] ∧ rows.length = j ∧ ∀ t ∈ rows, okTm 100 (inB s0 s1) t) _ 0 _ ⟨[], none, rfl, rfl, fun t ht => by cases ht⟩ ?_
    rintro j d ρ hd ⟨rows, e, rfl, hrl, hrows⟩
    obtain ⟨rfl, hj⟩ := rangeD_some hd
    have hj' : j < h.length := by omega
    have hhj : h[j]? = some h[j] := List.getElem?_eq_getElem hj'
    obtain ⟨a, vs, et, hvl, hvs⟩ := hh h[j] (List.getElem_mem _)
    obtain ⟨v, hv1, hv2⟩ := r_next (keep := keep) C (n := n) (s0 := s0) (s1 := s1) (s2 := s2) hw (k := (j : Int)) (by omega)
    have okn : okTm 100 (inB s0 s1) (.tup [.int a, .tup (vs ++ [v])]) := ⟨a, vs ++ [v], rfl, by simp; omega, fun x hx => by
      rcases List.mem_append.mp hx with q | q
      · exact hvs x q
      · rw [List.mem_singleton.mp q]; exact hv2⟩
    have hlim : vs.length + 1 ≤ lim := by rw [lim_n]; omega
    have hlim2 : rows.length < lim := by rw [lim_n]; omega
    refine ⟨_, .inl ?_, rows ++ [.tup [.int a, .tup (vs ++ [v])]], some (.dat (.int j)), rfl, by simp [hrl], fun t ht => ?_⟩
    · simp [B_l_chained_1, hhj, et, hv1, appR, hlim, hlim2, okn.pure]
    · rcases List.mem_append.mp ht with q | q
      · exact hrows t q
      · rw [List.mem_singleton.mp q]; exact okn
  obtain ⟨ρ1, l1, rows, e, hρ, hrl, hrows⟩ := lp
  refine ⟨rows, ?_, by rw [hrl, rangeD_len]; simp, hrows⟩
  unfold F_l_chained
  simp only [exs_cons, ex_ownD, evs_nil, ownR_some]
  rw [if_pos (show D.pures [] = true from rfl), seqR_next]
  simp only [List.set_cons_succ, List.set_cons_zero]
  rw [exs_cons, ex_for_range (m := (h.length : Int)) (by simp) (by omega) (by omega)]
  rw [l1, hρ]
  simp
end

structure HeapOk (b : Bd) (y o r : List D) : Prop where
  yl : y.length ≤ 70
  ol : o.length ≤ 70
  rl : r.length ≤ 71
  ty : ∀ t ∈ y, okTm 100 b t
  to : ∀ t ∈ o, okTm 100 b t
  vr : ∀ v ∈ r, okV b v
theorem okTm.le {m m' : Nat} {b : Bd} {t : D} (h : okTm m b t) (hm : m ≤ m') : okTm m' b t := by
  obtain ⟨a, vs, e, l, v⟩ := h; exact ⟨a, vs, e, by omega, v⟩
theorem okV.le {b b' : Bd} {v : D} (h : okV b v) (hb : ∀ s i, b s i → b' s i) : okV b' v := by
  rcases h with h | h | ⟨s, i, h1, h2, h3⟩
  · exact .inl h
  · exact .inr (.inl h)
  · exact .inr (.inr ⟨s, i, h1, hb _ _ h2, h3⟩)
theorem okTm.leB {m : Nat} {b b' : Bd} {t : D} (h : okTm m b t) (hb : ∀ s i, b s i → b' s i) : okTm m b' t := by
  obtain ⟨a, vs, e, l, v⟩ := h; exact ⟨a, vs, e, l, fun x hx => (v x hx).le hb⟩

section
variable {keep : Bool} {P : Prg} (C : Common P) {n : Nat} {xs : List Int} {k : Int}
theorem rho_heap_by (a : D) : rho0 F_l_heap_by.names F_l_heap_by.ps [a] = [some (.arg a), none, none, none, none, none, none, none, none, none, none] := by kernel_rfl

include C in
theorem comp_things {s0 s1 s2 : Int} (Z : Sz s0 s1 s2) {el : E} {ρ : Rho} {m off : Int} {it : E} (hm : 0 ≤ m ∧ m ≤ 70) (hoff : 0 ≤ off) (hit : ev (run keep P (n + 3)) ρ it = some (.int m))
    (hel : ∀ j : Nat, ev (run keep P (n + 3)) (ρ ++ [some (.dat (.int j))]) el = okR (run keep P (n + 3) 3 [scr xs, .int (off + 100 * j), szs s0 s1 s2])) :
    ∃ res, ev (run keep P (n + 3)) ρ (.comp el (.range it) (.k (.bool true))) = some (.lst res) ∧ res.length = m.toNat ∧ ∀ t ∈ res, okTm 99 (inB s0 s1) t := by
  obtain ⟨res, e1, e2, e3⟩ := comp_all (c := fun d => (ev (run keep P (n + 3)) (ρ ++ [some (.dat d)]) (.k (.bool true))).bind isTrueD) (f := fun d => ev (run keep P (n + 3)) (ρ ++ [some (.dat d)]) el) (fun _ v => okTm 99 (inB s0 s1) v) (rangeD 0 m) (fun d hd => by
    obtain ⟨j, rfl, hj⟩ := rangeD_mem hd
    refine ⟨by simp [isTrueD], ?_⟩
    obtain ⟨v, hv1, hv2⟩ := r_thing_by (keep := keep) C (n := n) (xs := xs) (k := off + 100 * j) Z (by omega)
    exact ⟨v, by rw [hel, hv1]; rfl, hv2⟩)
  have hok : ∀ v ∈ res, okTm 99 (inB s0 s1) v := fun v hv => (e3 v hv).elim fun _ q => q.2
  exact ⟨res, ev_comp (evIt_range hit (by omega) (by omega)) e1 (okTs.pures hok), by rw [e2, rangeD_len], hok⟩
include C in
theorem comp_values {s0 s1 s2 : Int} (Z : Sz s0 s1 s2) {el : E} {ρ : Rho} {m off : Int} {it : E} (hm : 0 ≤ m ∧ m ≤ 70) (hoff : 0 ≤ off) (hit : ev (run keep P (n + 2)) ρ it = some (.int m))
    (hel : ∀ j : Nat, ev (run keep P (n + 2)) (ρ ++ [some (.dat (.int j))]) el = okR (run keep P (n + 2) 2 [scr xs, .int (off + j), szs s0 s1 s2])) :
    ∃ res, ev (run keep P (n + 2)) ρ (.comp el (.range it) (.k (.bool true))) = some (.lst res) ∧ res.length = m.toNat ∧ ∀ t ∈ res, okV (inB s0 s1) t := by
  obtain ⟨res, e1, e2, e3⟩ := comp_all (c := fun d => (ev (run keep P (n + 2)) (ρ ++ [some (.dat d)]) (.k (.bool true))).bind isTrueD) (f := fun d => ev (run keep P (n + 2)) (ρ ++ [some (.dat d)]) el) (fun _ v => okV (inB s0 s1) v) (rangeD 0 m) (fun d hd => by
    obtain ⟨j, rfl, hj⟩ := rangeD_mem hd
    refine ⟨by simp [isTrueD], ?_⟩
    obtain ⟨v, hv1, hv2⟩ := r_value_by (keep := keep) C (n := n) (xs := xs) (k := off + j) Z (by omega)
    exact ⟨v, by rw [hel, hv1]; rfl, hv2⟩)
  have hok : ∀ v ∈ res, okV (inB s0 s1) v := fun v hv => (e3 v hv).elim fun _ q => q.2
  exact ⟨res, ev_comp (evIt_range hit (by omega) (by omega)) e1 (okVs.pures hok), by rw [e2, rangeD_len], hok⟩

include C in
theorem r_heap_by : ∃ y o r, run keep P (n + 4) 7 [scr xs] = some (.ok (.tup [.tup y, .tup o, .tup r, .tup (bookOf o)])) ∧ HeapOk (inB y.length o.length) y o r := by
  rw [run_at C.c7, fnRun_eq rfl, rho_heap_by]
  have c0 := r_cell_at (keep := keep) C (n := n + 2) (xs := xs) (k := 0) (by omega)
  have c1 := r_cell_at (keep := keep) C (n := n + 2) (xs := xs) (k := 1) (by omega)
  have c2 := r_cell_at (keep := keep) C (n := n + 2) (xs := xs) (k := 2) (by omega)
  have lp : ∃ ρ', loopO (fun d ρ => exs (run keep P (n + 3)) (ρ.set 2 (some (.dat d))) B_l_heap_by_1) (rangeD 0 3) [some (.arg (scr xs)), some (.own [.int (cellAt xs 0 % 6), .int (cellAt xs 1 % 6), .int (cellAt xs 2 % 5)]), none, none, none, none, none, none, none, none, none] = some (.next ρ') ∧
      ∃ s0 s1 s2 e, ρ' = [some (.arg (scr xs)), some (.own [.int s0, .int s1, .int s2]), e, none, none, none, none, none, none, none, none] ∧ Sz s0 s1 s2 := by
    refine loop_inv (fun j ρ => ∃ s0 s1 s2 e, ρ = [some (.arg (scr xs)), some (.own [.int s0, .int s1, .int s2]), e, none, none, none, none, none, none, none, none] ∧ Sz s0 s1 s2) _ 0 _ ⟨_, _, _, _, rfl, ⟨by omega, by omega, by omega, by omega, by omega, by omega⟩⟩ ?_
    rintro j d ρ hd ⟨s0, s1, s2, e, rfl, Z⟩
    obtain ⟨rfl, hj⟩ := rangeD_some hd
    have cj := r_cell_at (keep := keep) C (n := n + 2) (xs := xs) (k := (j : Int)) (by omega)
    by_cases h : cellAt xs j / 6 % 6 = 1
    · have hr : 0 ≤ cellAt xs j * 48271 % 2147483647 % 71 ∧ cellAt xs j * 48271 % 2147483647 % 71 ≤ 70 := by omega
      have hj3 : j = 0 ∨ j = 1 ∨ j = 2 := by omega
      rcases hj3 with rfl | rfl | rfl
      · exact ⟨_, .inl (by simp [B_l_heap_by_1] at cj h ⊢; simp [cj, h, setR]; rfl), _, s1, s2, _, rfl, ⟨hr.1, hr.2, Z.b0, Z.b1, Z.c0, Z.c1⟩⟩
      · exact ⟨_, .inl (by simp [B_l_heap_by_1] at cj h ⊢; simp [cj, h, setR]; rfl), s0, _, s2, _, rfl, ⟨Z.a0, Z.a1, hr.1, hr.2, Z.c0, Z.c1⟩⟩
      · exact ⟨_, .inl (by simp [B_l_heap_by_1] at cj h ⊢; simp [cj, h, setR]; rfl), s0, s1, _, _, rfl, ⟨Z.a0, Z.a1, Z.b0, Z.b1, hr.1, hr.2⟩⟩
    · exact ⟨_, .inl (by simp [B_l_heap_by_1, cj, h]), s0, s1, s2, some (.dat (.int j)), rfl, Z⟩
  obtain ⟨ρ1, l1, s0, s1, s2, e, hρ, Z⟩ := lp
  subst hρ
  obtain ⟨y, y1, y2, y3⟩ := comp_things (keep := keep) C (n := n) (xs := xs) Z (el := C_l_heap_by_2) (ρ := [some (.arg (scr xs)), some (.own [.int s0, .int s1, .int s2]), e, none, none, none, none, none, none, none, none]) (m := s0) (off := 0) (it := .idx (.v 1) (.k (.int 0))) ⟨Z.a0, Z.a1⟩ (by omega) (by simp) (by intro j; simp [C_l_heap_by_2, szs])
  obtain ⟨o, o1, o2, o3⟩ := comp_things (keep := keep) C (n := n) (xs := xs) Z (el := C_l_heap_by_3) (ρ := [some (.arg (scr xs)), some (.own [.int s0, .int s1, .int s2]), e, some (.dat (.tup y)), none, none, none, none, none, none, none]) (m := s1) (off := 10000) (it := .idx (.v 1) (.k (.int 1))) ⟨Z.b0, Z.b1⟩ (by omega) (by simp) (by intro j; simp [C_l_heap_by_3, szs])
  obtain ⟨r, r1, r2, r3⟩ := comp_values (keep := keep) C (n := n + 1) (xs := xs) Z (el := C_l_heap_by_4) (ρ := [some (.arg (scr xs)), some (.own [.int s0, .int s1, .int s2]), e, some (.dat (.tup y)), some (.dat (.tup o)), none, none, none, none, none, none]) (m := s2) (off := 20000) (it := .idx (.v 1) (.k (.int 2))) ⟨Z.c0, Z.c1⟩ (by omega) (by simp) (by intro j; simp [C_l_heap_by_4, szs])
  have yl : (y.length : Int) = s0 := by rw [y2]; exact Int.toNat_of_nonneg Z.a0
  have ol : (o.length : Int) = s1 := by rw [o2]; exact Int.toNat_of_nonneg Z.b0
  have rl : (r.length : Int) = s2 := by rw [r2]; exact Int.toNat_of_nonneg Z.c0
  have a0 := Z.a1; have b0 := Z.b1; have d0 := Z.c1
  have yp := okTs.tup y3
  have op := okTs.tup o3
  have rp := okVs.tup r3
  have start : ∀ b : Ss, exs (run keep P (n + 3)) [some (.arg (scr xs)), none, none, none, none, none, none, none, none, none, none] (.cons (.ownD 1 (.cons (.bin .mod (.call 0 (.cons (.v 0) (.cons (.k (.int (0))) .nil))) (.k (.int (6)))) (.cons (.bin .mod (.call 0 (.cons (.v 0) (.cons (.k (.int (1))) .nil))) (.k (.int (6)))) (.cons (.bin .mod (.call 0 (.cons (.v 0) (.cons (.k (.int (2))) .nil))) (.k (.int (5)))) .nil)))) (.cons (.for1 2 (.range (.k (.int 3))) B_l_heap_by_1) b)) =
      exs (run keep P (n + 3)) [some (.arg (scr xs)), some (.own [.int s0, .int s1, .int s2]), e, none, none, none, none, none, none, none, none] b := by
    intro b
    rw [exs_cons]
    simp only [ex_ownD, evs_cons, evs_nil, ev_bin, ev_call, ev_v, ev_k, get_0, Option.map_some, val_a, k_some, Option.bind_some, c0, c1, c2, okR_ok, b_mod]
    simp only [Int.reduceLT, if_true, k_some, ownR_some]
    rw [if_pos (show D.pures [D.int _, D.int _, D.int _] = true from rfl), seqR_next]
    simp only [List.set_cons_succ, List.set_cons_zero]
    rw [exs_cons, ex_for_range (m := 3) (by simp) (by omega) (by omega), l1, seqR_next]
  have book : ∀ o' : List D, (∀ t ∈ o', okTm 100 (inB s0 s1) t) → o'.length ≤ 70 → run keep P (n + 3) 4 [.tup o'] = some (.ok (.tup (bookOf o'))) := fun o' h1 h2 => r_lbook_of (keep := keep) C (n := n + 2) (b := inB s0 s1) (fun t ht => (h1 t ht).le (by omega)) (by omega)
  have hcond : ev (run keep P (n + 3)) [some (.arg (scr xs)), some (.own [.int s0, .int s1, .int s2]), e, some (.dat (.tup y)), some (.dat (.tup o)), some (.dat (.tup r)), none, none, none, none, none] (.or (.cmp .eq (.bin .mod (.bin .div (.call 0 (.cons (.v 0) (.cons (.k (.int (2))) .nil))) (.k (.int (2556)))) (.k (.int (8)))) (.k (.int (1)))) (.cmp .eq (.bin .mod (.call 0 (.cons (.v 0) (.cons (.k (.int (2))) .nil))) (.k (.int (11)))) (.k (.int (3))))) =
      some (.bool (decide (cellAt xs 2 / 2556 % 8 = 1 ∨ cellAt xs 2 % 11 = 3))) := by
    by_cases h1 : cellAt xs 2 / 2556 % 8 = 1 <;> by_cases h2 : cellAt xs 2 % 11 = 3 <;> simp [c2, h1, h2]
  unfold F_l_heap_by
  rw [start]
  rw [exs_cons, ex_asg, ev_toTup, y1, t_lst, asgR_some, if_pos yp, seqR_next]
  simp only [List.set_cons_succ, List.set_cons_zero]
  rw [exs_cons, ex_asg, ev_toTup, o1, t_lst, asgR_some, if_pos op, seqR_next]
  simp only [List.set_cons_succ, List.set_cons_zero]
  rw [exs_cons, ex_asg, ev_toTup, r1, t_lst, asgR_some, if_pos rp, seqR_next]
  simp only [List.set_cons_succ, List.set_cons_zero]
  rw [exs_cons, ex_iff, hcond, ifS_bool]
  by_cases hc : cellAt xs 2 / 2556 % 8 = 1 ∨ cellAt xs 2 % 11 = 3
  · rw [if_pos (by simpa using hc)]
    obtain ⟨y', e1, e2, e3⟩ := r_chained (keep := keep) C (n := n + 1) (s0 := s0) (s1 := s1) (s2 := s2) (w := wY) (.inl rfl) y3 (by omega)
    obtain ⟨o', f1, f2, f3⟩ := r_chained (keep := keep) C (n := n + 1) (s0 := s0) (s1 := s1) (s2 := s2) (w := wO) (.inr rfl) o3 (by omega)
    have e1' : run keep P (n + 3) 6 [.tup y, .str (Str.ofString "young"), .lst [.int s0, .int s1, .int s2]] = some (.ok (.tup y')) := e1
    have f1' : run keep P (n + 3) 6 [.tup o, .str (Str.ofString "old"), .lst [.int s0, .int s1, .int s2]] = some (.ok (.tup o')) := f1
    have yp' := okTs.tup e3
    have op' := okTs.tup f3
    have bk := book o' f3 (by omega)
    by_cases hs : 0 < s0
    · have hr : ∀ v ∈ D.tup [.str wY, .int 0] :: r.drop 1, okV (inB s0 s1) v := fun v hv => by
        rcases List.mem_cons.mp hv with rfl | hv
        · exact .inr (.inr ⟨wY, 0, .inl rfl, ⟨by omega, by rw [if_pos rfl]; exact hs⟩, rfl⟩)
        · exact r3 v (List.mem_of_mem_drop hv)
      have hrp : D.pure (.tup (D.tup [.str (Str.ofString "young"), .int 0] :: r.drop 1)) = true := okVs.tup hr
      have hlim : 1 + (r.length - 1) ≤ lim := by rw [lim_n]; omega
      refine ⟨y', o', D.tup [.str wY, .int 0] :: r.drop 1, ?_, ⟨by omega, by omega, by simp; omega, fun t ht => ?_, fun t ht => ?_, fun t ht => ?_⟩⟩
      · rw [List.drop_one] at hrp
        simp [e1', f1', yp', op', hs, bk, hrp, hlim]
      · rw [e2, f2, yl, ol]; exact e3 t ht
      · rw [e2, f2, yl, ol]; exact f3 t ht
      · rw [e2, f2, yl, ol]; exact hr t ht
    · refine ⟨y', o', r, ?_, ⟨by omega, by omega, by omega, fun t ht => ?_, fun t ht => ?_, fun t ht => ?_⟩⟩
      · simp [e1', f1', yp', op', hs, bk]
      · rw [e2, f2, yl, ol]; exact e3 t ht
      · rw [e2, f2, yl, ol]; exact f3 t ht
      · rw [e2, f2, yl, ol]; exact r3 t ht
  · rw [if_neg (by simpa using hc)]
    have bk := book o (fun t ht => (o3 t ht).le (by omega)) (by omega)
    refine ⟨y, o, r, ?_, ⟨by omega, by omega, by omega, fun t ht => ?_, fun t ht => ?_, fun t ht => ?_⟩⟩
    · simp [bk]
    · rw [yl, ol]; exact (y3 t ht).le (by omega)
    · rw [yl, ol]; exact (o3 t ht).le (by omega)
    · rw [yl, ol]; exact r3 t ht
end
end Mine

namespace Mine
open PySem

noncomputable def heapD (y o r bk : List D) : D := .tup [.tup y, .tup o, .tup r, .tup bk]
noncomputable def bT : Bd := fun _ _ => True
noncomputable def halfOf (y o : List D) (s : Str) : List D := if s == wY then y else o
/-- does a pointer lead -/
noncomputable def lead (y o : List D) : D → Bool
  | .tup [.str s, .int i] => decide (0 ≤ i) && decide (i < (halfOf y o s).length)
  | _ => true
noncomputable def isPtr : D → Bool
  | .tup _ => true
  | _ => false

theorem okV.ptr {b : Bd} {v : D} (h : okV b v) : (isPtr v = false ∧ (v = .none ∨ ∃ i, v = .int i)) ∨ ∃ s i, (s = wY ∨ s = wO) ∧ b s i ∧ v = .tup [.str s, .int i] := by
  rcases h with rfl | ⟨i, rfl⟩ | h
  · exact .inl ⟨rfl, .inl rfl⟩
  · exact .inl ⟨rfl, .inr ⟨i, rfl⟩⟩
  · exact .inr h

section
variable {keep : Bool} {P : Prg} (C : Common P) {n : Nat}

theorem rho_is_pointer (a : D) : rho0 F_is_pointer.names F_is_pointer.ps [a] = [some (.arg a), none, none] := by kernel_rfl
include C in
theorem r_is_pointer (v : D) : run keep P (n + 1) 8 [v] = some (.ok (.bool (evIsi .tuple v))) := by
  rw [run_at C.c8, fnRun_eq rfl, rho_is_pointer]
  simp [F_is_pointer]
theorem isi_ptr (v : D) : evIsi .tuple v = isPtr v := by cases v <;> rfl

theorem rho_half_of (a b : D) : rho0 F_half_of.names F_half_of.ps [a, b] = [some (.arg a), some (.arg b)] := by kernel_rfl
include C in
theorem r_half_of {y o r bk : List D} {s : Str} {q : List D} : run keep P (n + 1) 9 [heapD y o r bk, .tup (.str s :: q)] = some (.ok (.tup (halfOf y o s))) := by
  rw [run_at C.c9, fnRun_eq rfl, rho_half_of]
  by_cases h : (s == wY) = true <;> simp [F_half_of, heapD, halfOf, h]

theorem rho_leads (a b : D) : rho0 F_leads.names F_leads.ps [a, b] = [some (.arg a), some (.arg b), none, none] := by kernel_rfl
include C in
theorem r_leads {y o r bk : List D} {s : Str} {i : Int} : run keep P (n + 2) 10 [heapD y o r bk, .tup [.str s, .int i]] = some (.ok (.bool (lead y o (.tup [.str s, .int i])))) := by
  rw [run_at C.c10, fnRun_eq rfl, rho_leads]
  have h := r_half_of (keep := keep) C (n := n) (y := y) (o := o) (r := r) (bk := bk) (s := s) (q := [.int i])
  by_cases h0 : 0 ≤ i <;> simp [F_leads, h, lead, h0]

theorem rho_lleads (a b : D) : rho0 F_l_leads.names F_l_leads.ps [a, b] = [some (.arg a), some (.arg b), none, none] := by kernel_rfl
theorem pure_half {m : Nat} {b : Bd} {y : List D} (h : ∀ t ∈ y, okTm m b t) : D.pure (.tup y) = true := okTs.tup h
theorem r_lleads {j : Nat} (hj : P[j]? = some F_l_leads) {m : Nat} {b : Bd} {y o r bk : List D} {s : Str} {i : Int} (hs : s = wY ∨ s = wO) (hy : ∀ t ∈ y, okTm m b t) (ho : ∀ t ∈ o, okTm m b t) : run keep P (n + 1) j [heapD y o r bk, .tup [.str s, .int i]] = some (.ok (.bool (lead y o (.tup [.str s, .int i])))) := by
  rw [run_at hj, fnRun_eq rfl, rho_lleads]
  have hyp := pure_half hy
  have hop := pure_half ho
  rcases hs with rfl | rfl
  · by_cases h0 : 0 ≤ i <;> simp [F_l_leads, heapD, lead, halfOf, h0, YO, YY, hyp, hop]
  · by_cases h0 : 0 ≤ i <;> simp [F_l_leads, heapD, lead, halfOf, h0, OY, OO, hyp, hop]

theorem rho_pointer_by (a b c : D) : rho0 F_l_pointer_by.names F_l_pointer_by.ps [a, b, c] = [some (.arg a), some (.arg b), some (.arg c), none, none, none, none] := by kernel_rfl
theorem r_pointer_by {j : Nat} (hj : P[j]? = some F_l_pointer_by) {m : Nat} {b : Bd} {y o r bk : List D} {c far : Int} (hy : ∀ t ∈ y, okTm m b t) (ho : ∀ t ∈ o, okTm m b t) (hyl : y.length ≤ 100) (hol : o.length ≤ 100) :
    ∃ v, run keep P (n + 1) j [.int c, heapD y o r bk, .int far] = some (.ok v) ∧ okV bT v := by
  rw [run_at hj, fnRun_eq rfl, rho_pointer_by]
  have hyp := pure_half hy
  have hop := pure_half ho
  by_cases h0 : c % 9 = 0
  · exact ⟨.none, by simp [F_l_pointer_by, h0], .inl rfl⟩
  by_cases h1 : c % 9 = 1
  · exact ⟨_, by simp [F_l_pointer_by, h0, h1]; rfl, .inr (.inl ⟨_, rfl⟩)⟩
  have key : ∀ (h : List D) (p : D), (p = .str wY ∨ p = .str wO) → D.pure (.tup h) = true → h.length ≤ 100 → (∀ v : Int, (c % 9 % 2 = 0 ∧ h = y ∧ p = .str wY) ∨ (c % 9 % 2 = 1 ∧ h = o ∧ p = .str wO)) →
      ∃ v, outR keep (exs (run keep P n) [some (.arg (.int c)), some (.arg (heapD y o r bk)), some (.arg (.int far)), none, none, none, none] F_l_pointer_by.body) = some (.ok v) ∧ okV bT v := by
    intro h p hp hpu hl hw
    have g0 : (0 : Int) < h.length + 4 := by omega
    have g1 : (h.length : Int) + 4 < 1000000000 := by omega
    by_cases hz : c / 9 % (h.length + 4) - 2 = (h.length : Int) + 1
    · have h2 : c / 9 / (h.length + 4) % 2 = 0 ∨ c / 9 / (h.length + 4) % 2 = 1 := by omega
      rcases hw 0 with ⟨hw1, rfl, rfl⟩ | ⟨hw1, rfl, rfl⟩ <;> rcases h2 with h2 | h2
      · exact ⟨.tup [.str wY, .int far], by simp [F_l_pointer_by, heapD, h0, h1, hw1, hpu, g0, g1, hz, h2], .inr (.inr ⟨wY, far, .inl rfl, trivial, rfl⟩)⟩
      · exact ⟨.tup [.str wY, .int (-1 - far)], by simp [F_l_pointer_by, heapD, h0, h1, hw1, hpu, g0, g1, hz, h2], .inr (.inr ⟨wY, _, .inl rfl, trivial, rfl⟩)⟩
      · exact ⟨.tup [.str wO, .int far], by simp [F_l_pointer_by, heapD, h0, h1, hw1, hpu, g0, g1, hz, h2], .inr (.inr ⟨wO, far, .inr rfl, trivial, rfl⟩)⟩
      · exact ⟨.tup [.str wO, .int (-1 - far)], by simp [F_l_pointer_by, heapD, h0, h1, hw1, hpu, g0, g1, hz, h2], .inr (.inr ⟨wO, _, .inr rfl, trivial, rfl⟩)⟩
    · rcases hw 0 with ⟨hw1, rfl, rfl⟩ | ⟨hw1, rfl, rfl⟩
      · exact ⟨.tup [.str wY, .int (c / 9 % (h.length + 4) - 2)], by simp [F_l_pointer_by, heapD, h0, h1, hw1, hpu, g0, g1, hz], .inr (.inr ⟨wY, _, .inl rfl, trivial, rfl⟩)⟩
      · exact ⟨.tup [.str wO, .int (c / 9 % (h.length + 4) - 2)], by simp [F_l_pointer_by, heapD, h0, h1, hw1, hpu, g0, g1, hz], .inr (.inr ⟨wO, _, .inr rfl, trivial, rfl⟩)⟩
  have h2 : c % 9 % 2 = 0 ∨ c % 9 % 2 = 1 := by omega
  rcases h2 with h2 | h2
  · exact key y (.str wY) (.inl rfl) hyp hyl fun _ => .inl ⟨h2, rfl, rfl⟩
  · exact key o (.str wO) (.inr rfl) hop hol fun _ => .inr ⟨h2, rfl, rfl⟩
end
end Mine

namespace Mine
open PySem

section
variable {Φ : Fns} {ρ : Rho}
theorem ex_forE {x y : Nat} {e : E} {b : Ss} {ds : List D} (h : ev Φ ρ e = some (.tup ds)) (hp : D.pures ds = true) :
    ex Φ ρ (.forE x y e b) = loopO (fun p ρ => exs Φ ((ρ.set x (some (.dat (.int (p.2 : Nat))))).set y (some (.dat p.1))) b) ds.zipIdx ρ := by
  show (ev Φ ρ e).bind _ = _
  rw [h]; exact if_pos hp
theorem zipIdx_some {ds : List D} {j : Nat} {p : D × Nat} (h : ds.zipIdx[j]? = some p) : p.2 = j ∧ ds[j]? = some p.1 := by
  rw [List.getElem?_zipIdx] at h
  obtain ⟨d, hd, rfl⟩ := Option.map_eq_some_iff.mp h
  simp [hd]
end
noncomputable def bad (y o : List D) (v : D) : Bool := isPtr v && !lead y o v

structure Hp (y o r bk : List D) : Prop where
  yl : y.length ≤ 100
  ol : o.length ≤ 100
  rl : r.length ≤ 100
  ty : ∀ t ∈ y, okT bT t
  to : ∀ t ∈ o, okT bT t
  vr : ∀ v ∈ r, okV bT v
  bk : ∀ p ∈ bk, ∃ a b : Int, p = .tup [.int a, .int b]
theorem book_okN {bk : List D} (h : ∀ p ∈ bk, ∃ a b : Int, p = .tup [.int a, .int b]) : D.okN 2 (.tup bk) = true := by
  rw [D.okN_tup]
  refine List.all_eq_true.mpr fun p hp => ?_
  obtain ⟨a, b, rfl⟩ := h p hp; rfl
theorem things_okN {m : Nat} {b : Bd} {y : List D} (h : ∀ t ∈ y, okTm m b t) : D.okN 4 (.tup y) = true := by
  rw [D.okN_tup]; exact List.all_eq_true.mpr fun t ht => (h t ht).okN
theorem vals_okN {b : Bd} {y : List D} (h : ∀ t ∈ y, okV b t) : D.okN 2 (.tup y) = true := by
  rw [D.okN_tup]; exact List.all_eq_true.mpr fun t ht => (h t ht).okN
theorem Hp.okN {y o r bk : List D} (H : Hp y o r bk) : D.okN 5 (heapD y o r bk) = true := by
  unfold heapD
  rw [D.okN_tup]
  simp only [List.all_cons, List.all_nil, Bool.and_true, Bool.and_eq_true]
  exact ⟨things_okN H.ty, things_okN H.to, D.okN_le (by decide) (vals_okN H.vr), D.okN_le (by decide) (book_okN H.bk)⟩
theorem Hp.pure {y o r bk : List D} (H : Hp y o r bk) : D.pure (heapD y o r bk) = true := D.okN_le (by decide) H.okN
theorem bookOf_pairs (o : List D) : ∀ p ∈ bookOf o, ∃ a b : Int, p = .tup [.int a, .int b] := by
  intro p hp
  unfold bookOf at hp
  obtain ⟨l, hl, hp⟩ := List.mem_flatten.mp hp
  obtain ⟨q, _, rfl⟩ := List.mem_map.mp hl
  unfold pairsAt at hp
  obtain ⟨q', _, rfl⟩ := List.mem_map.mp hp
  exact ⟨_, _, rfl⟩

theorem lim1 {n x : Nat} (h : n ≤ 20000) (hx : x ≤ n) : x + 1 ≤ lim := by rw [lim_n]; omega
theorem lim2 {n x y : Nat} (h : n ≤ 20000) (hx : x ≤ n) (hy : y ≤ n) : x + y ≤ lim := by rw [lim_n]; omega
theorem lim12 {n x y : Nat} (h : n ≤ 20000) (hx : x ≤ n) (hy : y ≤ n) : x + 1 + y ≤ lim := by rw [lim_n]; omega
theorem lim3 {n x y z : Nat} (h : n ≤ 20000) (hx : x ≤ n) (hy : y ≤ n) (hz : z ≤ n) : x + y + z ≤ lim := by rw [lim_n]; omega
theorem lim4 {n x y z u : Nat} (h : n ≤ 20000) (hx : x ≤ n) (hy : y ≤ n) (hz : z ≤ n) (hu : u ≤ n) : x + y + (z + u) ≤ lim := by rw [lim_n]; omega
theorem mr {a n : Nat} : min a n ≤ n := Nat.min_le_right _ _
theorem ms {a b n : Nat} : min a n - b ≤ n := Nat.le_trans (Nat.sub_le _ _) mr
theorem emod_in (c : Int) {n : Nat} (h : ¬ n = 0) : 0 ≤ c % (n : Int) ∧ c % (n : Int) < n ∧ (c % (n : Int)).toNat < n := by
  have h1 := Int.emod_nonneg c (b := (n : Int)) (by omega)
  have h2 := Int.emod_lt_of_pos c (b := (n : Int)) (by omega)
  exact ⟨h1, h2, by omega⟩
theorem toNat_s {a : Int} (h : 0 ≤ a) (k : Nat) : (a + (k : Int)).toNat = a.toNat + k ∧ 0 ≤ a + (k : Int) := by omega

theorem splice_len {α : Type} {l : List α} {a : Nat} (x : α) (h : a < l.length) : (l.take a ++ x :: l.drop (a + 1)).length = l.length := by
  simp; omega
theorem splice_mem {α : Type} {l : List α} {a : Nat} {x z : α} (h : z ∈ l.take a ++ x :: l.drop (a + 1)) : z ∈ l ∨ z = x := by
  rcases List.mem_append.mp h with q | q
  · exact .inl (List.mem_of_mem_take q)
  · rcases List.mem_cons.mp q with q | q
    · exact .inr q
    · exact .inl (List.mem_of_mem_drop q)

end Mine

namespace Mine
open PySem
noncomputable def F_l_whole : Fn := ⟨[(Str.ofString "_law_found")], [((Str.ofString "_law_found"), .local), ((Str.ofString "isinstance"), .globalImplicit), ((Str.ofString "int"), .globalImplicit), ((Str.ofString "bool"), .globalImplicit)],
 (.cons (.ret (.and (.isi (.v 0) .int) (.not (.isi (.v 0) .bool))))
 .nil)⟩

noncomputable def F_l_alike : Fn := ⟨[(Str.ofString "_law_found"), (Str.ofString "_law_due")], [((Str.ofString "_law_found"), .local), ((Str.ofString "_law_due"), .local), ((Str.ofString "isinstance"), .globalImplicit), ((Str.ofString "tuple"), .globalImplicit), ((Str.ofString "_law_whole"), .globalImplicit), ((Str.ofString "len"), .globalImplicit), ((Str.ofString "str"), .globalImplicit)],
 (.cons (.iff (.cmp .is (.v 1) (.k .none))
 (.cons (.ret (.cmp .is (.v 0) (.k .none)))
 .nil)
 .nil)
 (.cons (.iff (.not (.isi (.v 1) .tuple))
 (.cons (.ret (.and (.call 13 (.cons (.v 0) .nil)) (.cmp .eq (.v 0) (.v 1))))
 .nil)
 .nil)
 (.cons (.iff (.or (.not (.isi (.v 0) .tuple)) (.or (.cmp .ne (.len (.v 0)) (.k (.int (2)))) (.not (.isi (.idx (.v 0) (.k (.int (0)))) .str))))
 (.cons (.ret (.k (.bool false)))
 .nil)
 .nil)
 (.cons (.ret (.and (.call 13 (.cons (.idx (.v 0) (.k (.int (1)))) .nil)) (.cmp .eq (.v 0) (.v 1))))
 .nil))))⟩

noncomputable def B_l_row_alike_1 : Ss :=
 (.cons (.iff (.not (.call 14 (.cons (.idx (.v 0) (.v 2)) (.cons (.idx (.v 1) (.v 2)) .nil))))
 (.cons (.ret (.k (.bool false)))
 .nil)
 .nil)
 .nil)
noncomputable def F_l_row_alike : Fn := ⟨[(Str.ofString "_law_found"), (Str.ofString "_law_due")], [((Str.ofString "_law_found"), .local), ((Str.ofString "_law_due"), .local), ((Str.ofString "_law_k"), .local), ((Str.ofString "isinstance"), .globalImplicit), ((Str.ofString "tuple"), .globalImplicit), ((Str.ofString "len"), .globalImplicit), ((Str.ofString "range"), .globalImplicit), ((Str.ofString "_law_alike"), .globalImplicit)],
 (.cons (.iff (.or (.not (.isi (.v 0) .tuple)) (.cmp .ne (.len (.v 0)) (.len (.v 1))))
 (.cons (.ret (.k (.bool false)))
 .nil)
 .nil)
 (.cons (.for1 2 (.range (.len (.v 1))) B_l_row_alike_1)
 (.cons (.ret (.k (.bool true)))
 .nil)))⟩

noncomputable def B_l_half_alike_1 : Ss :=
 (.cons (.iff (.or (.not (.isi (.idx (.v 0) (.v 2)) .tuple)) (.cmp .ne (.len (.idx (.v 0) (.v 2))) (.k (.int (2)))))
 (.cons (.ret (.k (.bool false)))
 .nil)
 .nil)
 (.cons (.iff (.or (.not (.call 13 (.cons (.idx (.idx (.v 0) (.v 2)) (.k (.int (0)))) .nil))) (.cmp .ne (.idx (.idx (.v 0) (.v 2)) (.k (.int (0)))) (.idx (.idx (.v 1) (.v 2)) (.k (.int (0))))))
 (.cons (.ret (.k (.bool false)))
 .nil)
 .nil)
 (.cons (.iff (.not (.call 15 (.cons (.idx (.idx (.v 0) (.v 2)) (.k (.int (1)))) (.cons (.idx (.idx (.v 1) (.v 2)) (.k (.int (1)))) .nil))))
 (.cons (.ret (.k (.bool false)))
 .nil)
 .nil)
 .nil)))
noncomputable def F_l_half_alike : Fn := ⟨[(Str.ofString "_law_found"), (Str.ofString "_law_due")], [((Str.ofString "_law_found"), .local), ((Str.ofString "_law_due"), .local), ((Str.ofString "_law_k"), .local), ((Str.ofString "isinstance"), .globalImplicit), ((Str.ofString "tuple"), .globalImplicit), ((Str.ofString "len"), .globalImplicit), ((Str.ofString "range"), .globalImplicit), ((Str.ofString "_law_whole"), .globalImplicit), ((Str.ofString "_law_row_alike"), .globalImplicit)],
 (.cons (.iff (.or (.not (.isi (.v 0) .tuple)) (.cmp .ne (.len (.v 0)) (.len (.v 1))))
 (.cons (.ret (.k (.bool false)))
 .nil)
 .nil)
 (.cons (.for1 2 (.range (.len (.v 1))) B_l_half_alike_1)
 (.cons (.ret (.k (.bool true)))
 .nil)))⟩

noncomputable def B_l_book_alike_1 : Ss :=
 (.cons (.iff (.or (.not (.isi (.idx (.v 0) (.v 2)) .tuple)) (.cmp .ne (.len (.idx (.v 0) (.v 2))) (.k (.int (2)))))
 (.cons (.ret (.k (.bool false)))
 .nil)
 .nil)
 (.cons (.iff (.or (.not (.call 13 (.cons (.idx (.idx (.v 0) (.v 2)) (.k (.int (0)))) .nil))) (.not (.call 13 (.cons (.idx (.idx (.v 0) (.v 2)) (.k (.int (1)))) .nil))))
 (.cons (.ret (.k (.bool false)))
 .nil)
 .nil)
 (.cons (.iff (.cmp .ne (.idx (.v 0) (.v 2)) (.idx (.v 1) (.v 2)))
 (.cons (.ret (.k (.bool false)))
 .nil)
 .nil)
 .nil)))
noncomputable def F_l_book_alike : Fn := ⟨[(Str.ofString "_law_found"), (Str.ofString "_law_due")], [((Str.ofString "_law_found"), .local), ((Str.ofString "_law_due"), .local), ((Str.ofString "_law_k"), .local), ((Str.ofString "isinstance"), .globalImplicit), ((Str.ofString "tuple"), .globalImplicit), ((Str.ofString "len"), .globalImplicit), ((Str.ofString "range"), .globalImplicit), ((Str.ofString "_law_whole"), .globalImplicit)],
 (.cons (.iff (.or (.not (.isi (.v 0) .tuple)) (.cmp .ne (.len (.v 0)) (.len (.v 1))))
 (.cons (.ret (.k (.bool false)))
 .nil)
 .nil)
 (.cons (.for1 2 (.range (.len (.v 1))) B_l_book_alike_1)
 (.cons (.ret (.k (.bool true)))
 .nil)))⟩

noncomputable def F_l_heap_alike : Fn := ⟨[(Str.ofString "_law_found"), (Str.ofString "_law_due")], [((Str.ofString "_law_found"), .local), ((Str.ofString "_law_due"), .local), ((Str.ofString "isinstance"), .globalImplicit), ((Str.ofString "tuple"), .globalImplicit), ((Str.ofString "len"), .globalImplicit), ((Str.ofString "_law_half_alike"), .globalImplicit), ((Str.ofString "_law_row_alike"), .globalImplicit), ((Str.ofString "_law_book_alike"), .globalImplicit)],
 (.cons (.iff (.or (.not (.isi (.v 0) .tuple)) (.cmp .ne (.len (.v 0)) (.k (.int (4)))))
 (.cons (.ret (.k (.bool false)))
 .nil)
 .nil)
 (.cons (.iff (.or (.not (.call 16 (.cons (.idx (.v 0) (.k (.int (0)))) (.cons (.idx (.v 1) (.k (.int (0)))) .nil)))) (.not (.call 16 (.cons (.idx (.v 0) (.k (.int (1)))) (.cons (.idx (.v 1) (.k (.int (1)))) .nil)))))
 (.cons (.ret (.k (.bool false)))
 .nil)
 .nil)
 (.cons (.ret (.and (.call 15 (.cons (.idx (.v 0) (.k (.int (2)))) (.cons (.idx (.v 1) (.k (.int (2)))) .nil))) (.call 17 (.cons (.idx (.v 0) (.k (.int (3)))) (.cons (.idx (.v 1) (.k (.int (3)))) .nil)))))
 .nil)))⟩

noncomputable def F_need_value : Fn := ⟨[(Str.ofString "heap"), (Str.ofString "value")], [((Str.ofString "heap"), .local), ((Str.ofString "value"), .local), ((Str.ofString "is_pointer"), .globalImplicit), ((Str.ofString "leads"), .globalImplicit), ((Str.ofString "NoThing"), .globalImplicit)],
 (.cons (.iff (.and (.call 8 (.cons (.v 1) .nil)) (.not (.call 10 (.cons (.v 0) (.cons (.v 1) .nil)))))
 (.cons (.rais 1)
 .nil)
 .nil)
 .nil)⟩

end Mine

namespace Mine
open PySem

theorem cmp_same {d : D} (hp : d.pure = true) (he : d.eqb d = true) : cmp2 .eq (some d) (some d) = some (.bool true) ∧ cmp2 .ne (some d) (some d) = some (.bool false) := by
  have h : (d.pure && d.pure) = true := by rw [hp]; rfl
  constructor
  · show ((if (d.pure && d.pure) = true then some (d.eqb d) else none).map D.bool) = _
    rw [if_pos h, he]; rfl
  · show ((if (d.pure && d.pure) = true then some (!d.eqb d) else none).map D.bool) = _
    rw [if_pos h, he]; rfl
theorem okV.same {b : Bd} {v : D} (h : okV b v) : v.eqb v = true := by
  rcases h with rfl | ⟨i, rfl⟩ | ⟨s, i, _, _, rfl⟩
  · simp [D.eqb]
  · simp [D.eqb]
  · simp [D.eqb, D.eqbs]

section
variable {keep : Bool} {P : Prg} {n : Nat} (hw : P[13]? = some F_l_whole)

theorem rho_whole (a : D) : rho0 F_l_whole.names F_l_whole.ps [a] = [some (.arg a), none, none, none] := by kernel_rfl
include hw in
theorem r_whole (i : Int) : run keep P (n + 1) 13 [.int i] = some (.ok (.bool true)) := by
  rw [run_at hw, fnRun_eq rfl, rho_whole]
  simp [F_l_whole]

variable (ha : P[14]? = some F_l_alike)
theorem rho_alike (a b : D) : rho0 F_l_alike.names F_l_alike.ps [a, b] = [some (.arg a), some (.arg b), none, none, none, none, none] := by kernel_rfl
include hw ha in
theorem r_alike {b : Bd} {v : D} (hv : okV b v) : run keep P (n + 2) 14 [v, v] = some (.ok (.bool true)) := by
  rw [run_at ha, fnRun_eq rfl, rho_alike]
  have hc := (cmp_same hv.pure hv.same).1
  rcases hv with rfl | ⟨i, rfl⟩ | ⟨s, i, _, _, rfl⟩
  · simp [F_l_alike]
  · simp [F_l_alike, r_whole hw i]
  · simp [F_l_alike, r_whole hw i, hc]

variable (hr : P[15]? = some F_l_row_alike)
theorem rho_row (a b : D) : rho0 F_l_row_alike.names F_l_row_alike.ps [a, b] = [some (.arg a), some (.arg b), none, none, none, none, none, none] := by kernel_rfl
include hw ha hr in
theorem r_row {b : Bd} {vs : List D} (hv : ∀ v ∈ vs, okV b v) (hl : vs.length ≤ 1000) : run keep P (n + 3) 15 [.tup vs, .tup vs] = some (.ok (.bool true)) := by
  rw [run_at hr, fnRun_eq rfl, rho_row]
  obtain ⟨ρ', l, _, rfl⟩ := loop_inv (body := fun d ρ => exs (run keep P (n + 2)) (ρ.set 2 (some (.dat d))) B_l_row_alike_1) (fun _ ρ => ∃ c, ρ = [some (.arg (.tup vs)), some (.arg (.tup vs)), c, none, none, none, none, none]) (rangeD 0 (vs.length : Int)) 0 _ ⟨none, rfl⟩ (by
    rintro j d ρ hd ⟨c, rfl⟩
    obtain ⟨rfl, hj⟩ := rangeD_some hd
    have hj' : j < vs.length := by omega
    have e := List.getElem?_eq_getElem hj'
    have h1 := r_alike (keep := keep) (n := n) hw ha (hv vs[j] (List.getElem_mem _))
    exact ⟨_, .inl (by simp [B_l_row_alike_1, e, h1]), some (.dat (.int j)), rfl⟩)
  unfold F_l_row_alike
  rw [exs_cons, ex_iff]
  simp only [ev_or, ev_not, ev_isi, ev_v, get_0, get_s, Option.map_some, val_a, s_isi, isi_tt, n_bool, orS_bool, ev_cmp, ev_len, l_tup, c_neI, boolR_bool, ifS_bool]
  simp only [Bool.not_true, Bool.false_eq_true, if_false, beq_self_eq_true, boolR_bool, ifS_bool, exs_nil]
  rw [seqR_next, exs_cons, ex_for_range (m := (vs.length : Int)) (by simp) (by omega) (by omega), l, seqR_next]
  simp

variable (hh : P[16]? = some F_l_half_alike)
theorem rho_half (a b : D) : rho0 F_l_half_alike.names F_l_half_alike.ps [a, b] = [some (.arg a), some (.arg b), none, none, none, none, none, none, none] := by kernel_rfl
include hw ha hr hh in
theorem r_half {m : Nat} (hm : m ≤ 1000) {b : Bd} {ts : List D} (ht : ∀ t ∈ ts, okTm m b t) (hl : ts.length ≤ 1000) : run keep P (n + 4) 16 [.tup ts, .tup ts] = some (.ok (.bool true)) := by
  rw [run_at hh, fnRun_eq rfl, rho_half]
  obtain ⟨ρ', l, _, rfl⟩ := loop_inv (body := fun d ρ => exs (run keep P (n + 3)) (ρ.set 2 (some (.dat d))) B_l_half_alike_1) (fun _ ρ => ∃ c, ρ = [some (.arg (.tup ts)), some (.arg (.tup ts)), c, none, none, none, none, none, none]) (rangeD 0 (ts.length : Int)) 0 _ ⟨none, rfl⟩ (by
    rintro j d ρ hd ⟨c, rfl⟩
    obtain ⟨rfl, hj⟩ := rangeD_some hd
    have hj' : j < ts.length := by omega
    have e := List.getElem?_eq_getElem hj'
    obtain ⟨a, us, et, hul, hus⟩ := ht ts[j] (List.getElem_mem _)
    rw [et] at e
    have h1 := r_whole (keep := keep) (n := n + 2) hw a
    have h2 := r_row (keep := keep) (n := n) hw ha hr hus (by omega)
    exact ⟨_, .inl (by simp [B_l_half_alike_1, e, h1, h2]), some (.dat (.int j)), rfl⟩)
  unfold F_l_half_alike
  rw [exs_cons, ex_iff]
  simp only [ev_or, ev_not, ev_isi, ev_v, get_0, get_s, Option.map_some, val_a, s_isi, isi_tt, n_bool, orS_bool, ev_cmp, ev_len, l_tup, c_neI, boolR_bool, ifS_bool]
  simp only [Bool.not_true, Bool.false_eq_true, if_false, beq_self_eq_true, boolR_bool, ifS_bool, exs_nil]
  rw [seqR_next, exs_cons, ex_for_range (m := (ts.length : Int)) (by simp) (by omega) (by omega), l, seqR_next]
  simp

variable (hb : P[17]? = some F_l_book_alike)
theorem rho_book (a b : D) : rho0 F_l_book_alike.names F_l_book_alike.ps [a, b] = [some (.arg a), some (.arg b), none, none, none, none, none, none] := by kernel_rfl
include hw hb in
theorem r_book {bk : List D} (ht : ∀ p ∈ bk, ∃ a b : Int, p = .tup [.int a, .int b]) (hl : bk.length ≤ 20000) : run keep P (n + 2) 17 [.tup bk, .tup bk] = some (.ok (.bool true)) := by
  rw [run_at hb, fnRun_eq rfl, rho_book]
  obtain ⟨ρ', l, _, rfl⟩ := loop_inv (body := fun d ρ => exs (run keep P (n + 1)) (ρ.set 2 (some (.dat d))) B_l_book_alike_1) (fun _ ρ => ∃ c, ρ = [some (.arg (.tup bk)), some (.arg (.tup bk)), c, none, none, none, none, none]) (rangeD 0 (bk.length : Int)) 0 _ ⟨none, rfl⟩ (by
    rintro j d ρ hd ⟨c, rfl⟩
    obtain ⟨rfl, hj⟩ := rangeD_some hd
    have hj' : j < bk.length := by omega
    have e := List.getElem?_eq_getElem hj'
    obtain ⟨a, b, ep⟩ := ht bk[j] (List.getElem_mem _)
    rw [ep] at e
    have h1 := r_whole (keep := keep) (n := n) hw a
    have h2 := r_whole (keep := keep) (n := n) hw b
    have h3 := (cmp_same (d := .tup [.int a, .int b]) rfl (by simp [D.eqb, D.eqbs])).2
    exact ⟨_, .inl (by simp [B_l_book_alike_1, e, h1, h2, h3]), some (.dat (.int j)), rfl⟩)
  unfold F_l_book_alike
  rw [exs_cons, ex_iff]
  simp only [ev_or, ev_not, ev_isi, ev_v, get_0, get_s, Option.map_some, val_a, s_isi, isi_tt, n_bool, orS_bool, ev_cmp, ev_len, l_tup, c_neI, boolR_bool, ifS_bool]
  simp only [Bool.not_true, Bool.false_eq_true, if_false, beq_self_eq_true, boolR_bool, ifS_bool, exs_nil]
  rw [seqR_next, exs_cons, ex_for_range (m := (bk.length : Int)) (by simp) (by omega) (by omega), l, seqR_next]
  simp

variable (hp : P[18]? = some F_l_heap_alike)
theorem rho_halike (a b : D) : rho0 F_l_heap_alike.names F_l_heap_alike.ps [a, b] = [some (.arg a), some (.arg b), none, none, none, none, none, none] := by kernel_rfl
include hw ha hr hh hb hp in
theorem r_heap_alike {y o r bk : List D} (H : Hp y o r bk) (hbl : bk.length ≤ 20000) : run keep P (n + 5) 18 [heapD y o r bk, heapD y o r bk] = some (.ok (.bool true)) := by
  rw [run_at hp, fnRun_eq rfl, rho_halike]
  have h1 := r_half (keep := keep) (n := n) hw ha hr hh (by decide) H.ty (Nat.le_trans H.yl (by decide))
  have h2 := r_half (keep := keep) (n := n) hw ha hr hh (by decide) H.to (Nat.le_trans H.ol (by decide))
  have h3 := r_row (keep := keep) (n := n + 1) hw ha hr H.vr (Nat.le_trans H.rl (by decide))
  have h4 := r_book (keep := keep) (n := n + 2) hw hb H.bk hbl
  simp [F_l_heap_alike, heapD, h1, h2, h3, h4]
end

section
variable {P : Prg} (C : Common P) {n : Nat}
theorem rho_need (a b : D) : rho0 F_need_value.names F_need_value.ps [a, b] = [some (.arg a), some (.arg b), none, none, none] := by kernel_rfl
include C in
theorem r_need (hn : P[19]? = some F_need_value) {b : Bd} {y o r bk : List D} {v : D} (hv : okV b v) : run true P (n + 3) 19 [heapD y o r bk, v] = some (if bad y o v = true then .err 1 else .ok .none) := by
  rw [run_at hn, fnRun_eq rfl, rho_need]
  have hip := r_is_pointer (keep := true) C (n := n + 1) v
  rw [isi_ptr] at hip
  rcases hv.ptr with ⟨h1, h2⟩ | ⟨s, i, hs, _, rfl⟩
  · simp [F_need_value, hip, h1, bad]
  · have hle := r_leads (keep := true) C (n := n) (y := y) (o := o) (r := r) (bk := bk) (s := s) (i := i)
    cases hL : lead y o (.tup [.str s, .int i]) <;> rw [hL] at hle <;> simp [F_need_value, hip, hle, bad, isPtr, hL]
end
end Mine

namespace Mine
open PySem

theorem ltP_irr (a : Int × Int) : ltP a a = false := by simp [ltP]
theorem ltP_tr {a b c : Int × Int} (h1 : ltP a b = true) (h2 : ltP b c = true) : ltP a c = true := by
  unfold ltP at *
  simp only [beq_iff_eq] at *
  by_cases e1 : a.1 = b.1
  · rw [if_pos e1] at h1
    by_cases e2 : b.1 = c.1
    · rw [if_pos e2] at h2; rw [if_pos (e1.trans e2)]; simp only [decide_eq_true_eq] at *; omega
    · rw [if_neg e2] at h2; rw [if_neg (by omega)]; simp only [decide_eq_true_eq] at *; omega
  · rw [if_neg e1] at h1
    by_cases e2 : b.1 = c.1
    · rw [if_pos e2] at h2; rw [if_neg (by omega)]; simp only [decide_eq_true_eq] at *; omega
    · rw [if_neg e2] at h2; simp only [decide_eq_true_eq] at *; rw [if_neg (by omega)]; simp only [decide_eq_true_eq]; omega
theorem ltP_as {a b : Int × Int} (h1 : ltP a b = true) : ltP b a = false := by
  cases h : ltP b a
  · rfl
  · have := ltP_tr h1 h; rw [ltP_irr] at this; cases this
theorem ltP_tot {a b : Int × Int} (h : ltP a b = false) (hn : a ≠ b) : ltP b a = true := by
  unfold ltP at *
  simp only [beq_iff_eq] at *
  by_cases e1 : a.1 = b.1
  · rw [if_pos e1] at h; rw [if_pos e1.symm]; simp only [decide_eq_true_eq, decide_eq_false_iff_not] at *
    have : a.2 ≠ b.2 := fun e => hn (Prod.ext e1 e)
    omega
  · rw [if_neg e1] at h; rw [if_neg (by omega)]; simp only [decide_eq_true_eq, decide_eq_false_iff_not] at *; omega

abbrev Asc (l : List (Int × Int)) : Prop := l.Pairwise fun a b => ltP a b = true
theorem asc_uniq : ∀ {a b : List (Int × Int)}, Asc a → Asc b → (∀ x, x ∈ a ↔ x ∈ b) → a = b
  | [], [], _, _, _ => rfl
  | [], y :: b, _, _, h => by have := (h y).mpr (by simp); cases this
  | x :: a, [], _, _, h => by have := (h x).mp (by simp); cases this
  | x :: a, y :: b, ha, hb, h => by
    have ha' := List.pairwise_cons.mp ha
    have hb' := List.pairwise_cons.mp hb
    have e : x = y := by
      rcases List.mem_cons.mp ((h x).mp (by simp)) with e | m1
      · exact e
      rcases List.mem_cons.mp ((h y).mpr (by simp)) with e | m2
      · exact e.symm
      have := ltP_as (hb'.1 x m1); rw [ha'.1 y m2] at this; cases this
    subst e
    have : a = b := asc_uniq ha'.2 hb'.2 fun z => by
      constructor
      · intro m
        rcases List.mem_cons.mp ((h z).mp (List.mem_cons_of_mem _ m)) with e | q
        · subst e; have := ha'.1 z m; rw [ltP_irr] at this; cases this
        · exact q
      · intro m
        rcases List.mem_cons.mp ((h z).mpr (List.mem_cons_of_mem _ m)) with e | q
        · subst e; have := hb'.1 z m; rw [ltP_irr] at this; cases this
        · exact q
    rw [this]

theorem ins_mem {y z : Int × Int} {l : List (Int × Int)} : z ∈ insP y l ↔ z = y ∨ z ∈ l := by
  unfold insP
  have e := List.takeWhile_append_dropWhile (p := fun x => !ltP y x) (l := l)
  generalize l.takeWhile (fun x => !ltP y x) = t at e ⊢
  generalize l.dropWhile (fun x => !ltP y x) = d at e ⊢
  subst e
  simp only [List.mem_append, List.mem_cons]
  constructor
  · rintro (h | h | h) <;> simp [h]
  · rintro (h | h | h) <;> simp [h]
theorem ins_asc {y : Int × Int} : ∀ {l : List (Int × Int)}, Asc l → y ∉ l → Asc (insP y l)
  | [], _, _ => by simp [insP]
  | x :: l, h, hn => by
    have h' := List.pairwise_cons.mp h
    have hn' : y ≠ x ∧ y ∉ l := by simpa using hn
    cases e : ltP y x with
    | true =>
      have : insP y (x :: l) = y :: x :: l := by simp [insP, e]
      rw [this]
      refine List.pairwise_cons.mpr ⟨fun z hz => ?_, h⟩
      rcases List.mem_cons.mp hz with rfl | hz
      · exact e
      · exact ltP_tr e (h'.1 z hz)
    | false =>
      have : insP y (x :: l) = x :: insP y l := by simp [insP, e]
      rw [this]
      refine List.pairwise_cons.mpr ⟨fun z hz => ?_, ins_asc h'.2 hn'.2⟩
      rcases ins_mem.mp hz with rfl | hz
      · exact ltP_tot e hn'.1
      · exact h'.1 z hz

theorem takeW_all {α : Type} {p : α → Bool} : ∀ {l : List α}, (∀ x ∈ l, p x = true) → l.takeWhile p = l
  | [], _ => rfl
  | x :: l, h => by rw [List.takeWhile_cons_of_pos (h x (by simp)), takeW_all fun z hz => h z (by simp [hz])]
theorem sortK_asc {l : List (Int × Int)} (h : Asc l) : sortK l = some l := by
  unfold sortK
  rcases List.eq_nil_or_concat l with rfl | ⟨d, y, e⟩
  · rfl
  · rw [List.concat_eq_append] at e; subst e
    rw [List.dropLast_concat, List.getLast?_concat]
    have h' := List.pairwise_append.mp h
    rw [if_pos h'.1]
    have e1 : d.takeWhile (fun x => !ltP y x) = d := takeW_all fun x hx => by rw [ltP_as (h'.2.2 x hx y (by simp))]; rfl
    have e2 : d.dropWhile (fun x => !ltP y x) = [] := by
      have := List.takeWhile_append_dropWhile (p := fun x => !ltP y x) (l := d)
      rw [e1] at this; simpa using this
    show some (insP y d) = _
    unfold insP; rw [e1, e2]
theorem sortK_ins {l : List (Int × Int)} {y : Int × Int} (h : Asc l) : sortK (l ++ [y]) = some (insP y l) := by
  unfold sortK
  rw [List.dropLast_concat, List.getLast?_concat, if_pos h]; rfl

noncomputable def pairsK (p : Nat) (vs : List D) : List (Int × Int) := (vs.zipIdx.filter fun q => isYoung q.1).map fun q => ((p : Int), ((q.2 : Nat) : Int))
noncomputable def keysB (o : List D) : List (Int × Int) := (o.zipIdx.map fun q => pairsK q.2 (fieldsOf q.1)).flatten
theorem book_keys (o : List D) : bookOf o = (keysB o).map pr := by
  unfold bookOf keysB
  rw [List.map_flatten, List.map_map]
  congr 1
  refine List.map_congr_left fun q _ => ?_
  unfold pairsAt pairsK
  simp [List.map_map, Function.comp_def]
theorem zip_pw {α : Type} (l : List α) : l.zipIdx.Pairwise fun a b => a.2 < b.2 := by
  have h : (l.zipIdx.map Prod.snd).Pairwise (· < ·) := by rw [List.zipIdx_map_snd]; exact List.pairwise_lt_range'
  exact List.pairwise_map.mp h
theorem keysB_asc (o : List D) : Asc (keysB o) := by
  unfold keysB
  refine List.pairwise_flatten.mpr ⟨fun l hl => ?_, ?_⟩
  · obtain ⟨q, _, rfl⟩ := List.mem_map.mp hl
    unfold pairsK
    refine List.pairwise_map.mpr (((zip_pw _).filter _).imp fun {a b} h => ?_)
    simp [ltP]; omega
  · refine List.pairwise_map.mpr ((zip_pw o).imp fun {a b} h x hx y hy => ?_)
    unfold pairsK at hx hy
    obtain ⟨u, _, rfl⟩ := List.mem_map.mp hx
    obtain ⟨v, _, rfl⟩ := List.mem_map.mp hy
    have hne : ¬ ((a.2 : Int) = b.2) := by omega
    simp [ltP, hne]
    omega
theorem keysB_mem {o : List D} {z : Int × Int} : z ∈ keysB o ↔ ∃ (p k : Nat) (t v : D), o[p]? = some t ∧ (fieldsOf t)[k]? = some v ∧ isYoung v = true ∧ z = ((p : Int), (k : Int)) := by
  unfold keysB
  rw [List.mem_flatten]
  constructor
  · rintro ⟨l, h0, h2⟩
    obtain ⟨⟨t, p⟩, h1, rfl⟩ := List.mem_map.mp h0
    unfold pairsK at h2
    obtain ⟨⟨v, k⟩, h5, rfl⟩ := List.mem_map.mp h2
    obtain ⟨h3, h4⟩ := List.mem_filter.mp h5
    exact ⟨p, k, t, v, List.mk_mem_zipIdx_iff_getElem?.mp h1, List.mk_mem_zipIdx_iff_getElem?.mp h3, h4, rfl⟩
  · rintro ⟨p, k, t, v, h1, h2, h3, rfl⟩
    refine ⟨_, List.mem_map.mpr ⟨(t, p), List.mk_mem_zipIdx_iff_getElem?.mpr h1, rfl⟩, ?_⟩
    unfold pairsK
    exact List.mem_map.mpr ⟨(v, k), List.mem_filter.mpr ⟨List.mk_mem_zipIdx_iff_getElem?.mpr h2, h3⟩, rfl⟩

/-- the keys after a store -/
theorem keysB_put {o : List D} {p k : Nat} {a : D} {vs : List D} {v : D} (hp : o[p]? = some (.tup [a, .tup vs])) (hk : k < vs.length) {z : Int × Int} :
    z ∈ keysB (o.take p ++ .tup [a, .tup (vs.take k ++ v :: vs.drop (k + 1))] :: o.drop (p + 1)) ↔ (z ∈ keysB o ∧ z ≠ ((p : Int), (k : Int))) ∨ (isYoung v = true ∧ z = ((p : Int), (k : Int))) := by
  have hpl : p < o.length := (List.getElem?_eq_some_iff.mp hp).1
  have e1 : ∀ (l : List D) (i : Nat) (x : D), i < l.length → l.take i ++ x :: l.drop (i + 1) = l.set i x := fun l i x h => by rw [List.set_eq_take_append_cons_drop, if_pos h]
  rw [e1 _ _ _ hpl, e1 _ _ _ hk, keysB_mem, keysB_mem]
  constructor
  · rintro ⟨p', k', t, u, h1, h2, h3, rfl⟩
    rw [List.getElem?_set] at h1
    by_cases ep : p = p'
    · subst ep
      rw [if_pos rfl, if_pos hpl] at h1
      cases h1
      have h2' : (vs.set k v)[k']? = some u := h2
      rw [List.getElem?_set] at h2'
      by_cases ek : k = k'
      · subst ek
        rw [if_pos rfl, if_pos hk] at h2'
        cases h2'
        exact .inr ⟨h3, rfl⟩
      · rw [if_neg ek] at h2'
        refine .inl ⟨⟨p, k', _, u, hp, h2', h3, rfl⟩, fun e => ek ?_⟩
        have := congrArg Prod.snd e; simp at this; omega
    · rw [if_neg ep] at h1
      refine .inl ⟨⟨p', k', t, u, h1, h2, h3, rfl⟩, fun e => ep ?_⟩
      have := congrArg Prod.fst e; simp at this; omega
  · rintro (⟨⟨p', k', t, u, h1, h2, h3, rfl⟩, hn⟩ | ⟨hy, rfl⟩)
    · by_cases ep : p = p'
      · subst ep
        rw [hp] at h1; cases h1
        have ek : k ≠ k' := fun e => hn (by rw [e])
        refine ⟨p, k', _, u, by rw [List.getElem?_set, if_pos rfl, if_pos hpl], ?_, h3, rfl⟩
        show (vs.set k v)[k']? = some u
        rw [List.getElem?_set, if_neg ek]; exact h2
      · exact ⟨p', k', t, u, by rw [List.getElem?_set, if_neg ep]; exact h1, h2, h3, rfl⟩
    · refine ⟨p, k, _, v, by rw [List.getElem?_set, if_pos rfl, if_pos hpl], ?_, hy, rfl⟩
      show (vs.set k v)[k]? = some v
      rw [List.getElem?_set, if_pos rfl, if_pos hk]

/-- what is booked after a store -/
theorem booked_eq {o : List D} {p k : Nat} {a : D} {vs : List D} {v : D} (hp : o[p]? = some (.tup [a, .tup vs])) (hk : k < vs.length) :
    sortK ((keysB o).filter (fun z => !(z == ((p : Int), (k : Int)))) ++ (if isYoung v = true then [((p : Int), (k : Int))] else [])) = some (keysB (o.take p ++ .tup [a, .tup (vs.take k ++ v :: vs.drop (k + 1))] :: o.drop (p + 1))) := by
  have hf : Asc ((keysB o).filter (fun z => !(z == ((p : Int), (k : Int))))) := (keysB_asc o).filter _
  have hm : ∀ z, z ∈ (keysB o).filter (fun z => !(z == ((p : Int), (k : Int)))) ↔ z ∈ keysB o ∧ z ≠ ((p : Int), (k : Int)) := fun z => by rw [List.mem_filter]; simp
  by_cases hy : isYoung v = true
  · rw [if_pos hy, sortK_ins hf]
    congr 1
    refine asc_uniq (ins_asc hf (fun h => ((hm _).mp h).2 rfl)) (keysB_asc _) fun z => ?_
    rw [ins_mem, hm, keysB_put hp hk]
    constructor
    · rintro (h | h)
      · exact .inr ⟨hy, h⟩
      · exact .inl h
    · rintro (h | h)
      · exact .inr h
      · exact .inl h.2
  · rw [if_neg hy, List.append_nil, sortK_asc hf]
    congr 1
    refine asc_uniq hf (keysB_asc _) fun z => ?_
    rw [hm, keysB_put hp hk]
    constructor
    · exact .inl
    · rintro (h | h)
      · exact h
      · exact absurd h.1 hy
end Mine

namespace Mine
open PySem
noncomputable def F_thing_at : Fn := ⟨[(Str.ofString "heap"), (Str.ofString "pointer")], [((Str.ofString "heap"), .local), ((Str.ofString "pointer"), .local), ((Str.ofString "is_pointer"), .globalImplicit), ((Str.ofString "leads"), .globalImplicit), ((Str.ofString "NoThing"), .globalImplicit), ((Str.ofString "half_of"), .globalImplicit)],
 (.cons (.iff (.or (.not (.call 8 (.cons (.v 1) .nil))) (.not (.call 10 (.cons (.v 0) (.cons (.v 1) .nil)))))
 (.cons (.rais 1)
 .nil)
 .nil)
 (.cons (.ret (.idx (.call 9 (.cons (.v 0) (.cons (.v 1) .nil))) (.idx (.v 1) (.k (.int (1))))))
 .nil))⟩

noncomputable def C_booked_1 : E :=
 (.v 8)
noncomputable def F_booked : Fn := ⟨[(Str.ofString "book"), (Str.ofString "place"), (Str.ofString "k"), (Str.ofString "value")], [((Str.ofString "book"), .local), ((Str.ofString "place"), .cell), ((Str.ofString "k"), .cell), ((Str.ofString "value"), .local), ((Str.ofString "pairs"), .local), ((Str.ofString "is_pointer"), .globalImplicit), ((Str.ofString "tuple"), .globalImplicit), ((Str.ofString "sorted"), .globalImplicit)],
 (.cons (.ownC 4 (.comp C_booked_1 (.seq (.v 0)) (.cmp .ne (.v 8) (.tup (.cons (.v 1) (.cons (.v 2) .nil))))))
 (.cons (.iff (.and (.call 8 (.cons (.v 3) .nil)) (.cmp .eq (.idx (.v 3) (.k (.int (0)))) (.k (.str (Str.ofString "young")))))
 (.cons (.app 4 (.tup (.cons (.v 1) (.cons (.v 2) .nil))))
 .nil)
 .nil)
 (.cons (.ret (.toTup (.sorted (.v 4))))
 .nil)))⟩

noncomputable def F_put : Fn := ⟨[(Str.ofString "heap"), (Str.ofString "pointer"), (Str.ofString "k"), (Str.ofString "value")], [((Str.ofString "heap"), .local), ((Str.ofString "pointer"), .local), ((Str.ofString "k"), .local), ((Str.ofString "value"), .local), ((Str.ofString "age"), .local), ((Str.ofString "fields"), .local), ((Str.ofString "young"), .local), ((Str.ofString "old"), .local), ((Str.ofString "roots"), .local), ((Str.ofString "book"), .local), ((Str.ofString "side"), .local), ((Str.ofString "place"), .local), ((Str.ofString "thing"), .local), ((Str.ofString "thing_at"), .globalImplicit), ((Str.ofString "len"), .globalImplicit), ((Str.ofString "NoField"), .globalImplicit), ((Str.ofString "need_value"), .globalImplicit), ((Str.ofString "booked"), .globalImplicit)],
 (.cons (.callS (.unp [4, 5]) 20 (.cons (.v 0) (.cons (.v 1) .nil)))
 (.cons (.iff (.not (.chain .le .lt (.k (.int (0))) (.v 2) (.len (.v 5))))
 (.cons (.rais 2)
 .nil)
 .nil)
 (.cons (.callS .drop 19 (.cons (.v 0) (.cons (.v 3) .nil)))
 (.cons (.unp [6, 7, 8, 9] (.v 0))
 (.cons (.unp [10, 11] (.v 1))
 (.cons (.asg 12 (.tup (.cons (.v 4) (.cons (.bin .add (.bin .add (.slTo (.v 5) (.v 2)) (.tup (.cons (.v 3) .nil))) (.slFrom (.v 5) (.bin .add (.v 2) (.k (.int (1)))))) .nil))))
 (.cons (.iff (.cmp .eq (.v 10) (.k (.str (Str.ofString "young"))))
 (.cons (.ret (.tup (.cons (.bin .add (.bin .add (.slTo (.v 6) (.v 11)) (.tup (.cons (.v 12) .nil))) (.slFrom (.v 6) (.bin .add (.v 11) (.k (.int (1)))))) (.cons (.v 7) (.cons (.v 8) (.cons (.v 9) .nil))))))
 .nil)
 .nil)
 (.cons (.ret (.tup (.cons (.v 6) (.cons (.bin .add (.bin .add (.slTo (.v 7) (.v 11)) (.tup (.cons (.v 12) .nil))) (.slFrom (.v 7) (.bin .add (.v 11) (.k (.int (1)))))) (.cons (.v 8) (.cons (.call 21 (.cons (.v 9) (.cons (.v 11) (.cons (.v 2) (.cons (.v 3) .nil))))) .nil))))))
 .nil))))))))⟩

noncomputable def B_due_2 : Ss :=
 (.cons (.asg 6 (.tup (.cons (.idx (.v 5) (.k (.int (0)))) (.cons (.bin .add (.bin .add (.slTo (.idx (.v 5) (.k (.int (1)))) (.v 2)) (.tup (.cons (.v 3) .nil))) (.slFrom (.idx (.v 5) (.k (.int (1)))) (.bin .add (.v 2) (.k (.int (1)))))) .nil))))
 (.cons (.ownD 7 (.cons (.idx (.v 0) (.k (.int (0)))) (.cons (.idx (.v 0) (.k (.int (1)))) .nil)))
 (.cons (.seti 7 (.v 4) (.bin .add (.bin .add (.slTo (.idx (.v 7) (.v 4)) (.idx (.v 1) (.k (.int (1))))) (.tup (.cons (.v 6) .nil))) (.slFrom (.idx (.v 7) (.v 4)) (.bin .add (.idx (.v 1) (.k (.int (1)))) (.k (.int (1)))))))
 (.cons (.ret (.tup (.cons (.idx (.v 7) (.k (.int (0)))) (.cons (.idx (.v 7) (.k (.int (1)))) (.cons (.idx (.v 0) (.k (.int (2)))) (.cons (.call 4 (.cons (.idx (.v 7) (.k (.int (1)))) .nil)) .nil))))))
 .nil))))
noncomputable def B_due_1 : Ss :=
 (.cons (.iff (.or (.cmp .lt (.v 2) (.k (.int (0)))) (.cmp .ge (.v 2) (.len (.idx (.v 5) (.k (.int (1)))))))
 (.cons (.ret (.k (.str (Str.ofString "field"))))
 .nil)
 .nil)
 (.cons (.iff (.and (.isi (.v 3) .tuple) (.not (.call 11 (.cons (.v 0) (.cons (.v 3) .nil)))))
 (.cons (.ret (.k (.str (Str.ofString "thing"))))
 .nil)
 .nil)
 B_due_2))
noncomputable def F_l_due_by : Fn := ⟨[(Str.ofString "_law_heap"), (Str.ofString "_law_pointer"), (Str.ofString "_law_k"), (Str.ofString "_law_value")], [((Str.ofString "_law_heap"), .local), ((Str.ofString "_law_pointer"), .local), ((Str.ofString "_law_k"), .local), ((Str.ofString "_law_value"), .local), ((Str.ofString "_law_half"), .local), ((Str.ofString "_law_thing"), .local), ((Str.ofString "_law_fresh"), .local), ((Str.ofString "_law_halves"), .local), ((Str.ofString "isinstance"), .globalImplicit), ((Str.ofString "tuple"), .globalImplicit), ((Str.ofString "_law_leads"), .globalImplicit), ((Str.ofString "len"), .globalImplicit), ((Str.ofString "_law_book_of"), .globalImplicit)],
 (.cons (.iff (.or (.not (.isi (.v 1) .tuple)) (.not (.call 11 (.cons (.v 0) (.cons (.v 1) .nil)))))
 (.cons (.ret (.k (.str (Str.ofString "thing"))))
 .nil)
 .nil)
 (.cons (.asg 4 (.index (.lst (.cons (.k (.str (Str.ofString "young"))) (.cons (.k (.str (Str.ofString "old"))) .nil))) (.idx (.v 1) (.k (.int (0))))))
 (.cons (.asg 5 (.idx (.idx (.v 0) (.v 4)) (.idx (.v 1) (.k (.int (1))))))
 B_due_1)))⟩

noncomputable def N_law4 : List (Str × NameKind) := [((Str.ofString "_law_script"), .local), ((Str.ofString "_law_heap"), .local), ((Str.ofString "_law_far"), .local), ((Str.ofString "_law_pointer"), .local), ((Str.ofString "_law_many"), .local), ((Str.ofString "_law_k"), .local), ((Str.ofString "_law_value"), .local), ((Str.ofString "_law_due"), .local), ((Str.ofString "_law_told"), .local), ((Str.ofString "_law_found"), .local), ((Str.ofString "_law_heap_by"), .globalImplicit), ((Str.ofString "_law_cell_at"), .globalImplicit), ((Str.ofString "_law_pointer_by"), .globalImplicit), ((Str.ofString "len"), .globalImplicit), ((Str.ofString "isinstance"), .globalImplicit), ((Str.ofString "tuple"), .globalImplicit), ((Str.ofString "_law_leads"), .globalImplicit), ((Str.ofString "_law_value_by"), .globalImplicit), ((Str.ofString "_law_due_by"), .globalImplicit), ((Str.ofString "put"), .globalImplicit), ((Str.ofString "NoThing"), .globalImplicit), ((Str.ofString "NoField"), .globalImplicit), ((Str.ofString "str"), .globalImplicit), ((Str.ofString "_law_refused_by_any"), .globalImplicit), ((Str.ofString "_law_heap_alike"), .globalImplicit)]

noncomputable def U4f : List U :=
 (.ir (.isi (.v 7) .str) (.cmp .eq (.v 8) (.v 7)) (.cons (.v 1) (.cons (.v 3) (.cons (.v 5) (.cons (.v 6) .nil))))) ::
 (.st (.ret (.and (.cmp .eq (.v 8) (.k (.str (Str.ofString "")))) (.call 18 (.cons (.v 9) (.cons (.v 7) .nil)))))) ::
 []
noncomputable def U4e : List U :=
 (.st (.callS (.var 7) 23 (.cons (.v 1) (.cons (.v 3) (.cons (.v 5) (.cons (.v 6) .nil)))))) ::
 (.st (.asg 8 (.k (.str (Str.ofString ""))))) ::
 (.st (.asg 9 (.k .none))) ::
 (.tr 9 22 (.cons (.v 1) (.cons (.v 3) (.cons (.v 5) (.cons (.v 6) .nil)))) [⟨1, 8, (.str (Str.ofString "thing"))⟩, ⟨2, 8, (.str (Str.ofString "field"))⟩]) ::
 U4f
noncomputable def U4d2 : List U :=
 (.st (.iff (.and (.cmp .gt (.len (.idx (.v 1) (.k (.int (0))))) (.k (.int (0)))) (.cmp .eq (.bin .mod (.bin .div (.call 0 (.cons (.v 0) (.cons (.k (.int (7))) .nil))) (.k (.int (24)))) (.k (.int (2)))) (.k (.int (1)))))
 (.cons (.asg 6 (.tup (.cons (.k (.str (Str.ofString "young"))) (.cons (.bin .mod (.call 0 (.cons (.v 0) (.cons (.k (.int (6))) .nil))) (.len (.idx (.v 1) (.k (.int (0)))))) .nil))))
 .nil)
 .nil)) ::
 U4e
noncomputable def U4d : List U :=
 (.st (.callS (.var 6) 12 (.cons (.call 0 (.cons (.v 0) (.cons (.k (.int (6))) .nil))) (.cons (.v 1) (.cons (.v 2) .nil))))) ::
 (.st (.iff (.cmp .eq (.bin .mod (.call 0 (.cons (.v 0) (.cons (.k (.int (7))) .nil))) (.k (.int (2)))) (.k (.int (1))))
 (.cons (.callS (.var 6) 2 (.cons (.v 0) (.cons (.k (.int (30000))) (.cons (.lst (.cons (.len (.idx (.v 1) (.k (.int (0))))) (.cons (.len (.idx (.v 1) (.k (.int (1))))) .nil))) .nil))))
 .nil)
 .nil)) ::
 U4d2
noncomputable def U4c : List U :=
 (.st (.asg 5 (.bin .sub (.bin .mod (.call 0 (.cons (.v 0) (.cons (.k (.int (4))) .nil))) (.bin .add (.v 4) (.k (.int (4))))) (.k (.int (2)))))) ::
 (.st (.iff (.and (.cmp .gt (.v 4) (.k (.int (0)))) (.cmp .gt (.bin .mod (.bin .div (.call 0 (.cons (.v 0) (.cons (.k (.int (7))) .nil))) (.k (.int (2)))) (.k (.int (4)))) (.k (.int (0)))))
 (.cons (.asg 5 (.bin .mod (.call 0 (.cons (.v 0) (.cons (.k (.int (4))) .nil))) (.v 4)))
 .nil)
 .nil)) ::
 U4d
noncomputable def U4b2 : List U :=
 (.st (.asg 4 (.k (.int (0))))) ::
 (.st (.iff (.and (.isi (.v 3) .tuple) (.call 11 (.cons (.v 1) (.cons (.v 3) .nil))))
 (.cons (.asg 4 (.len (.idx (.idx (.idx (.v 1) (.index (.lst (.cons (.k (.str (Str.ofString "young"))) (.cons (.k (.str (Str.ofString "old"))) .nil))) (.idx (.v 3) (.k (.int (0)))))) (.idx (.v 3) (.k (.int (1))))) (.k (.int (1))))))
 .nil)
 .nil)) ::
 U4c
noncomputable def U4b : List U :=
 (.st (.iff (.and (.cmp .gt (.len (.idx (.v 1) (.k (.int (1))))) (.k (.int (0)))) (.cmp .gt (.bin .mod (.bin .div (.call 0 (.cons (.v 0) (.cons (.k (.int (7))) .nil))) (.k (.int (8)))) (.k (.int (3)))) (.k (.int (0)))))
 (.cons (.asg 3 (.tup (.cons (.k (.str (Str.ofString "old"))) (.cons (.bin .mod (.call 0 (.cons (.v 0) (.cons (.k (.int (3))) .nil))) (.len (.idx (.v 1) (.k (.int (1)))))) .nil))))
 .nil)
 .nil)) ::
 U4b2
noncomputable def U4a : List U :=
 (.st (.callS (.var 1) 7 (.cons (.v 0) .nil))) ::
 (.st (.asg 2 (.bin .mod (.call 0 (.cons (.v 0) (.cons (.k (.int (5))) .nil))) (.bin .sub (.bin .pow (.k (.int (10))) (.k (.int (60)))) (.k (.int (101))))))) ::
 (.st (.callS (.var 3) 12 (.cons (.call 0 (.cons (.v 0) (.cons (.k (.int (3))) .nil))) (.cons (.v 1) (.cons (.v 2) .nil))))) ::
 U4b
noncomputable def N_refused4 : List (Str × NameKind) := [((Str.ofString "_law_heap"), .local), ((Str.ofString "_law_pointer"), .local), ((Str.ofString "_law_k"), .local), ((Str.ofString "_law_value"), .local), ((Str.ofString "e"), .local), ((Str.ofString "put"), .globalImplicit), ((Str.ofString "HeapError"), .globalImplicit), ((Str.ofString "isinstance"), .globalImplicit), ((Str.ofString "ValueError"), .globalImplicit)]

noncomputable def fns04 : List Str := ["_law_cell_at", "_law_mixed", "_law_value_by", "_law_thing_by", "_law_book_of", "_law_next", "_law_chained", "_law_heap_by", "is_pointer", "half_of", "leads", "_law_leads", "_law_pointer_by", "_law_whole", "_law_alike", "_law_row_alike", "_law_half_alike", "_law_book_alike", "_law_heap_alike", "need_value", "thing_at", "booked", "put", "_law_due_by"]
noncomputable def excs04 : List Str := ["HeapError", "NoThing", "NoField"]
noncomputable def P04 : Prg := [F_l_cell_at, F_l_mixed, F_l_value_by, F_l_thing_by, F_l_book_of, F_l_next, F_l_chained, F_l_heap_by, F_is_pointer, F_half_of, F_leads, F_l_leads, F_l_pointer_by, F_l_whole, F_l_alike, F_l_row_alike, F_l_half_alike, F_l_book_alike, F_l_heap_alike, F_need_value, F_thing_at, F_booked, F_put, F_l_due_by]
end Mine

namespace Mine
open PySem

theorem C04 : Common P04 := ⟨rfl, rfl, rfl, rfl, rfl, rfl, rfl, rfl, rfl, rfl, rfl⟩
noncomputable def index2 (x y : Option D) : Option D := x.bind fun a => y.bind fun b => indexD a b
section
variable {Φ : Fns} {ρ : Rho}
@[simp] theorem ev_index (a b : E) : ev Φ ρ (.index a b) = index2 (ev Φ ρ a) (ev Φ ρ b) := (rfl)
@[simp] theorem index_Y : index2 (some (.lst [.str (Str.ofString "young"), .str (Str.ofString "old")])) (some (.str wY)) = some (.int 0) := by
  show (if wY = wY then some (D.int 0) else if wY = wO then some (.int 1) else none) = _
  rw [if_pos rfl]
@[simp] theorem index_O : index2 (some (.lst [.str (Str.ofString "young"), .str (Str.ofString "old")])) (some (.str wO)) = some (.int 1) := by
  show (if wO = wY then some (D.int 0) else if wO = wO then some (.int 1) else none) = _
  rw [if_neg OneY, if_pos rfl]
end

/-- a pointer that leads, and its thing's fields; or one that does not -/
inductive Ptr (y o : List D) : D → Bool → List D → Prop
  | no {v : D} (hv : okV bT v) : (isPtr v && lead y o v) = false → Ptr y o v false []
  | yes {s : Str} {i a : Int} {fs : List D} : (s = wY ∨ s = wO) → 0 ≤ i → lead y o (.tup [.str s, .int i]) = true → (halfOf y o s)[i.toNat]? = some (.tup [.int a, .tup fs]) → (∀ u ∈ fs, okV bT u) → fs.length ≤ 101 → Ptr y o (.tup [.str s, .int i]) true fs
theorem ptr_of {y o r bk : List D} (H : Hp y o r bk) {v : D} (hv : okV bT v) : ∃ th fs, Ptr y o v th fs ∧ (isPtr v && lead y o v) = th := by
  rcases hv.ptr with ⟨h1, h2⟩ | ⟨s, i, hs, _, rfl⟩
  · have : (isPtr v && lead y o v) = false := by rw [h1]; rfl
    exact ⟨false, [], .no hv this, this⟩
  · cases hL : lead y o (.tup [.str s, .int i]) with
    | false => exact ⟨false, [], .no (.inr (.inr ⟨s, i, hs, trivial, rfl⟩)) (by rw [hL]; rfl), by simp [isPtr]⟩
    | true =>
      have h0 : 0 ≤ i ∧ i < ((halfOf y o s).length : Int) := by simpa [lead] using hL
      have hlt : i.toNat < (halfOf y o s).length := by omega
      have hg := List.getElem?_eq_getElem hlt
      have ht : okT bT (halfOf y o s)[i.toNat] := by
        have hm : (halfOf y o s)[i.toNat] ∈ halfOf y o s := List.getElem_mem _
        generalize (halfOf y o s)[i.toNat] = z at hm ⊢
        unfold halfOf at hm
        split at hm
        · exact H.ty z hm
        · exact H.to z hm
      obtain ⟨a, fs, e, hl, hf⟩ := ht
      rw [e] at hg
      exact ⟨true, fs, .yes hs h0.1 hL hg hf hl, by simp [isPtr]⟩


noncomputable def ownCR (ρ : Rho) (x : Nat) (o : Option D) : Option R := o.bind fun d => (lstOf d).bind fun ds => putO ρ x ds
section
variable {Φ : Fns} {ρ : Rho}
@[simp] theorem ex_ownC (x : Nat) (e : E) : ex Φ ρ (.ownC x e) = ownCR ρ x (ev Φ ρ e) := (rfl)
@[simp] theorem ownCR_lst (x : Nat) (ds : List D) : ownCR ρ x (some (.lst ds)) = if D.pures ds = true then some (.next (ρ.set x (some (.own ds)))) else none := (rfl)
end
theorem keysP_map : ∀ ks : List (Int × Int), keysP (ks.map pr) = some ks
  | [] => rfl
  | k :: ks => by show (keyP (pr k)).bind _ = _; rw [show keyP (pr k) = some k from rfl, Option.bind_some, keysP_map ks]; rfl
theorem sortD_keys {ks r : List (Int × Int)} (h : sortK ks = some r) : sortD (.lst (ks.map pr)) = some (.lst (r.map pr)) := by
  show (keysP (ks.map pr)).bind _ = _
  rw [keysP_map, Option.bind_some, h]; rfl
theorem keys_pures (ks : List (Int × Int)) : D.pures (ks.map pr) = true := List.all_eq_true.mpr fun d hd => by obtain ⟨k, _, rfl⟩ := List.mem_map.mp hd; rfl
theorem compO_filter {c : D → Option Bool} {f : D → Option D} {q : Int × Int → Bool} (hc : ∀ z, c (pr z) = some (q z)) (hf : ∀ z, f (pr z) = some (pr z)) : ∀ ks : List (Int × Int), compO c f (ks.map pr) = some ((ks.filter q).map pr)
  | [] => rfl
  | k :: ks => by
    show (c (pr k)).bind _ = _
    rw [hc, Option.bind_some, compO_filter hc hf ks]
    cases e : q k with
    | true => rw [if_pos rfl, hf, Option.bind_some, List.filter_cons_of_pos e]; rfl
    | false => rw [if_neg (by simp), List.filter_cons_of_neg (by simp [e])]
theorem pr_ne (z : Int × Int) (p k : Int) : evCmp .ne (pr z) (.tup [.int p, .int k]) = some (!(z == (p, k))) := by
  obtain ⟨a, b⟩ := z
  show (if (D.pure (.tup [.int a, .int b]) && D.pure (.tup [.int p, .int k])) = true then some (!D.eqb (.tup [.int a, .int b]) (.tup [.int p, .int k])) else none) = _
  rw [if_pos (by rfl)]
  simp only [D.eqb, D.eqbs, Bool.and_true]
  rfl

section
variable {n : Nat}
theorem rho_booked (a b c d : D) : rho0 F_booked.names F_booked.ps [a, b, c, d] = [some (.arg a), some (.arg b), some (.arg c), some (.arg d), none, none, none, none] := by kernel_rfl
theorem r_booked {o : List D} {p k : Nat} {a : D} {vs : List D} {v : D} (hp : o[p]? = some (.tup [a, .tup vs])) (hk : k < vs.length) (hv : okV bT v) (hl : (keysB o).length ≤ 20000) :
    run true P04 (n + 2) 21 [.tup (bookOf o), .int p, .int k, v] = some (.ok (.tup (bookOf (o.take p ++ .tup [a, .tup (vs.take k ++ v :: vs.drop (k + 1))] :: o.drop (p + 1))))) := by
  rw [run_at rfl, fnRun_eq rfl, rho_booked]
  have hb := booked_eq (v := v) hp hk
  have hip := r_is_pointer (keep := true) C04 (n := n) v
  rw [isi_ptr] at hip
  rw [book_keys, book_keys]
  generalize keysB (o.take p ++ .tup [a, .tup (vs.take k ++ v :: vs.drop (k + 1))] :: o.drop (p + 1)) = r at hb ⊢
  have hc := ev_comp (Φ := run true P04 (n + 1)) (ρ := [some (.arg (.tup ((keysB o).map pr))), some (.arg (.int p)), some (.arg (.int k)), some (.arg v), none, none, none, none]) (el := .v 8) (cd := .cmp .ne (.v 8) (.tup (.cons (.v 1) (.cons (.v 2) .nil)))) (it := .seq (.v 0)) (ds := (keysB o).map pr)
    (res := ((keysB o).filter (fun z => !(z == ((p : Int), (k : Int))))).map pr)
    (evIt_seq (d := .tup ((keysB o).map pr)) (by simp) rfl (keys_pures _))
    (compO_filter (fun z => by
      simp only [List.cons_append, List.nil_append]
      show ((evCmp .ne (pr z) (.tup [.int p, .int k])).map D.bool).bind isTrueD = _
      rw [pr_ne]; rfl) (fun z => rfl) _) (keys_pures _)
  have hfl : ((keysB o).filter (fun z => !(z == ((p : Int), (k : Int))))).length ≤ 20000 := Nat.le_trans (List.length_filter_le _ _) hl
  generalize (keysB o).filter (fun z => !(z == ((p : Int), (k : Int)))) = fl at hb hc hfl
  have hlt : fl.length < lim := by rw [lim_n]; omega
  have hps := keys_pures fl
  have hrs := keys_pures r
  have hpp : D.pure (.tup [.int p, .int k]) = true := rfl
  rcases hv.ptr with ⟨h1, h2⟩ | ⟨s, i, hs, _, rfl⟩
  · have hy : isYoung v = false := by rcases h2 with rfl | ⟨i, rfl⟩ <;> rfl
    rw [hy, if_neg (by simp), List.append_nil] at hb
    have hs := sortD_keys hb
    simp [F_booked, C_booked_1, hc, hps, hip, h1, hs]
  · have hy : isYoung (.tup [.str s, .int i]) = (s == wY) := rfl
    cases hw : (s == wY) with
    | true =>
      rw [hy, hw, if_pos rfl] at hb
      have hs := sortD_keys hb
      rw [List.map_append] at hs
      have hs' : sortD (.lst (fl.map pr ++ [.tup [.int p, .int k]])) = some (.lst (r.map pr)) := hs
      simp [F_booked, C_booked_1, hc, hps, hip, isPtr, hw, appR, hlt, hpp, hs']
    | false =>
      rw [hy, hw, if_neg (by simp), List.append_nil] at hb
      have hs := sortD_keys hb
      simp [F_booked, C_booked_1, hc, hps, hip, isPtr, hw, hs]

theorem rho_thing_at (a b : D) : rho0 F_thing_at.names F_thing_at.ps [a, b] = [some (.arg a), some (.arg b), none, none, none, none] := by kernel_rfl
theorem r_thing_no {y o r bk : List D} {v : D} (hv : okV bT v) (h : (isPtr v && lead y o v) = false) : run true P04 (n + 3) 20 [heapD y o r bk, v] = some (.err 1) := by
  rw [run_at rfl, fnRun_eq rfl, rho_thing_at]
  have hip := r_is_pointer (keep := true) C04 (n := n + 1) v
  rw [isi_ptr] at hip
  rcases hv.ptr with ⟨h1, h2⟩ | ⟨s, i, hs, _, rfl⟩
  · simp [F_thing_at, hip, h1]
  · have hle := r_leads (keep := true) C04 (n := n) (y := y) (o := o) (r := r) (bk := bk) (s := s) (i := i)
    have hL : lead y o (.tup [.str s, .int i]) = false := by simpa [isPtr] using h
    rw [hL] at hle
    simp [F_thing_at, hip, hle, isPtr]
theorem r_thing_yes {y o r bk : List D} {s : Str} {i : Int} {t : D} (h0 : 0 ≤ i) (hL : lead y o (.tup [.str s, .int i]) = true) (hg : (halfOf y o s)[i.toNat]? = some t) : run true P04 (n + 3) 20 [heapD y o r bk, .tup [.str s, .int i]] = some (.ok t) := by
  rw [run_at rfl, fnRun_eq rfl, rho_thing_at]
  have hip := r_is_pointer (keep := true) C04 (n := n + 1) (.tup [.str s, .int i])
  have hle := r_leads (keep := true) C04 (n := n) (y := y) (o := o) (r := r) (bk := bk) (s := s) (i := i)
  have hh := r_half_of (keep := true) C04 (n := n + 1) (y := y) (o := o) (r := r) (bk := bk) (s := s) (q := [.int i])
  rw [hL] at hle
  simp [F_thing_at, hip, hle, hh, h0, hg]

theorem Ptr.okV {y o fs : List D} {v : D} {th : Bool} (h : Ptr y o v th fs) : okV bT v := by
  cases h with
  | no hv _ => exact hv
  | yes hs _ _ _ _ _ => exact .inr (.inr ⟨_, _, hs, trivial, rfl⟩)
theorem Ptr.fields {y o fs : List D} {v : D} {th : Bool} (h : Ptr y o v th fs) : (∀ u ∈ fs, Mine.okV bT u) ∧ fs.length ≤ 101 := by
  cases h with
  | no hv _ => exact ⟨(fun u hu => by cases hu), (by decide)⟩
  | yes _ _ _ _ hf hl => exact ⟨hf, hl⟩


/-- the heap with one thing stored anew -/
noncomputable def putY (y : List D) (s : Str) (i : Nat) (t : D) : List D := if s == wY then y.take i ++ t :: y.drop (i + 1) else y
noncomputable def putO' (o : List D) (s : Str) (i : Nat) (t : D) : List D := if s == wY then o else o.take i ++ t :: o.drop (i + 1)
noncomputable def fresh (a : Int) (fs : List D) (k : Nat) (u : D) : D := .tup [.int a, .tup (fs.take k ++ u :: fs.drop (k + 1))]
theorem fresh_ok {a : Int} {fs : List D} {k : Nat} {u : D} (hf : ∀ v ∈ fs, okV bT v) (hl : fs.length ≤ 101) (hk : k < fs.length) (hu : okV bT u) : okT bT (fresh a fs k u) :=
  ⟨a, _, rfl, by rw [splice_len u hk]; exact hl, fun z hz => (splice_mem hz).elim (hf z) fun q => q ▸ hu⟩

theorem putU_tup (ρ : Rho) (xs : List Nat) (x : List D) : putU ρ xs (.tup x) = if x.length = xs.length ∧ D.pures x = true then some (.next (setAll ρ xs x)) else none := (rfl)
theorem thing_pures {a : Int} {fs : List D} (hf : ∀ v ∈ fs, okV bT v) : D.pures [.int a, .tup fs] = true := by simp [D.pures, okVs.tup hf]
theorem rho_put (a b c d : D) : rho0 F_put.names F_put.ps [a, b, c, d] = [some (.arg a), some (.arg b), some (.arg c), some (.arg d), none, none, none, none, none, none, none, none, none, none, none, none, none, none] := by kernel_rfl
theorem r_put_no {y o r bk : List D} {v u : D} (hv : okV bT v) (h : (isPtr v && lead y o v) = false) (k : Int) : run true P04 (n + 4) 22 [heapD y o r bk, v, .int k, u] = some (.err 1) := by
  rw [run_at rfl, fnRun_eq rfl, rho_put]
  simp [F_put, r_thing_no (n := n) hv h]
theorem r_put_field {y o r bk fs : List D} {s : Str} {i a : Int} {u : D} (h0 : 0 ≤ i) (hL : lead y o (.tup [.str s, .int i]) = true) (hg : (halfOf y o s)[i.toNat]? = some (.tup [.int a, .tup fs])) (hf : ∀ v ∈ fs, okV bT v) {k : Int} (hk : ¬ (0 ≤ k ∧ k < fs.length)) :
    run true P04 (n + 4) 22 [heapD y o r bk, .tup [.str s, .int i], .int k, u] = some (.err 2) := by
  rw [run_at rfl, fnRun_eq rfl, rho_put]
  have ht := r_thing_yes (n := n) (r := r) (bk := bk) h0 hL hg
  have hfp := thing_pures (a := a) hf
  by_cases h1 : 0 ≤ k
  · have h2 : ¬ k < fs.length := fun q => hk ⟨h1, q⟩
    simp [F_put, ht, putT, putU_tup, setAll, hfp, h1, h2]
  · simp [F_put, ht, putT, putU_tup, setAll, hfp, h1]
theorem r_put_bad {y o r bk fs : List D} {s : Str} {i a : Int} {u : D} (h0 : 0 ≤ i) (hL : lead y o (.tup [.str s, .int i]) = true) (hg : (halfOf y o s)[i.toNat]? = some (.tup [.int a, .tup fs])) (hf : ∀ v ∈ fs, okV bT v) {k : Int} (hk : 0 ≤ k ∧ k < fs.length) (hu : okV bT u) (hb : bad y o u = true) :
    run true P04 (n + 4) 22 [heapD y o r bk, .tup [.str s, .int i], .int k, u] = some (.err 1) := by
  rw [run_at rfl, fnRun_eq rfl, rho_put]
  have ht := r_thing_yes (n := n) (r := r) (bk := bk) h0 hL hg
  have hfp := thing_pures (a := a) hf
  have hn := r_need C04 (n := n) (y := y) (o := o) (r := r) (bk := bk) rfl hu
  rw [hb, if_pos rfl] at hn
  simp [F_put, ht, putT, putU_tup, setAll, hfp, hk.1, hk.2, hn]
theorem r_put_ok {y o r fs : List D} {s : Str} {i a : Int} {u : D} (H : Hp y o r (bookOf o)) (hs : s = wY ∨ s = wO) (h0 : 0 ≤ i) (hL : lead y o (.tup [.str s, .int i]) = true) (hg : (halfOf y o s)[i.toNat]? = some (.tup [.int a, .tup fs])) (hf : ∀ v ∈ fs, okV bT v) (hl : fs.length ≤ 101) (hbl : (keysB o).length ≤ 20000)
    {k : Int} (hk : 0 ≤ k ∧ k < fs.length) (hu : okV bT u) (hb : bad y o u = false) :
    run true P04 (n + 4) 22 [heapD y o r (bookOf o), .tup [.str s, .int i], .int k, u] = some (.ok (heapD (putY y s i.toNat (fresh a fs k.toNat u)) (putO' o s i.toNat (fresh a fs k.toNat u)) r (bookOf (putO' o s i.toNat (fresh a fs k.toNat u))))) := by
  rw [run_at rfl, fnRun_eq rfl, rho_put]
  have ht := r_thing_yes (n := n) (r := r) (bk := bookOf o) h0 hL hg
  have hfp := thing_pures (a := a) hf
  have hn := r_need C04 (n := n) (y := y) (o := o) (r := r) (bk := bookOf o) rfl hu
  rw [hb, if_neg (by decide)] at hn
  have hyp : D.pure (.tup y) = true := D.okN_le (by decide) (things_okN H.ty)
  have hop : D.pure (.tup o) = true := D.okN_le (by decide) (things_okN H.to)
  have hrp : D.pure (.tup r) = true := D.okN_le (by decide) (vals_okN H.vr)
  have hbp : D.pure (.tup (bookOf o)) = true := D.okN_le (by decide) (book_okN H.bk)
  have hpar : D.pures [D.tup y, .tup o, .tup r, .tup (bookOf o)] = true := by simp [D.pures, hyp, hop, hrp, hbp]
  have hkn : k.toNat < fs.length := by omega
  have e1 : (k + 1).toNat = k.toNat + 1 := (toNat_s hk.1 1).1
  have n1 : 0 ≤ k + 1 := (toNat_s hk.1 1).2
  have e2 : (i + 1).toNat = i.toNat + 1 := (toNat_s h0 1).1
  have n2 : 0 ≤ i + 1 := (toNat_s h0 1).2
  have hf2 := Nat.le_trans hl (show 101 ≤ 20000 by decide)
  have lm1 : min k.toNat fs.length + 1 ≤ lim := lim1 hf2 mr
  have lm2 : min k.toNat fs.length + 1 + (fs.length - (k.toNat + 1)) ≤ lim := lim12 hf2 mr (Nat.sub_le _ _)
  have hfr : D.pure (.tup [.int a, .tup (fs.take k.toNat ++ u :: fs.drop (k.toNat + 1))]) = true := (fresh_ok (a := a) hf hl hkn hu).pure
  have hip : D.pures [D.str s, .int i] = true := rfl
  rcases hs with rfl | rfl
  · have hy2 := Nat.le_trans H.yl (show 100 ≤ 20000 by decide)
    have lm3 : min i.toNat y.length + 1 ≤ lim := lim1 hy2 mr
    have lm4 : min i.toNat y.length + 1 + (y.length - (i.toNat + 1)) ≤ lim := lim12 hy2 mr (Nat.sub_le _ _)
    unfold heapD at *
    simp [F_put, ht, putT, putU_tup, setAll, hfp, hk.1, hk.2, hn, hpar, hip, e1, n1, lm1, lm2, hfr, YY, h0, e2, n2, lm3, lm4, putY, putO', fresh]
  · have ho2 := Nat.le_trans H.ol (show 100 ≤ 20000 by decide)
    have lm3 : min i.toNat o.length + 1 ≤ lim := lim1 ho2 mr
    have lm4 : min i.toNat o.length + 1 + (o.length - (i.toNat + 1)) ≤ lim := lim12 ho2 mr (Nat.sub_le _ _)
    have hg' : o[i.toNat]? = some (.tup [.int a, .tup fs]) := hg
    have hbk := r_booked (n := n + 1) hg' hkn hu hbl
    rw [Int.toNat_of_nonneg h0, Int.toNat_of_nonneg hk.1] at hbk
    unfold heapD at *
    simp [F_put, ht, putT, putU_tup, setAll, hfp, hk.1, hk.2, hn, hpar, hip, e1, n1, lm1, lm2, hfr, OY, h0, e2, n2, lm3, lm4, putY, putO', fresh, hbk]
end
end Mine

namespace Mine
open PySem
section
variable {n : Nat}
theorem rho_due (a b c d : D) : rho0 F_l_due_by.names F_l_due_by.ps [a, b, c, d] = [some (.arg a), some (.arg b), some (.arg c), some (.arg d), none, none, none, none, none, none, none, none, none] := by kernel_rfl
theorem r_due_no {y o r bk : List D} (H : Hp y o r bk) {v u : D} (hv : okV bT v) (h : (isPtr v && lead y o v) = false) (k : Int) : run true P04 (n + 2) 23 [heapD y o r bk, v, .int k, u] = some (.ok (.str (Str.ofString "thing"))) := by
  rw [run_at rfl, fnRun_eq rfl, rho_due]
  rcases hv.ptr with ⟨h1, h2⟩ | ⟨s, i, hs, _, rfl⟩
  · have h3 : evIsi .tuple v = false := by rw [isi_ptr]; exact h1
    simp [F_l_due_by, h3]
  · have hle := r_lleads (keep := true) (P := P04) (n := n) (j := 11) rfl (r := r) (bk := bk) (i := i) hs H.ty H.to
    have hL : lead y o (.tup [.str s, .int i]) = false := by simpa [isPtr] using h
    rw [hL] at hle
    simp [F_l_due_by, hle]
/-- the half that a pointer names -/
noncomputable def hIx (s : Str) : Int := if s == wY then 0 else 1
theorem hIx_ev {s : Str} (hs : s = wY ∨ s = wO) : index2 (some (.lst [.str (Str.ofString "young"), .str (Str.ofString "old")])) (some (.str s)) = some (.int (hIx s)) := by
  rcases hs with rfl | rfl
  · exact index_Y
  · exact index_O
theorem hIx_half {y o r bk : List D} {s : Str} (hs : s = wY ∨ s = wO) : idx2 (some (heapD y o r bk)) (some (.int (hIx s))) = some (.tup (halfOf y o s)) := by
  rcases hs with rfl | rfl <;> rfl
theorem hIx_own {y o : List D} {s : Str} (hs : s = wY ∨ s = wO) : idx2 (some (.lst [.tup y, .tup o])) (some (.int (hIx s))) = some (.tup (halfOf y o s)) := by
  rcases hs with rfl | rfl <;> rfl
theorem hIx_set {y o : List D} {s : Str} {i : Nat} {t : D} (hs : s = wY ∨ s = wO) : [D.tup y, .tup o].set (hIx s).toNat (.tup ((halfOf y o s).take i ++ t :: (halfOf y o s).drop (i + 1))) = [.tup (putY y s i t), .tup (putO' o s i t)] := by
  rcases hs with rfl | rfl <;> rfl
theorem hIx_in {s : Str} (hs : s = wY ∨ s = wO) : 0 ≤ hIx s ∧ hIx s < 2 := by
  rcases hs with rfl | rfl <;> decide
theorem half_len {y o r bk : List D} (H : Hp y o r bk) (s : Str) : (halfOf y o s).length ≤ 100 := by
  unfold halfOf; split
  · exact H.yl
  · exact H.ol
theorem due_pre {y o r bk fs : List D} (H : Hp y o r bk) {s : Str} {i a k : Int} {u : D} (hs : s = wY ∨ s = wO) (h0 : 0 ≤ i) (hL : lead y o (.tup [.str s, .int i]) = true) (hg : (halfOf y o s)[i.toNat]? = some (.tup [.int a, .tup fs])) (hf : ∀ v ∈ fs, okV bT v) (hl : fs.length ≤ 101) : run true P04 (n + 2) 23 [heapD y o r bk, .tup [.str s, .int i], .int k, u] = outR true (exs (run true P04 (n + 1)) [some (.arg (heapD y o r bk)), some (.arg (.tup [.str s, .int i])), some (.arg (.int k)), some (.arg u), some (.dat (.int (hIx s))), some (.dat (.tup [.int a, .tup fs])), none, none, none, none, none, none, none] B_due_1) := by
  rw [run_at rfl, fnRun_eq rfl, rho_due]
  have hle := r_lleads (keep := true) (P := P04) (n := n) (j := 11) rfl (r := r) (bk := bk) (i := i) hs H.ty H.to
  rw [hL] at hle
  have htp : D.pure (.tup [.int a, .tup fs]) = true := okTm.pure (m := 101) (b := bT) ⟨a, fs, rfl, hl, hf⟩
  have e1 := hIx_ev hs
  have e2 := hIx_half (y := y) (o := o) (r := r) (bk := bk) hs
  simp [F_l_due_by, hle, h0, hg, htp, e1, e2]
theorem ptr_bad {y o r bk : List D} (H : Hp y o r bk) {v : D} (hv : okV bT v) {ρ : Rho} (h1 : ev (run true P04 (n + 1)) ρ (.v 0) = some (heapD y o r bk)) (h7 : ev (run true P04 (n + 1)) ρ (.v 3) = some v) :
    ev (run true P04 (n + 1)) ρ (.and (.isi (.v 3) .tuple) (.not (.call 11 (.cons (.v 0) (.cons (.v 3) .nil))))) = some (.bool (bad y o v)) := by
  rw [ev_and, ev_isi, h7, s_isi, andS_bool, isi_ptr]
  rcases hv.ptr with ⟨e1, e2⟩ | ⟨s, i, hs, _, rfl⟩
  · simp [bad, e1]
  · have hle := r_lleads (keep := true) (P := P04) (n := n) (j := 11) rfl (r := r) (bk := bk) (i := i) hs H.ty H.to
    rw [ev_not, ev_call, evs_cons, evs_cons, evs_nil, h1, h7, k_some, k_some, Option.bind_some, hle]
    simp [bad, isPtr]
theorem due_field {y o r bk fs : List D} {s : Str} {i a k : Int} {u : D} (hk : ¬ (0 ≤ k ∧ k < fs.length)) : exs (run true P04 (n + 1)) [some (.arg (heapD y o r bk)), some (.arg (.tup [.str s, .int i])), some (.arg (.int k)), some (.arg u), some (.dat (.int (hIx s))), some (.dat (.tup [.int a, .tup fs])), none, none, none, none, none, none, none] B_due_1 = some (.ret (.str (Str.ofString "field"))) := by
  unfold B_due_1
  by_cases h1 : k < 0
  · simp [h1]
  · have h2 : (fs.length : Int) ≤ k := by omega
    simp [h1, h2]
theorem due_next {y o r bk fs : List D} (H : Hp y o r bk) {s : Str} {i a k : Int} {u : D} (hk : 0 ≤ k ∧ k < fs.length) (hu : okV bT u) : exs (run true P04 (n + 1)) [some (.arg (heapD y o r bk)), some (.arg (.tup [.str s, .int i])), some (.arg (.int k)), some (.arg u), some (.dat (.int (hIx s))), some (.dat (.tup [.int a, .tup fs])), none, none, none, none, none, none, none] B_due_1 = if bad y o u = true then some (.ret (.str (Str.ofString "thing"))) else exs (run true P04 (n + 1)) [some (.arg (heapD y o r bk)), some (.arg (.tup [.str s, .int i])), some (.arg (.int k)), some (.arg u), some (.dat (.int (hIx s))), some (.dat (.tup [.int a, .tup fs])), none, none, none, none, none, none, none] B_due_2 := by
  unfold B_due_1
  have h1 : ¬ k < 0 := by omega
  have h2 : ¬ (fs.length : Int) ≤ k := by omega
  have hb := ptr_bad (n := n) H hu (ρ := [some (.arg (heapD y o r bk)), some (.arg (.tup [.str s, .int i])), some (.arg (.int k)), some (.arg u), some (.dat (.int (hIx s))), some (.dat (.tup [.int a, .tup fs])), none, none, none, none, none, none, none]) rfl rfl
  have hc : ev (run true P04 (n + 1)) [some (.arg (heapD y o r bk)), some (.arg (.tup [.str s, .int i])), some (.arg (.int k)), some (.arg u), some (.dat (.int (hIx s))), some (.dat (.tup [.int a, .tup fs])), none, none, none, none, none, none, none] (.or (.cmp .lt (.v 2) (.k (.int (0)))) (.cmp .ge (.v 2) (.len (.idx (.v 5) (.k (.int (1))))))) = some (.bool false) := by simp [h1, h2]
  rw [exs_cons, ex_iff, hc, ifS_bool, if_neg (by simp), exs_nil, seqR_next, exs_cons, ex_iff, hb, ifS_bool]
  cases bad y o u <;> simp
theorem put_hp {y o r fs : List D} {bk : List D} (H : Hp y o r bk) {s : Str} {i a : Int} {u : D} (hs : s = wY ∨ s = wO) (h0 : 0 ≤ i) (hg : (halfOf y o s)[i.toNat]? = some (.tup [.int a, .tup fs])) (hf : ∀ v ∈ fs, okV bT v) (hl : fs.length ≤ 101) {k : Nat} (hk : k < fs.length) (hu : okV bT u) :
    Hp (putY y s i.toNat (fresh a fs k u)) (putO' o s i.toNat (fresh a fs k u)) r (bookOf (putO' o s i.toNat (fresh a fs k u))) := by
  have ht := fresh_ok (a := a) hf hl hk hu
  rcases hs with rfl | rfl
  · have hlt : i.toNat < y.length := (List.getElem?_eq_some_iff.mp hg).1
    refine ⟨?_, H.ol, H.rl, ?_, H.to, H.vr, bookOf_pairs _⟩
    · show (y.take _ ++ _ :: y.drop _).length ≤ _
      rw [splice_len _ hlt]; exact H.yl
    · intro z hz
      exact (splice_mem (l := y) hz).elim (H.ty z) fun q => q ▸ ht
  · have hlt : i.toNat < o.length := (List.getElem?_eq_some_iff.mp hg).1
    refine ⟨H.yl, ?_, H.rl, H.ty, ?_, H.vr, bookOf_pairs _⟩
    · show (o.take _ ++ _ :: o.drop _).length ≤ _
      rw [splice_len _ hlt]; exact H.ol
    · intro z hz
      exact (splice_mem (l := o) hz).elim (H.to z) fun q => q ▸ ht
theorem due_last {y o r bk fs : List D} (H : Hp y o r bk) {s : Str} {i a k : Int} {u : D} (hs : s = wY ∨ s = wO) (h0 : 0 ≤ i) (hL : lead y o (.tup [.str s, .int i]) = true) (hg : (halfOf y o s)[i.toNat]? = some (.tup [.int a, .tup fs])) (hf : ∀ v ∈ fs, okV bT v) (hl : fs.length ≤ 101) (hk : 0 ≤ k ∧ k < fs.length) (hu : okV bT u) :
    exs (run true P04 (n + 1)) [some (.arg (heapD y o r bk)), some (.arg (.tup [.str s, .int i])), some (.arg (.int k)), some (.arg u), some (.dat (.int (hIx s))), some (.dat (.tup [.int a, .tup fs])), none, none, none, none, none, none, none] B_due_2 = some (.ret (heapD (putY y s i.toNat (fresh a fs k.toNat u)) (putO' o s i.toNat (fresh a fs k.toNat u)) r (bookOf (putO' o s i.toNat (fresh a fs k.toNat u))))) := by
  have hyp : D.pure (.tup y) = true := D.okN_le (by decide) (things_okN H.ty)
  have hop : D.pure (.tup o) = true := D.okN_le (by decide) (things_okN H.to)
  have hyo : D.pures [D.tup y, .tup o] = true := by simp [D.pures, hyp, hop]
  have hkn : k.toNat < fs.length := by omega
  have e1 : (k + 1).toNat = k.toNat + 1 := (toNat_s hk.1 1).1
  have n1 : 0 ≤ k + 1 := (toNat_s hk.1 1).2
  have e2 : (i + 1).toNat = i.toNat + 1 := (toNat_s h0 1).1
  have n2 : 0 ≤ i + 1 := (toNat_s h0 1).2
  have hf2 := Nat.le_trans hl (show 101 ≤ 20000 by decide)
  have lm1 : min k.toNat fs.length + 1 ≤ lim := lim1 hf2 mr
  have lm2 : min k.toNat fs.length + 1 + (fs.length - (k.toNat + 1)) ≤ lim := lim12 hf2 mr (Nat.sub_le _ _)
  have hh2 := Nat.le_trans (half_len H s) (show 100 ≤ 20000 by decide)
  have lm3 : min i.toNat (halfOf y o s).length + 1 ≤ lim := lim1 hh2 mr
  have lm4 : min i.toNat (halfOf y o s).length + 1 + ((halfOf y o s).length - (i.toNat + 1)) ≤ lim := lim12 hh2 mr (Nat.sub_le _ _)
  have ht := fresh_ok (a := a) hf hl hkn hu
  have hfr : D.pure (.tup [.int a, .tup (fs.take k.toNat ++ u :: fs.drop (k.toNat + 1))]) = true := ht.pure
  have H' := put_hp H hs h0 hg hf hl hkn hu
  have hbk := r_lbook_of (keep := true) C04 (n := n) H'.to H'.ol
  have hst := hIx_set (y := y) (o := o) (i := i.toNat) (t := fresh a fs k.toNat u) hs
  have hin := hIx_in hs
  have hIo := hIx_own (y := y) (o := o) hs
  have hnp : D.pure (.tup ((halfOf y o s).take i.toNat ++ fresh a fs k.toNat u :: (halfOf y o s).drop (i.toNat + 1))) = true := by
    refine okTs.tup (m := 101) (b := bT) fun z hz => (splice_mem hz).elim (fun q => ?_) fun q => q ▸ ht
    unfold halfOf at q
    split at q
    · exact H.ty z q
    · exact H.to z q
  generalize hY : putY y s i.toNat (fresh a fs k.toNat u) = y' at *
  generalize hO : putO' o s i.toNat (fresh a fs k.toNat u) = o' at *
  unfold fresh at hst hnp
  simp [B_due_2, hk.1, e1, n1, lm1, lm2, hfr, heapD, hyo, hIo, h0, e2, n2, lm3, lm4, setR, hin.1, hin.2, hnp, hst, hbk]
theorem r_due_field {y o r bk fs : List D} (H : Hp y o r bk) {s : Str} {i a : Int} {u : D} (hs : s = wY ∨ s = wO) (h0 : 0 ≤ i) (hL : lead y o (.tup [.str s, .int i]) = true) (hg : (halfOf y o s)[i.toNat]? = some (.tup [.int a, .tup fs])) (hf : ∀ v ∈ fs, okV bT v) (hl : fs.length ≤ 101) {k : Int} (hk : ¬ (0 ≤ k ∧ k < fs.length)) :
    run true P04 (n + 2) 23 [heapD y o r bk, .tup [.str s, .int i], .int k, u] = some (.ok (.str (Str.ofString "field"))) := by
  rw [due_pre H hs h0 hL hg hf hl, due_field hk]; rfl
theorem r_due_bad {y o r bk fs : List D} (H : Hp y o r bk) {s : Str} {i a : Int} {u : D} (hs : s = wY ∨ s = wO) (h0 : 0 ≤ i) (hL : lead y o (.tup [.str s, .int i]) = true) (hg : (halfOf y o s)[i.toNat]? = some (.tup [.int a, .tup fs])) (hf : ∀ v ∈ fs, okV bT v) (hl : fs.length ≤ 101) {k : Int} (hk : 0 ≤ k ∧ k < fs.length) (hu : okV bT u) (hb : bad y o u = true) :
    run true P04 (n + 2) 23 [heapD y o r bk, .tup [.str s, .int i], .int k, u] = some (.ok (.str (Str.ofString "thing"))) := by
  rw [due_pre H hs h0 hL hg hf hl, due_next H hk hu, if_pos hb]; rfl
theorem r_due_ok {y o r bk fs : List D} (H : Hp y o r bk) {s : Str} {i a : Int} {u : D} (hs : s = wY ∨ s = wO) (h0 : 0 ≤ i) (hL : lead y o (.tup [.str s, .int i]) = true) (hg : (halfOf y o s)[i.toNat]? = some (.tup [.int a, .tup fs])) (hf : ∀ v ∈ fs, okV bT v) (hl : fs.length ≤ 101) {k : Int} (hk : 0 ≤ k ∧ k < fs.length) (hu : okV bT u) (hb : bad y o u = false) :
    run true P04 (n + 2) 23 [heapD y o r bk, .tup [.str s, .int i], .int k, u] = some (.ok (heapD (putY y s i.toNat (fresh a fs k.toNat u)) (putO' o s i.toNat (fresh a fs k.toNat u)) r (bookOf (putO' o s i.toNat (fresh a fs k.toNat u))))) := by
  rw [due_pre H hs h0 hL hg hf hl, due_next H hk hu, if_neg (by rw [hb]; decide), due_last H hs h0 hL hg hf hl hk hu]; rfl
end
end Mine

namespace Mine
open PySem
section
variable {n : Nat}
noncomputable def Ψ4 : List D → Option Bool := refRun (run true P04 17) (subE 3) N_refused4 [Str.ofString "_law_heap", Str.ofString "_law_pointer", Str.ofString "_law_k", Str.ofString "_law_value"] (22, .cons (.v 0) (.cons (.v 1) (.cons (.v 2) (.cons (.v 3) .nil)))) 0 fun _ _ => some true
theorem rho_ref4 (a b c d : D) : rho0 N_refused4 [Str.ofString "_law_heap", Str.ofString "_law_pointer", Str.ofString "_law_k", Str.ofString "_law_value"] [a, b, c, d] = [some (.arg a), some (.arg b), some (.arg c), some (.arg d), none, none, none, none, none] := by kernel_rfl
theorem psi4 {a b c d : D} {e : Nat} (h : run true P04 17 22 [a, b, c, d] = some (.err e)) (he : e = 1 ∨ e = 2) : Ψ4 [a, b, c, d] = some true := by
  unfold Ψ4 refRun
  rw [if_pos (show ([a, b, c, d] : List D).length = [Str.ofString "_law_heap", Str.ofString "_law_pointer", Str.ofString "_law_k", Str.ofString "_law_value"].length from rfl), rho_ref4]
  rcases he with rfl | rfl <;> simp [h, errOf, subE]

theorem tail4 {xs : List Int} {y o r fs : List D} {v u : D} {th : Bool} {far m k : Int} (H : Hp y o r (bookOf o)) (hbl : ∀ o' : List D, (∀ t ∈ o', okT bT t) → o'.length ≤ 100 → (bookOf o').length ≤ 20000) (h : Ptr y o v th fs) (hu : okV bT u) :
    exU (run true P04 17) Ψ4 (subE 3) [some (.arg (scr xs)), some (.dat (heapD y o r (bookOf o))), some (.dat (.int far)), some (.dat v), some (.dat (.int m)), some (.dat (.int k)), some (.dat u), none, none, none, none, none, none, none, none, none, none, none, none, none, none, none, none, none, none] U4e = some (.ret (.bool true)) := by
  have hkl : (keysB o).length ≤ 20000 := by have := hbl o H.to H.ol; rwa [book_keys, List.length_map] at this
  have err : ∀ (c : Nat) (told : Str), (c = 1 ∧ told = Str.ofString "thing") ∨ (c = 2 ∧ told = Str.ofString "field") → tryU (subE 3) [some (.arg (scr xs)), some (.dat (heapD y o r (bookOf o))), some (.dat (.int far)), some (.dat v), some (.dat (.int m)), some (.dat (.int k)), some (.dat u), some (.dat (.str told)), some (.dat (.str (Str.ofString ""))), some (.dat .none), none, none, none, none, none, none, none, none, none, none, none, none, none, none, none] 9 [⟨1, 8, .str (Str.ofString "thing")⟩, ⟨2, 8, .str (Str.ofString "field")⟩] (some (.err c)) =
      some (.next [some (.arg (scr xs)), some (.dat (heapD y o r (bookOf o))), some (.dat (.int far)), some (.dat v), some (.dat (.int m)), some (.dat (.int k)), some (.dat u), some (.dat (.str told)), some (.dat (.str told)), some (.dat .none), none, none, none, none, none, none, none, none, none, none, none, none, none, none, none]) := by
    rintro c told (⟨rfl, rfl⟩ | ⟨rfl, rfl⟩) <;> rfl
  have bad' : ∀ (c : Nat) (told : Str), (c = 1 ∧ told = Str.ofString "thing") ∨ (c = 2 ∧ told = Str.ofString "field") → run true P04 17 23 [heapD y o r (bookOf o), v, .int k, u] = some (.ok (.str told)) → run true P04 17 22 [heapD y o r (bookOf o), v, .int k, u] = some (.err c) →
      exU (run true P04 17) Ψ4 (subE 3) [some (.arg (scr xs)), some (.dat (heapD y o r (bookOf o))), some (.dat (.int far)), some (.dat v), some (.dat (.int m)), some (.dat (.int k)), some (.dat u), none, none, none, none, none, none, none, none, none, none, none, none, none, none, none, none, none, none] U4e = some (.ret (.bool true)) := by
    intro c told hc h1 h2
    have e1 := err c told hc
    have hp := psi4 h2 (hc.elim (fun q => .inl q.1) fun q => .inr q.1)
    simp [U4e, h1, h2, e1]
    simp [U4f, hp, refR]
  cases h with
  | no hv hn => exact bad' 1 _ (.inl ⟨rfl, rfl⟩) (r_due_no (n := 15) H hv hn k) (r_put_no (n := 13) hv hn k)
  | yes hs h0 hL hg hf hl =>
    rename_i s i a
    by_cases hk : 0 ≤ k ∧ k < fs.length
    · cases hb : bad y o u with
      | true => exact bad' 1 _ (.inl ⟨rfl, rfl⟩) (r_due_bad (n := 15) H hs h0 hL hg hf hl hk hu hb) (r_put_bad (n := 13) h0 hL hg hf hk hu hb)
      | false =>
        have h1 := r_due_ok (n := 15) H hs h0 hL hg hf hl hk hu hb
        have h2 := r_put_ok (n := 13) H hs h0 hL hg hf hl hkl hk hu hb
        have H' := put_hp H hs h0 hg hf hl (show k.toNat < fs.length by omega) hu
        have hpp := H'.pure
        have hal := r_heap_alike (keep := true) (P := P04) (n := 12) rfl rfl rfl rfl rfl rfl H' (hbl _ H'.to H'.ol)
        generalize putY y s i.toNat (fresh a fs k.toNat u) = y' at h1 h2 hpp hal
        generalize putO' o s i.toNat (fresh a fs k.toNat u) = o' at h1 h2 hpp hal
        generalize bookOf o' = b' at h1 h2 hpp hal
        unfold heapD at *
        simp [U4e, h1, h2, hpp]
        have i0 : ∀ x, evIsi .str (.tup x) = false := fun _ => rfl
        simp [U4f, hal, i0]
    · exact bad' 2 _ (.inr ⟨rfl, rfl⟩) (r_due_field (n := 15) H hs h0 hL hg hf hl hk) (r_put_field (n := 13) h0 hL hg hf hk)

theorem step4c {xs : List Int} {y o r : List D} {v : D} {far m : Int} (hm : 0 ≤ m ∧ m ≤ 101) (T : ∀ k : Int, exU (run true P04 17) Ψ4 (subE 3) [some (.arg (scr xs)), some (.dat (heapD y o r (bookOf o))), some (.dat (.int far)), some (.dat v), some (.dat (.int m)), some (.dat (.int k)), none, none, none, none, none, none, none, none, none, none, none, none, none, none, none, none, none, none, none] U4d = some (.ret (.bool true))) :
    exU (run true P04 17) Ψ4 (subE 3) [some (.arg (scr xs)), some (.dat (heapD y o r (bookOf o))), some (.dat (.int far)), some (.dat v), some (.dat (.int m)), none, none, none, none, none, none, none, none, none, none, none, none, none, none, none, none, none, none, none, none] U4c = some (.ret (.bool true)) := by
  have c4 := r_cell_at (keep := true) C04 (n := 16) (xs := xs) (k := 4) (by omega)
  have c7 := r_cell_at (keep := true) C04 (n := 16) (xs := xs) (k := 7) (by omega)
  have g0 : (0 : Int) < m + 4 := by omega
  by_cases q1 : 0 < m
  · by_cases q2 : 0 < cellAt xs 7 / 2 % 4
    · simp [U4c, c4, c7, g0, q1, q2, T]
    · simp [U4c, c4, c7, g0, q1, q2, T]
  · simp [U4c, c4, c7, g0, q1, T]

theorem step4d {xs : List Int} {y o r : List D} {v : D} {far m k : Int} (H : Hp y o r (bookOf o)) (T : ∀ u : D, okV bT u → exU (run true P04 17) Ψ4 (subE 3) [some (.arg (scr xs)), some (.dat (heapD y o r (bookOf o))), some (.dat (.int far)), some (.dat v), some (.dat (.int m)), some (.dat (.int k)), some (.dat u), none, none, none, none, none, none, none, none, none, none, none, none, none, none, none, none, none, none] U4e = some (.ret (.bool true))) :
    exU (run true P04 17) Ψ4 (subE 3) [some (.arg (scr xs)), some (.dat (heapD y o r (bookOf o))), some (.dat (.int far)), some (.dat v), some (.dat (.int m)), some (.dat (.int k)), none, none, none, none, none, none, none, none, none, none, none, none, none, none, none, none, none, none, none] U4d = some (.ret (.bool true)) := by
  have c6 := r_cell_at (keep := true) C04 (n := 16) (xs := xs) (k := 6) (by omega)
  have c7 := r_cell_at (keep := true) C04 (n := 16) (xs := xs) (k := 7) (by omega)
  obtain ⟨v1, o1, o2⟩ := r_pointer_by (keep := true) (P := P04) (j := 12) rfl (n := 16) (r := r) (bk := bookOf o) (c := cellAt xs 6) (far := far) H.ty H.to H.yl H.ol
  have p1 := o2.pure
  obtain ⟨v2, o3, o4⟩ := r_value_byL (keep := true) C04 (n := 15) (xs := xs) (k := 30000) (s0 := (y.length : Int)) (s1 := (o.length : Int)) (tl := []) (by omega)
  have o4' : okV bT v2 := o4.le fun _ _ _ => trivial
  have p2 := o4.pure
  have last : ∀ u : D, okV bT u → exU (run true P04 17) Ψ4 (subE 3) [some (.arg (scr xs)), some (.dat (heapD y o r (bookOf o))), some (.dat (.int far)), some (.dat v), some (.dat (.int m)), some (.dat (.int k)), some (.dat u), none, none, none, none, none, none, none, none, none, none, none, none, none, none, none, none, none, none] U4d2 = some (.ret (.bool true)) := by
    intro u hu
    by_cases q1 : 0 < y.length
    · by_cases q2 : cellAt xs 7 / 24 % 2 = 1
      · have tt := T (.tup [.str wY, .int (cellAt xs 6 % (y.length : Int))]) (.inr (.inr ⟨wY, _, .inl rfl, trivial, rfl⟩))
        have q3 : (0 : Int) < (y.length : Int) := by omega
        unfold heapD at *
        simp [U4d2, c6, c7, q1, q2, q3]
        exact tt
      · have tt := T u hu
        unfold heapD at *
        simp [U4d2, c6, c7, q1, q2]
        exact tt
    · have tt := T u hu
      unfold heapD at *
      simp [U4d2, c6, c7, q1]
      exact tt
  by_cases q : cellAt xs 7 % 2 = 1
  · have l2 := last v2 o4'
    unfold heapD at *
    simp [U4d, c6, c7, o1, p1, q, o3, p2]
    exact l2
  · have l2 := last v1 o2
    unfold heapD at *
    simp [U4d, c6, c7, o1, p1, q]
    exact l2

theorem step4b {xs : List Int} {y o r : List D} {v : D} {far : Int} (H : Hp y o r (bookOf o)) (hv : okV bT v) (T : ∀ (v : D) (th : Bool) (fs : List D) (m : Int), Ptr y o v th fs → (0 ≤ m ∧ m ≤ 101) → exU (run true P04 17) Ψ4 (subE 3) [some (.arg (scr xs)), some (.dat (heapD y o r (bookOf o))), some (.dat (.int far)), some (.dat v), some (.dat (.int m)), none, none, none, none, none, none, none, none, none, none, none, none, none, none, none, none, none, none, none, none] U4c = some (.ret (.bool true))) :
    exU (run true P04 17) Ψ4 (subE 3) [some (.arg (scr xs)), some (.dat (heapD y o r (bookOf o))), some (.dat (.int far)), some (.dat v), none, none, none, none, none, none, none, none, none, none, none, none, none, none, none, none, none, none, none, none, none] U4b = some (.ret (.bool true)) := by
  have c3 := r_cell_at (keep := true) C04 (n := 16) (xs := xs) (k := 3) (by omega)
  have c7 := r_cell_at (keep := true) C04 (n := 16) (xs := xs) (k := 7) (by omega)
  have last : ∀ v : D, okV bT v → exU (run true P04 17) Ψ4 (subE 3) [some (.arg (scr xs)), some (.dat (heapD y o r (bookOf o))), some (.dat (.int far)), some (.dat v), none, none, none, none, none, none, none, none, none, none, none, none, none, none, none, none, none, none, none, none, none] U4b2 = some (.ret (.bool true)) := by
    intro v hv
    obtain ⟨th, fs, hP, hq⟩ := ptr_of H hv
    clear hq
    cases hP with
    | no hv hn =>
      have tt := T v false [] 0 (.no hv hn) (by omega)
      rcases hv.ptr with ⟨h1, h2⟩ | ⟨s, i, hs, _, rfl⟩
      · have h3 : evIsi .tuple v = false := by rw [isi_ptr]; exact h1
        unfold heapD at *
        simp [U4b2, h3]
        exact tt
      · have hle := r_lleads (keep := true) (P := P04) (n := 16) (j := 11) rfl (r := r) (bk := bookOf o) (i := i) hs H.ty H.to
        have hL : lead y o (.tup [.str s, .int i]) = false := by simpa [isPtr] using hn
        rw [hL] at hle
        unfold heapD at *
        simp [U4b2, hle]
        exact tt
    | yes hs h0 hL hg hf hl =>
      rename_i s i a
      have tt := T _ true fs (fs.length : Int) (.yes hs h0 hL hg hf hl) (by omega)
      have hle := r_lleads (keep := true) (P := P04) (n := 16) (j := 11) rfl (r := r) (bk := bookOf o) (i := i) hs H.ty H.to
      rw [hL] at hle
      rcases hs with rfl | rfl
      · have hg' : y[i.toNat]? = some (.tup [.int a, .tup fs]) := hg
        unfold heapD at *
        simp [U4b2, hle, h0, hg']
        exact tt
      · have hg' : o[i.toNat]? = some (.tup [.int a, .tup fs]) := hg
        unfold heapD at *
        simp [U4b2, hle, h0, hg']
        exact tt
  by_cases q1 : 0 < o.length
  · by_cases q2 : 0 < cellAt xs 7 / 8 % 3
    · have tt := last (.tup [.str wO, .int (cellAt xs 3 % (o.length : Int))]) (.inr (.inr ⟨wO, _, .inr rfl, trivial, rfl⟩))
      unfold heapD at *
      simp [U4b, c3, c7, q1, q2]
      exact tt
    · have tt := last v hv
      unfold heapD at *
      simp [U4b, c3, c7, q1, q2]
      exact tt
  · have tt := last v hv
    unfold heapD at *
    simp [U4b, c3, c7, q1]
    exact tt

theorem rho_law4 (a : D) : rho0 N_law4 [Str.ofString "_law_script"] [a] = [some (.arg a), none, none, none, none, none, none, none, none, none, none, none, none, none, none, none, none, none, none, none, none, none, none, none, none] := by kernel_rfl
theorem r_law04 {xs : List Int} : exU (run true P04 17) Ψ4 (subE 3) (rho0 N_law4 [Str.ofString "_law_script"] [scr xs]) U4a = some (.ret (.bool true)) := by
  rw [rho_law4]
  obtain ⟨y, o, r, hh, HO⟩ := r_heap_by (keep := true) C04 (n := 13) (xs := xs)
  have H0 : Hp y o r (bookOf o) := ⟨by have := HO.yl; omega, by have := HO.ol; omega, by have := HO.rl; omega, fun t ht => ((HO.ty t ht).le (by omega)).leB fun _ _ _ => trivial, fun t ht => ((HO.to t ht).le (by omega)).leB fun _ _ _ => trivial, fun t ht => (HO.vr t ht).le fun _ _ _ => trivial, bookOf_pairs o⟩
  have hbl : ∀ o' : List D, (∀ t ∈ o', okT bT t) → o'.length ≤ 100 → (bookOf o').length ≤ 20000 := by
    intro o' h1 h2
    have h3 : (bookOf o').length ≤ o'.length * 101 := by rw [← bookTo_all]; exact bookTo_len h1 _ (Nat.le_refl _)
    omega
  have hh' : run true P04 17 7 [scr xs] = some (.ok (heapD y o r (bookOf o))) := hh
  have hp0 := H0.pure
  have c3 := r_cell_at (keep := true) C04 (n := 16) (xs := xs) (k := 3) (by omega)
  have c5 := r_cell_at (keep := true) C04 (n := 16) (xs := xs) (k := 5) (by omega)
  have big : (10 : Int) ^ 60 - 101 = 999999999999999999999999999999999999999999999999999999999899 := by decide +kernel
  obtain ⟨v, o1, o2⟩ := r_pointer_by (keep := true) (P := P04) (j := 12) rfl (n := 16) (r := r) (bk := bookOf o) (c := cellAt xs 3) (far := cellAt xs 5 % ((10 : Int) ^ 60 - 101)) H0.ty H0.to H0.yl H0.ol
  have odp := o2.pure
  rw [big] at o1
  have tl := step4b (xs := xs) (far := cellAt xs 5 % 999999999999999999999999999999999999999999999999999999999899) H0 o2 fun v th fs m hP hm => step4c hm fun k => step4d H0 fun u hu => tail4 H0 hbl hP hu
  unfold heapD at *
  simp [U4a, hh', hp0, c3, c5, o1, odp]
  exact tl
end
end Mine


open PySem PySem.W PyProof.Rows
namespace Mine
/-- the text's statements but those that set its name -/
noncomputable def q04 : Program := { PySem.Challenge.pw_uf040005_04 with main := { PySem.Challenge.pw_uf040005_04.main with body := (((PySem.Challenge.pw_uf040005_04.main.body.eraseIdx 12).eraseIdx 4).eraseIdx 0) } }
noncomputable abbrev hook04 : Hook := excHook excs04 (subE excs04.length)
theorem left04 : LeftO PySem.Challenge.pw_uf040005_04 q04 [] (fun s => xlAt q04 [] s && recOk (RowW.records (PySem.Challenge.rw_uf040005_04.row.toRowW)) s) (Hook.obs hook04) (Hook.val hook04) 3300 := by
  intro w
  kernel_rfl
noncomputable def dl04 : DefRec := ((recsOf q04).find? (fun d => d.name == ("law" : Str))).get (by kernel_rfl)
noncomputable def dr04 : DefRec := ((recsOf q04).find? (fun d => d.name == ("_law_refused_by_any" : Str))).get (by kernel_rfl)
theorem hrun04 {xs : List Int} : exU (run true P04 17) (refRun (run true P04 17) (subE excs04.length) dr04.scope.names (dr04.params.args.map (·.arg)) (22, (.cons (.v 0) (.cons (.v 1) (.cons (.v 2) (.cons (.v 3) .nil))))) 0 fun _ _ => some true) (subE excs04.length) (rho0 dl04.scope.names (dl04.params.args.map (·.arg)) [.lst (xs.map .int)]) U4a = some (.ret (.bool true)) := by
  rw [show dr04.scope.names = N_refused4 by kernel_rfl, show dr04.params.args.map (·.arg) = [Str.ofString "_law_heap", Str.ofString "_law_pointer", Str.ofString "_law_k", Str.ofString "_law_value"] by kernel_rfl, show dl04.scope.names = N_law4 by kernel_rfl, show dl04.params.args.map (·.arg) = [Str.ofString "_law_script"] by kernel_rfl]
  exact r_law04
end Mine
set_option maxHeartbeats 8000000 in
theorem PySem.Challenge.cw_uf040005_04_holds : PySem.Challenge.rw_uf040005_04.Holds := by
  w_on
  refine holds_law (by decide +kernel) fun said => ?_
  refine holds_open (q := Mine.q04) (loose := []) (Xt := fun s => xlAt Mine.q04 [] s && recOk (RowW.records (PySem.Challenge.rw_uf040005_04.row.toRowW)) s) (XP := XL Mine.q04 []) (Yf := Hook.obs Mine.hook04) (Ya := Hook.val Mine.hook04) (YP := Hook.says Mine.hook04) (N := 3300) Mine.left04 (Hook.of Mine.hook04) (Hook.keeps Mine.hook04) (fun s e => xl_of s (Bool.and_eq_true_iff.mp e).1) XL.keeps (by rfl) (by rfl) (by rfl) (fun s e => recFacts_of (Bool.and_eq_true_iff.mp e).2) (by rfl) said (by decide +kernel) ⟨rfl, rfl, rfl, rfl, rfl, by decide +kernel⟩ ?hw ?hc
  case hw => w_witness2
  intro w s₀ s₁ mg mb G Y fa o pm cd doc dV kV ho hd hcd hD hmg hg args vals as hpre hlay hrd hwl hlo
  refine Ground.open G ?_
  intro T B D TE TW
  have hmg' : mg ("law" : Str) = some (.ref fa) := hmg
  clear hd hmg hcd ho B D TE TW G
  wrow_args hpre hlay hrd hwl hlo
  all_goals (
    refine wpAny_mono (Mine.law_runs2 (fns := Mine.fns04) (excs := Mine.excs04) (P := Mine.P04) (N := 40) (n := "law") (rf := "_law_refused_by_any") (dl := Mine.dl04) (dr := Mine.dr04) (us := Mine.U4a) (qr := (22, (.cons (.v 0) (.cons (.v 1) (.cons (.v 2) (.cons (.v 3) .nil)))))) (ci := 0) T Y (by kernel_rfl) (by decide +kernel) (by decide +kernel) (Option.some_get _).symm (by kernel_rfl) (Option.some_get _).symm (by kernel_rfl) (by kernel_rfl) (by kernel_rfl) hmg' (by assumption) (by omega) (by kernel_rfl) Mine.hrun04) (fun v s' q => Mine.good_true q hg (raisesW_false (by wrow_none_raised)) (by wrow_post)) (fun _ _ x => x))
