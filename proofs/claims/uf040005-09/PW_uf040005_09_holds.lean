import PyProof.Rows.All
import Wide.All
import OpenK.AllK
import Wide.FinOn
import PySem.Challenge.RW_uf040005_09
set_option autoImplicit false
set_option Elab.async false
set_option linter.unusedSimpArgs false
set_option linter.unusedVariables false
set_option maxRecDepth 100000
namespace Mine
open PySem PySem.Calls PyProof.Rows

/-- pure data -/
inductive D where
  | none
  | bool (b : Bool)
  | int (i : Int)
  | str (x : Str)
  | tup (ds : List D)
  | lst (ds : List D)

/-- no list within, nested n deep at most -/
noncomputable def D.okN : Nat → D → Bool
  | 0, .tup _ => false
  | n + 1, .tup ds => ds.all (okN n)
  | _, .lst _ => false
  | _, _ => true
noncomputable def D.pure (d : D) : Bool := d.okN 8
noncomputable def D.pures (ds : List D) : Bool := ds.all D.pure
@[simp] theorem D.okN_none (n : Nat) : D.okN n .none = true := by cases n <;> rfl
@[simp] theorem D.okN_bool (n : Nat) (b : Bool) : D.okN n (.bool b) = true := by cases n <;> rfl
@[simp] theorem D.okN_int (n : Nat) (b : Int) : D.okN n (.int b) = true := by cases n <;> rfl
@[simp] theorem D.okN_str (n : Nat) (b : Str) : D.okN n (.str b) = true := by cases n <;> rfl
@[simp] theorem D.okN_lst (n : Nat) (b : List D) : D.okN n (.lst b) = false := by cases n <;> rfl
theorem D.okN_tup (n : Nat) (ds : List D) : D.okN (n + 1) (.tup ds) = ds.all (D.okN n) := rfl
theorem D.okN_succ : ∀ (n : Nat) (d : D), d.okN n = true → d.okN (n + 1) = true
  | 0, .tup _, h => by simp [D.okN] at h
  | n + 1, .tup ds, h => by
    simp only [D.okN_tup, List.all_eq_true] at h ⊢
    exact fun x hx => D.okN_succ n x (h x hx)
  | _, .none, _ => by simp
  | _, .bool _, _ => by simp
  | _, .int _, _ => by simp
  | _, .str _, _ => by simp
  | _, .lst _, h => by simp at h
theorem D.okN_le {n m : Nat} (h : n ≤ m) {d : D} (e : d.okN n = true) : d.okN m = true := by
  induction h with
  | refl => exact e
  | step _ ih => exact D.okN_succ _ _ ih
@[simp] theorem D.pure_none : D.pure .none = true := rfl
@[simp] theorem D.pure_bool (b : Bool) : D.pure (.bool b) = true := rfl
@[simp] theorem D.pure_int (b : Int) : D.pure (.int b) = true := rfl
@[simp] theorem D.pure_str (b : Str) : D.pure (.str b) = true := rfl
theorem D.pure_item {ds : List D} (h : D.pure (.tup ds) = true) : D.pures ds = true := by
  simp only [D.pure, D.okN_tup, D.pures, List.all_eq_true] at h ⊢
  exact fun x hx => D.okN_succ _ _ (h x hx)

mutual
/-- Python's == upon pure data -/
noncomputable def D.eqb : D → D → Bool
  | .none, .none => true
  | .bool a, .bool b => a == b
  | .int a, .int b => a == b
  | .bool a, .int b => (if a then 1 else 0) == b
  | .int a, .bool b => a == (if b then 1 else 0)
  | .str a, .str b => a == b
  | .tup a, .tup b => D.eqbs a b
  | _, _ => false
noncomputable def D.eqbs : List D → List D → Bool
  | [], [] => true
  | a :: as, b :: bs => D.eqb a b && D.eqbs as bs
  | _, _ => false
end

/-- the greatest length of a tuple or list here -/
noncomputable def lim : Nat := 1000000

mutual
inductive V (h : Heap) : Value → D → Prop
  | none : V h .none .none
  | bool (b : Bool) : V h (.bool b) (.bool b)
  | int (i : Int) (t : Tok) : V h (.int i t) (.int i)
  | str (x : Str) (t : Tok) : V h (.str x t) (.str x)
  | tup {a : Addr} {vs : List Value} {ds : List D} : h.IsTuple a vs.toArray → Vs h vs ds → ds.length ≤ lim → V h (.ref a) (.tup ds)
  | lst {a : Addr} {vs : List Value} {ds : List D} : h.PlainList a vs.toArray → Vs h vs ds → ds.length ≤ lim → V h (.ref a) (.lst ds)
inductive Vs (h : Heap) : List Value → List D → Prop
  | nil : Vs h [] []
  | cons {v : Value} {vs : List Value} {d : D} {ds : List D} : V h v d → Vs h vs ds → Vs h (v :: vs) (d :: ds)
end

theorem IsTuple_keep {h h' : Heap} {a : Addr} {items : Array Value} (x : h.IsTuple a items) (k : ∀ b o, h.get? b = some o → h'.get? b = some o) : h'.IsTuple a items :=
  let ⟨o, ho, r⟩ := x; ⟨o, k a o ho, r⟩
theorem IsList_keep {h h' : Heap} {a : Addr} {items : Array Value} (x : h.IsList a items) (k : ∀ b o, h.get? b = some o → h'.get? b = some o) : h'.IsList a items :=
  let ⟨o, ho, r⟩ := x; ⟨o, k a o ho, r⟩

mutual
theorem V.mono {h h' : Heap} (k : ∀ b o, h.get? b = some o → h'.get? b = some o) : ∀ {v : Value} {d : D}, V h v d → V h' v d
  | _, _, .none => .none
  | _, _, .bool b => .bool b
  | _, _, .int i t => .int i t
  | _, _, .str x t => .str x t
  | _, _, .tup a b c => .tup (IsTuple_keep a k) (Vs.mono k b) c
  | _, _, .lst a b c => .lst (a.at fun o e => k _ o e) (Vs.mono k b) c
theorem Vs.mono {h h' : Heap} (k : ∀ b o, h.get? b = some o → h'.get? b = some o) : ∀ {v : List Value} {d : List D}, Vs h v d → Vs h' v d
  | _, _, .nil => .nil
  | _, _, .cons a b => .cons (V.mono k a) (Vs.mono k b)
end

/-- pure data hangs on tuples alone -/
theorem V.okKeep {h h' : Heap} (k : ∀ a items, h.IsTuple a items → h'.IsTuple a items) : ∀ (n : Nat) {v : Value} {d : D}, V h v d → d.okN n = true → V h' v d
  | _, _, _, .none, _ => .none
  | _, _, _, .bool b, _ => .bool b
  | _, _, _, .int i t, _ => .int i t
  | _, _, _, .str x t, _ => .str x t
  | 0, _, _, .tup .., e => by simp [D.okN] at e
  | n + 1, _, _, .tup (vs := vs) (ds := ds) a b c, e => by
    rw [D.okN_tup] at e
    refine .tup (k _ _ a) ?_ c
    have go : ∀ (vs : List Value) (ds : List D), Vs h vs ds → ds.all (D.okN n) = true → Vs h' vs ds := by
      intro vs
      induction vs with
      | nil => intro ds x _; cases x; exact .nil
      | cons v vs ih =>
        intro ds x e
        cases x with
        | cons p q =>
          simp only [List.all_cons, Bool.and_eq_true] at e
          exact .cons (V.okKeep k n p e.1) (ih _ q e.2)
    exact go vs ds b e
  | _, _, _, .lst .., e => by simp at e
theorem V.pureKeep {h h' : Heap} (k : ∀ a items, h.IsTuple a items → h'.IsTuple a items) {v : Value} {d : D} (x : V h v d) (e : d.pure = true) : V h' v d := V.okKeep k 8 x e
theorem Vs.pureKeep {h h' : Heap} (k : ∀ a items, h.IsTuple a items → h'.IsTuple a items) : ∀ {v : List Value} {d : List D}, Vs h v d → D.pures d = true → Vs h' v d
  | _, _, .nil, _ => .nil
  | _, _, .cons a b, e => by
    simp only [D.pures, List.all_cons, Bool.and_eq_true] at e
    exact .cons (V.pureKeep k a e.1) (Vs.pureKeep k b e.2)

section
variable {h : Heap} {vs ws : List Value} {ds es : List D} {v : Value} {d : D}
theorem Vs.length (x : Vs h vs ds) : vs.length = ds.length := by
  induction vs generalizing ds with
  | nil => cases x; rfl
  | cons v vs ih => cases x with | cons a b => rw [List.length_cons, List.length_cons, ih b]
theorem Vs.append (x : Vs h vs ds) (y : Vs h ws es) : Vs h (vs ++ ws) (ds ++ es) := by
  induction vs generalizing ds with
  | nil => cases x; exact y
  | cons v vs ih => cases x with | cons a b => exact .cons a (ih b)
theorem Vs.one (x : V h v d) : Vs h [v] [d] := .cons x .nil
theorem Vs.get (x : Vs h vs ds) {k : Nat} (e : ds[k]? = some d) : ∃ v, vs[k]? = some v ∧ V h v d := by
  induction vs generalizing ds k with
  | nil => cases x; simp at e
  | cons v vs ih =>
    cases x with
    | cons a b =>
      cases k with
      | zero => simp at e; subst e; exact ⟨v, rfl, a⟩
      | succ k => simp at e; simpa using ih b e
theorem Vs.get' (x : Vs h vs ds) {k : Nat} (e : vs[k]? = some v) : ∃ d, ds[k]? = some d ∧ V h v d := by
  induction vs generalizing ds k with
  | nil => simp at e
  | cons v vs ih =>
    cases x with
    | cons a b =>
      cases k with
      | zero => simp at e; subst e; exact ⟨_, rfl, a⟩
      | succ k => simp at e; simpa using ih b e
theorem Vs.take (x : Vs h vs ds) (k : Nat) : Vs h (vs.take k) (ds.take k) := by
  induction vs generalizing ds k with
  | nil => cases x; simpa using Vs.nil
  | cons v vs ih =>
    cases x with
    | cons a b =>
      cases k with
      | zero => exact .nil
      | succ k => exact .cons a (ih b k)
theorem Vs.drop (x : Vs h vs ds) (k : Nat) : Vs h (vs.drop k) (ds.drop k) := by
  induction vs generalizing ds k with
  | nil => cases x; simpa using Vs.nil
  | cons v vs ih =>
    cases x with
    | cons a b =>
      cases k with
      | zero => exact .cons a b
      | succ k => exact ih b k
theorem Vs.set (x : Vs h vs ds) (k : Nat) (y : V h v d) : Vs h (vs.set k v) (ds.set k d) := by
  induction vs generalizing ds k with
  | nil => cases x; simpa using Vs.nil
  | cons v vs ih =>
    cases x with
    | cons a b =>
      cases k with
      | zero => exact .cons y b
      | succ k => exact .cons a (ih b k)
end

/-- a key of a dict: an int, or a pair of a str and an int -/
abbrev Ky := Option Str × Int
/-- what a local holds: data; an argument; a list of the frame's own; a dict of the frame's own -/
inductive Lo where
  | dat (d : D)
  | arg (d : D)
  | own (ds : List D)
  | dic (kvs : List (Ky × D))
  | ob (a : Nat)
noncomputable def Lo.val : Lo → D
  | .dat d => d
  | .arg d => d
  | .own ds => .lst ds
  | .dic _ => .none
  | .ob _ => .none
noncomputable def Lo.dic? : Lo → Option (List (Ky × D))
  | .dic kvs => some kvs
  | _ => none
noncomputable def Lo.val? (lo : Lo) : Option D := match lo with
  | .dic _ => none
  | .ob _ => none
  | lo => some lo.val

set_option genSizeOf false
set_option genInjectivity false
inductive Op where | add | sub | mul | div | mod | pow
inductive Cm where | eq | ne | lt | le | gt | ge | is | isNot
inductive Ty where | tuple | int | bool | str

mutual
inductive E where
  | k (d : D)
  | v (i : Nat)
  | bin (o : Op) (a b : E)
  | neg (a : E)
  | not (a : E)
  | cmp (o : Cm) (a b : E)
  | chain (o₁ o₂ : Cm) (a b c : E)
  | and (a b : E)
  | or (a b : E)
  | idx (a i : E)
  | slFrom (a lo : E)
  | tup (es : Es)
  | lst (es : Es)
  | call (f : Nat) (es : Es)
  | len (a : E)
  | isi (a : E) (t : Ty)
  | max (a b : E)
  | toInt (a : E)
  | toTup (a : E)
  | comp (elt : E) (it : It) (cond : E)
  | inD (neg : Bool) (a : E) (x : Nat)
  | get (x : Nat) (a : E)
inductive It where
  | range (a : E)
  | range2 (a b : E)
  | seq (a : E)
inductive Es where
  | nil
  | cons (e : E) (es : Es)
end

set_option genInjectivity true
/-- what a call gives: a value, or an own exception by its class's number -/
inductive Out where
  | ok (d : D)
  | err (c : Nat)
abbrev Fns := Nat → List D → Option Out
abbrev Rho := List (Option Lo)
noncomputable def Rho.get (ρ : Rho) (i : Nat) : Option Lo := (ρ[i]?).getD none

/-! taking apart -/
theorem nns {α : Type} {x : α} {P : Prop} (h : (none : Option α) = some x) : P := nomatch h
theorem nnb {P : Prop} (h : false = true) : P := nomatch h
theorem ob {α β : Type} {x : Option α} {f : α → Option β} {b : β} (h : x.bind f = some b) : ∃ a, x = some a ∧ f a = some b := Option.bind_eq_some_iff.mp h
theorem om {α β : Type} {x : Option α} {f : α → β} {b : β} (h : x.map f = some b) : ∃ a, x = some a ∧ f a = b := Option.map_eq_some_iff.mp h
theorem oi {p : Prop} [Decidable p] {α : Type} {x y : α} (h : (if p then some x else none) = some y) : p ∧ x = y := by
  by_cases q : p
  · rw [if_pos q] at h; exact ⟨q, Option.some.inj h⟩
  · rw [if_neg q] at h; cases h
theorem oi' {p : Prop} [Decidable p] {α : Type} {x : Option α} {y : α} (h : (if p then x else none) = some y) : p ∧ x = some y := by
  by_cases q : p
  · rw [if_pos q] at h; exact ⟨q, h⟩
  · rw [if_neg q] at h; cases h

noncomputable def intOf : D → Option Int
  | .int i => some i
  | _ => none
noncomputable def tupOf : D → Option (List D)
  | .tup i => some i
  | _ => none
noncomputable def lstOf : D → Option (List D)
  | .lst i => some i
  | _ => none
noncomputable def strOf : D → Option Str
  | .str i => some i
  | _ => none
noncomputable def isTrueD : D → Option Bool
  | .bool b => some b
  | _ => none
noncomputable def isNoneD : D → Bool
  | .none => true
  | _ => false
noncomputable def items : D → Option (List D)
  | .tup ds => some ds
  | .lst ds => some ds
  | _ => none
theorem intOf_some {d : D} {i : Int} (h : intOf d = some i) : d = .int i := by cases d <;> cases h <;> rfl
theorem tupOf_some {d : D} {i : List D} (h : tupOf d = some i) : d = .tup i := by cases d <;> cases h <;> rfl
theorem lstOf_some {d : D} {i : List D} (h : lstOf d = some i) : d = .lst i := by cases d <;> cases h <;> rfl
theorem strOf_some {d : D} {i : Str} (h : strOf d = some i) : d = .str i := by cases d <;> cases h <;> rfl
theorem isTrueD_some {d : D} {b : Bool} (h : isTrueD d = some b) : d = .bool b := by cases d <;> cases h <;> rfl
noncomputable def i2 {α : Type} (x y : D) (f : Int → Int → Option α) : Option α := (intOf x).bind fun a => (intOf y).bind fun b => f a b
theorem i2_some {α : Type} {x y : D} {f : Int → Int → Option α} {r : α} (h : i2 x y f = some r) : ∃ a b, x = .int a ∧ y = .int b ∧ f a b = some r := by
  replace h := ob h
  obtain ⟨a, ha, h⟩ := h
  replace h := ob h
  obtain ⟨b, hb, h⟩ := h
  exact ⟨a, b, intOf_some ha, intOf_some hb, h⟩

noncomputable def addD (x y : D) : Option D := match x with
  | .int a => (intOf y).map fun b => .int (a + b)
  | .tup a => (tupOf y).bind fun b => if a.length + b.length ≤ lim then some (.tup (a ++ b)) else none
  | .lst a => (lstOf y).bind fun b => if a.length + b.length ≤ lim then some (.lst (a ++ b)) else none
  | _ => none
noncomputable def evBin (o : Op) (x y : D) : Option D := match o with
  | .add => addD x y
  | .sub => i2 x y fun a b => some (.int (a - b))
  | .mul => i2 x y fun a b => if a.natAbs < 1000000000 ∨ b.natAbs < 1000000000 then some (.int (a * b)) else none
  | .div => i2 x y fun a b => if 0 < b ∧ b < 1000000000 then some (.int (a / b)) else none
  | .mod => i2 x y fun a b => if 0 < b then some (.int (a % b)) else none
  | .pow => i2 x y fun a b => if a = 10 ∧ b = 60 then some (.int (10 ^ 60)) else none

noncomputable def evCmp (o : Cm) (x y : D) : Option Bool := match o with
  | .eq => if (x.pure && y.pure) = true then some (x.eqb y) else none
  | .ne => if (x.pure && y.pure) = true then some (!x.eqb y) else none
  | .lt => i2 x y fun a b => some (decide (a < b))
  | .le => i2 x y fun a b => some (decide (a ≤ b))
  | .gt => i2 x y fun a b => some (decide (a > b))
  | .ge => i2 x y fun a b => some (decide (a ≥ b))
  | .is => if isNoneD y = true then some (isNoneD x) else none
  | .isNot => if isNoneD y = true then some (!isNoneD x) else none

noncomputable def evIsi (t : Ty) (x : D) : Bool := match t with
  | .tuple => (tupOf x).isSome
  | .int => (intOf x).isSome || (isTrueD x).isSome
  | .bool => (isTrueD x).isSome
  | .str => (strOf x).isSome

/-- a place of a sequence, from nought; no place below it is asked -/
noncomputable def evIdx (x y : D) : Option D := (items x).bind fun ds => (intOf y).bind fun i => if 0 ≤ i then ds[i.toNat]? else none
noncomputable def negD (x : D) : Option D := (intOf x).map fun i => .int (-i)
noncomputable def notD (x : D) : Option D := (isTrueD x).map fun i => .bool (!i)
noncomputable def maxD (x y : D) : Option D := i2 x y fun a b => some (.int (if b > a then b else a))
noncomputable def toIntD (x : D) : Option D := (isTrueD x).map fun b => .int (if b then 1 else 0)
noncomputable def cutFrom (x y : D) : Option D := (tupOf x).bind fun ds => (intOf y).bind fun i => if 0 ≤ i then some (.tup (ds.drop i.toNat)) else none
noncomputable def okOf : Out → Option D
  | .ok d => some d
  | .err _ => none
theorem okOf_some {o : Out} {d : D} (h : okOf o = some d) : o = .ok d := by cases o <;> cases h; rfl

/-- a comprehension: the items whose test is true, each by f -/
noncomputable def compO {α β : Type} (c : α → Option Bool) (f : α → Option β) : List α → Option (List β)
  | [] => some []
  | a :: as => (c a).bind fun p => if p = true then (f a).bind fun b => (compO c f as).map fun bs => b :: bs else compO c f as
noncomputable def rangeD (a b : Int) : List D := (List.range (b - a).toNat).map fun (i : Nat) => D.int (a + i)

theorem rangeD_get {a b : Int} {i : Nat} (h : i < (rangeD a b).length) : (rangeD a b)[i]? = some (.int (a + i)) := by
  simp only [rangeD, List.length_map, List.length_range] at h
  simp [rangeD, h]

/-! dicts -/
noncomputable def keyD : D → Option Ky
  | .int i => some (none, i)
  | .tup ds => match ds with
    | [.str x, .int i] => some (some x, i)
    | _ => none
  | _ => none
noncomputable def lookK (kvs : List (Ky × D)) (k : Ky) : Option D := (kvs.find? fun x => decide (x.1 = k)).map (·.2)
noncomputable def putK (kvs : List (Ky × D)) (k : Ky) (d : D) : List (Ky × D) := if (lookK kvs k).isSome = true then kvs.map (fun x => if x.1 = k then (x.1, d) else x) else kvs ++ [(k, d)]
/-- keys of one kind -/
noncomputable def kindOk (kvs : List (Ky × D)) (k : Ky) : Bool := k.1.isSome && kvs.all (fun x => x.1.1.isSome)
noncomputable def flat : D → Bool
  | .bool _ => true
  | .int _ => true
  | _ => false
noncomputable def Rho.dic? (ρ : Rho) (x : Nat) : Option (List (Ky × D)) := (ρ.get x).bind Lo.dic?

mutual
noncomputable def ev (Φ : Fns) (ρ : Rho) : E → Option D
  | .k d => some d
  | .v i => (ρ.get i).bind Lo.val?
  | .bin o a b => (ev Φ ρ a).bind fun x => (ev Φ ρ b).bind fun y => evBin o x y
  | .neg a => (ev Φ ρ a).bind negD
  | .not a => (ev Φ ρ a).bind notD
  | .cmp o a b => (ev Φ ρ a).bind fun x => (ev Φ ρ b).bind fun y => (evCmp o x y).map .bool
  | .chain o₁ o₂ a b c => (ev Φ ρ a).bind fun x => (ev Φ ρ b).bind fun y => (evCmp o₁ x y).bind fun p => if p = true then (ev Φ ρ c).bind fun z => (evCmp o₂ y z).map .bool else some (.bool false)
  | .and a b => (ev Φ ρ a).bind fun x => (isTrueD x).bind fun p => if p = true then (ev Φ ρ b).bind fun y => (isTrueD y).map .bool else some (.bool false)
  | .or a b => (ev Φ ρ a).bind fun x => (isTrueD x).bind fun p => if p = true then some (.bool true) else (ev Φ ρ b).bind fun y => (isTrueD y).map .bool
  | .idx a i => (ev Φ ρ a).bind fun x => (ev Φ ρ i).bind fun y => evIdx x y
  | .slFrom a lo => (ev Φ ρ a).bind fun x => (ev Φ ρ lo).bind fun y => cutFrom x y
  | .tup es => (evs Φ ρ es).map .tup
  | .lst es => (evs Φ ρ es).map .lst
  | .call f es => (evs Φ ρ es).bind fun ds => (Φ f ds).bind okOf
  | .len a => (ev Φ ρ a).bind fun x => (items x).map fun ds => .int ds.length
  | .isi a t => (ev Φ ρ a).map fun d => .bool (evIsi t d)
  | .max a b => (ev Φ ρ a).bind fun x => (ev Φ ρ b).bind fun y => maxD x y
  | .toInt a => (ev Φ ρ a).bind toIntD
  | .toTup a => (ev Φ ρ a).bind fun x => (items x).map .tup
  | .comp elt it cond => (evIt Φ ρ it).bind fun ds => (compO (fun d => (ev Φ (ρ ++ [some (.dat d)]) cond).bind isTrueD) (fun d => ev Φ (ρ ++ [some (.dat d)]) elt) ds).bind fun res => if D.pures res = true then some (.lst res) else none
  | .inD neg a x => (ev Φ ρ a).bind fun d => (keyD d).bind fun k => (ρ.dic? x).bind fun kvs => if kindOk kvs k = true then some (.bool (if neg = true then !(lookK kvs k).isSome else (lookK kvs k).isSome)) else none
  | .get x a => (ev Φ ρ a).bind fun d => (keyD d).bind fun k => (ρ.dic? x).bind fun kvs => if kindOk kvs k = true then lookK kvs k else none
noncomputable def evIt (Φ : Fns) (ρ : Rho) : It → Option (List D)
  | .range a => (ev Φ ρ a).bind fun x => (intOf x).bind fun n => if -lim ≤ n ∧ n ≤ lim then some (rangeD 0 n) else none
  | .range2 a b => (ev Φ ρ a).bind fun x => (ev Φ ρ b).bind fun y => i2 x y fun m n => if 0 ≤ m ∧ m ≤ lim ∧ -lim ≤ n ∧ n ≤ lim then some (rangeD m n) else none
  | .seq a => (ev Φ ρ a).bind fun d => (items d).bind fun ds => if D.pures ds = true then some ds else none
noncomputable def evs (Φ : Fns) (ρ : Rho) : Es → Option (List D)
  | .nil => some []
  | .cons e es => (ev Φ ρ e).bind fun d => (evs Φ ρ es).map fun ds => d :: ds
end
end Mine

namespace Mine
open PySem PySem.Calls PyProof.Rows PySem.SeqAt

theorem keeps_refl (s : Shared) : Keeps s s := ⟨s.heap, s.toks, rfl, fun _ _ e => e⟩
theorem keeps_toks (s : Shared) (t : Nat) : Keeps s { s with toks := t } := ⟨s.heap, t, rfl, fun _ _ e => e⟩
theorem keeps_trans {s s' s'' : Shared} (x : Keeps s s') (y : Keeps s' s'') : Keeps s s'' := by
  obtain ⟨h, t, rfl, k⟩ := x
  obtain ⟨h', t', rfl, k'⟩ := y
  exact ⟨h', t', rfl, fun b o e => k' b o (k b o e)⟩
theorem keeps_push (s : Shared) (o : Obj) (t : Nat) : Keeps s { s with heap := s.heap.push o, toks := t } := ⟨_, t, rfl, fun _ _ e => Heap.get?_push_of_some _ e⟩
theorem keeps_heap {s s' : Shared} (x : Keeps s s') : ∀ b o, s.heap.get? b = some o → s'.heap.get? b = some o := by
  obtain ⟨h, t, rfl, k⟩ := x; exact k

theorem tuple_inj {h : Heap} {a : Addr} {vs ws : List Value} (x : h.IsTuple a vs.toArray) (y : h.IsTuple a ws.toArray) : vs = ws := by
  obtain ⟨o, ho, _, n, hd⟩ := x
  obtain ⟨o', ho', _, n', hd'⟩ := y
  rw [ho] at ho'; cases ho'
  rw [hd] at hd'
  injection hd' with e
  simpa using congrArg Array.toList e

mutual
theorem V.eqb_same {h : Heap} : ∀ (n : Nat) {v : Value} {x y : D}, V h v x → V h v y → x.okN n = true → y.okN n = true → x.eqb y = true
  | _, _, _, _, .none, .none, _, _ => by simp [D.eqb]
  | _, _, _, _, .bool b, .bool _, _, _ => by simp [D.eqb]
  | _, _, _, _, .int i t, .int _ _, _, _ => by simp [D.eqb]
  | _, _, _, _, .str i t, .str _ _, _, _ => by simp [D.eqb]
  | 0, _, _, _, .tup .., .tup .., e, _ => by simp [D.okN] at e
  | n + 1, _, _, _, .tup a b _, .tup a' b' _, e, e' => by
    have := tuple_inj a a'; subst this
    rw [D.okN_tup] at e e'
    rw [D.eqb]; exact Vs.eqb_same n b b' e e'
  | _, _, _, _, .lst .., _, e, _ => by simp at e
  | _, _, _, _, _, .lst .., _, e => by simp at e
theorem Vs.eqb_same {h : Heap} : ∀ (n : Nat) {v : List Value} {x y : List D}, Vs h v x → Vs h v y → x.all (D.okN n) = true → y.all (D.okN n) = true → D.eqbs x y = true
  | _, _, _, _, .nil, .nil, _, _ => by simp [D.eqbs]
  | n, _, _, _, .cons a b, .cons a' b', e, e' => by
    simp only [List.all_cons, Bool.and_eq_true] at e e'
    rw [D.eqbs, V.eqb_same n a a' e.1 e'.1, Vs.eqb_same n b b' e.2 e'.2]; rfl
end

theorem eqbs_all : ∀ (xs ys : List D), ((List.range (min xs.length ys.length)).all (fun j => (xs.getD j .none).eqb (ys.getD j .none)) && xs.length == ys.length) = D.eqbs xs ys
  | [], [] => by simp [D.eqbs]
  | [], _ :: _ => by simp [D.eqbs]
  | _ :: _, [] => by simp [D.eqbs]
  | x :: xs, y :: ys => by
    have ih := eqbs_all xs ys
    rw [D.eqbs, ← ih]
    have e : min (x :: xs).length (y :: ys).length = min xs.length ys.length + 1 := by simp only [List.length_cons]; omega
    rw [e, List.range_succ_eq_map, List.all_cons, List.all_map]
    simp [Function.comp_def, Bool.and_assoc]

section
variable {A : Around} {s : Shared}
theorem rc_V : ∀ (n : Nat) (A : Around) {a b : Value} {x y : D}, V s.heap a x → V s.heap b y → x.okN n = true → y.okN n = true → A.units + n < cLine → RcAt A s a b (x.eqb y) ∧ EqAt A s a b (x.eqb y)
  | _, A, _, _, _, _, .none, .none, _, _, _ => ⟨by simpa [D.eqb] using RcAt.none_none, by simpa [D.eqb] using EqAt.same _⟩
  | _, A, _, _, _, _, .none, .bool b, _, _, _ => ⟨by simpa [D.eqb] using RcAt.none_bool b, by simpa [D.eqb] using EqAt.none_bool b⟩
  | _, A, _, _, _, _, .none, .int b u, _, _, _ => ⟨by simpa [D.eqb] using RcAt.none_int b u, by simpa [D.eqb] using EqAt.none_int b u⟩
  | _, A, _, _, _, _, .none, .str b u, _, _, _ => ⟨by simpa [D.eqb] using RcAt.none_str b u, by simpa [D.eqb] using EqAt.none_str b u⟩
  | _, A, _, _, _, _, .none, .tup t _ _, _, _, hu => ⟨by simpa [D.eqb] using RcAt.none_tuple t (by omega), by simpa [D.eqb] using EqAt.none_tuple t (by omega)⟩
  | _, A, _, _, _, _, .bool a, .none, _, _, _ => ⟨by simpa [D.eqb] using RcAt.bool_none a, by simpa [D.eqb] using EqAt.bool_none a⟩
  | _, A, _, _, _, _, .bool a, .bool b, _, _, _ => ⟨by simpa [D.eqb] using RcAt.bool_bool a b, by simpa [D.eqb] using EqAt.bool_bool a b⟩
  | _, A, _, _, _, _, .bool a, .int b u, _, _, _ => ⟨by simpa [D.eqb] using RcAt.bool_int a b u, by simpa [D.eqb] using EqAt.bool_int a b u⟩
  | _, A, _, _, _, _, .bool a, .str b u, _, _, _ => ⟨by simpa [D.eqb] using RcAt.bool_str a b u, by simpa [D.eqb] using EqAt.bool_str a b u⟩
  | _, A, _, _, _, _, .bool a, .tup t _ _, _, _, hu => ⟨by simpa [D.eqb] using RcAt.bool_tuple a t (by omega), by simpa [D.eqb] using EqAt.bool_tuple a t (by omega)⟩
  | _, A, _, _, _, _, .int a u, .none, _, _, _ => ⟨by simpa [D.eqb] using RcAt.int_none a u, by simpa [D.eqb] using EqAt.int_none a u⟩
  | _, A, _, _, _, _, .int a u, .bool b, _, _, _ => ⟨by simpa [D.eqb] using RcAt.int_bool a u b, by simpa [D.eqb] using EqAt.int_bool a u b⟩
  | _, A, _, _, _, _, .int a t, .int b u, _, _, _ => ⟨by simpa [D.eqb] using RcAt.int_int a t b u, by simpa [D.eqb] using EqAt.int_int a t b u⟩
  | _, A, _, _, _, _, .int a t, .str b u, _, _, _ => ⟨by simpa [D.eqb] using RcAt.int_str a t b u, by simpa [D.eqb] using EqAt.int_str a t b u⟩
  | _, A, _, _, _, _, .int a u, .tup t _ _, _, _, hu => ⟨by simpa [D.eqb] using RcAt.int_tuple a u t (by omega), by simpa [D.eqb] using EqAt.int_tuple a u t (by omega)⟩
  | _, A, _, _, _, _, .str a u, .none, _, _, _ => ⟨by simpa [D.eqb] using RcAt.str_none a u, by simpa [D.eqb] using EqAt.str_none a u⟩
  | _, A, _, _, _, _, .str a u, .bool b, _, _, _ => ⟨by simpa [D.eqb] using RcAt.str_bool a u b, by simpa [D.eqb] using EqAt.str_bool a u b⟩
  | _, A, _, _, _, _, .str a t, .int b u, _, _, _ => ⟨by simpa [D.eqb] using RcAt.str_int a t b u, by simpa [D.eqb] using EqAt.str_int a t b u⟩
  | _, A, _, _, _, _, .str a t, .str b u, _, _, _ => ⟨by simpa [D.eqb] using RcAt.str_str a t b u, by simpa [D.eqb] using EqAt.str_str a t b u⟩
  | _, A, _, _, _, _, .str a u, .tup t _ _, _, _, hu => ⟨by simpa [D.eqb] using RcAt.str_tuple a u t (by omega), by simpa [D.eqb] using EqAt.str_tuple a u t (by omega)⟩
  | _, A, _, _, _, _, .tup t _ _, .none, _, _, hu => ⟨by simpa [D.eqb] using RcAt.tuple_none t (by omega), by simpa [D.eqb] using EqAt.tuple_none t (by omega)⟩
  | _, A, _, _, _, _, .tup t _ _, .bool b, _, _, hu => ⟨by simpa [D.eqb] using RcAt.tuple_bool b t (by omega), by simpa [D.eqb] using EqAt.tuple_bool b t (by omega)⟩
  | _, A, _, _, _, _, .tup t _ _, .int b u, _, _, hu => ⟨by simpa [D.eqb] using RcAt.tuple_int b u t (by omega), by simpa [D.eqb] using EqAt.tuple_int b u t (by omega)⟩
  | _, A, _, _, _, _, .tup t _ _, .str b u, _, _, hu => ⟨by simpa [D.eqb] using RcAt.tuple_str b u t (by omega), by simpa [D.eqb] using EqAt.tuple_str b u t (by omega)⟩
  | 0, A, _, _, _, _, .tup .., .tup .., e, _, _ => by simp [D.okN] at e
  | n + 1, A, _, _, _, _, .tup (a := p) (vs := vs) (ds := xs) t w lx, .tup (a := q) (vs := us) (ds := ys) t' w' ly, e, e', hu => by
    have e1 := e; have e2 := e'
    rw [D.okN_tup, List.all_eq_true] at e1 e2
    have l1 := w.length; have l2 := w'.length
    have R : RcAt A s (.ref p) (.ref q) (D.eqb (.tup xs) (.tup ys)) := by
      have := RcAt.tuples (A := A) (s := s) (e := fun j => (xs.getD j .none).eqb (ys.getD j .none)) t t' (by omega) (fun j h1 h2 => by
        simp only [List.size_toArray] at h1 h2
        have hx : j < xs.length := l1 ▸ h1
        have hy : j < ys.length := l2 ▸ h2
        obtain ⟨v, hv, V1⟩ := w.get (List.getElem?_eq_getElem hx)
        obtain ⟨v', hv', V2⟩ := w'.get (List.getElem?_eq_getElem hy)
        have g1 : xs.getD j .none = xs[j] := by simp [List.getD, hx]
        have g2 : ys.getD j .none = ys[j] := by simp [List.getD, hy]
        have g3 : vs.toArray[j] = v := by
          have := List.getElem?_eq_some_iff.mp hv
          obtain ⟨_, h⟩ := this; simpa using h
        have g4 : us.toArray[j] = v' := by
          have := List.getElem?_eq_some_iff.mp hv'
          obtain ⟨_, h⟩ := this; simpa using h
        rw [g1, g2, g3, g4]
        exact (rc_V n A.in1 V1 V2 (e1 _ (List.getElem_mem hx)) (e2 _ (List.getElem_mem hy)) (by simp only [Around.in1_units]; omega)).2)
      rw [List.size_toArray, List.size_toArray, l1, l2, eqbs_all] at this
      rw [D.eqb]; exact this
    refine ⟨R, ?_⟩
    by_cases hpq : p = q
    · subst hpq
      rw [V.eqb_same (n + 1) (.tup t w lx) (.tup t' w' ly) e e']
      exact EqAt.same _
    · exact EqAt.of_refs hpq R
  | _, A, _, _, _, _, .lst .., _, e, _, _ => by simp at e
  | _, A, _, _, _, _, _, .lst .., _, e, _ => by simp at e

theorem rcne_V (n : Nat) (A : Around) {a b : Value} {x y : D} (h1 : V s.heap a x) (h2 : V s.heap b y) (e : x.okN n = true) (e' : y.okN n = true) (hu : A.units + n < cLine) : RcNeAt A s a b (!x.eqb y) := by
  cases h1 with
  | none => cases h2 with
    | none => simpa [D.eqb] using RcNeAt.none_none
    | bool b => simpa [D.eqb] using RcNeAt.none_bool b
    | int b u => simpa [D.eqb] using RcNeAt.none_int b u
    | str b u => simpa [D.eqb] using RcNeAt.none_str b u
    | tup t _ _ => simpa [D.eqb] using RcNeAt.none_tuple t (by omega)
    | lst => simp at e'
  | bool a => cases h2 with
    | none => simpa [D.eqb] using RcNeAt.bool_none a
    | bool b => simpa [D.eqb] using RcNeAt.bool_bool a b
    | int b u => simpa [D.eqb] using RcNeAt.bool_int a b u
    | str b u => simpa [D.eqb] using RcNeAt.bool_str a b u
    | tup t _ _ => simpa [D.eqb] using RcNeAt.bool_tuple a t (by omega)
    | lst => simp at e'
  | int a u => cases h2 with
    | none => simpa [D.eqb] using RcNeAt.int_none a u
    | bool b => simpa [D.eqb] using RcNeAt.int_bool a u b
    | int b u' => simpa [D.eqb] using RcNeAt.int_int a u b u'
    | str b u' => simpa [D.eqb] using RcNeAt.int_str a u b u'
    | tup t _ _ => simpa [D.eqb] using RcNeAt.int_tuple a u t (by omega)
    | lst => simp at e'
  | str a u => cases h2 with
    | none => simpa [D.eqb] using RcNeAt.str_none a u
    | bool b => simpa [D.eqb] using RcNeAt.str_bool a u b
    | int b u' => simpa [D.eqb] using RcNeAt.str_int a u b u'
    | str b u' => simpa [D.eqb] using RcNeAt.str_str a u b u'
    | tup t _ _ => simpa [D.eqb] using RcNeAt.str_tuple a u t (by omega)
    | lst => simp at e'
  | tup t w lx => cases h2 with
    | none => simpa [D.eqb] using RcNeAt.tuple_none t (by omega)
    | bool b => simpa [D.eqb] using RcNeAt.tuple_bool b t (by omega)
    | int b u => simpa [D.eqb] using RcNeAt.tuple_int b u t (by omega)
    | str b u => simpa [D.eqb] using RcNeAt.tuple_str b u t (by omega)
    | tup t' w' ly =>
      rename_i p vs xs q us ys
      cases n with
      | zero => simp [D.okN] at e
      | succ n =>
      rw [D.okN_tup, List.all_eq_true] at e e'
      have l1 := w.length; have l2 := w'.length
      have := RcNeAt.tuples (A := A) (s := s) (e := fun j => (xs.getD j .none).eqb (ys.getD j .none)) t t' (by omega) (fun j h1 h2 => by
        simp only [List.size_toArray] at h1 h2
        have hx : j < xs.length := l1 ▸ h1
        have hy : j < ys.length := l2 ▸ h2
        obtain ⟨v, hv, V1⟩ := w.get (List.getElem?_eq_getElem hx)
        obtain ⟨v', hv', V2⟩ := w'.get (List.getElem?_eq_getElem hy)
        have g1 : xs.getD j .none = xs[j] := by simp [List.getD, hx]
        have g2 : ys.getD j .none = ys[j] := by simp [List.getD, hy]
        have g3 : vs.toArray[j] = v := by
          have := List.getElem?_eq_some_iff.mp hv
          obtain ⟨_, h⟩ := this; simpa using h
        have g4 : us.toArray[j] = v' := by
          have := List.getElem?_eq_some_iff.mp hv'
          obtain ⟨_, h⟩ := this; simpa using h
        rw [g1, g2, g3, g4]
        exact (rc_V n A.in1 V1 V2 (e _ (List.getElem_mem hx)) (e' _ (List.getElem_mem hy)) (by simp only [Around.in1_units]; omega)).2)
      rw [List.size_toArray, List.size_toArray, l1, l2, eqbs_all] at this
      rw [D.eqb]; exact this
    | lst => simp at e'
  | lst => simp at e
end

end Mine

namespace Mine
open PySem PySem.Calls PyProof.Rows PySem.SeqAt

abbrev Post (s : Shared) (d : D) : Value → Shared → Prop := fun v s' => Keeps s s' ∧ V s'.heap v d
abbrev PostB (s : Shared) (b : Bool) : Value → Shared → Prop := fun v s' => v = .bool b ∧ Keeps s s'

noncomputable def opA : Op → Operator
  | .add => .Add
  | .sub => .Sub
  | .mul => .Mult
  | .div => .FloorDiv
  | .mod => .Mod
  | .pow => .Pow
noncomputable def cmA : Cm → CmpOp
  | .eq => .Eq
  | .ne => .NotEq
  | .lt => .Lt
  | .le => .LtE
  | .gt => .Gt
  | .ge => .GtE
  | .is => .Is
  | .isNot => .IsNot

theorem lim_line : lim ≤ sizeLine := by decide +kernel
theorem lim_63 : (lim : Int) < 2 ^ 63 := by decide +kernel

section
variable {prog : Program} {w : World} {A : Around} {E : Value → Shared → Prop} {s : Shared}

theorem post_int {i : Int} {t : Tok} {k : Nat} : Post s (.int i) (.int i t) { s with toks := k } := ⟨keeps_toks s k, .int i t⟩

theorem add_lists_raw {l b : Addr} {vs ws : List Value} {Q : Value → Shared → Prop} (hl : s.heap.IsList l vs.toArray) (hb : s.heap.IsList b ws.toArray)
    (h : Q (.ref s.heap.objs.size) { s with heap := s.heap.push { cls := .type "list", data := .seq (vs ++ ws).toArray } }) (hsz : vs.length + ws.length ≤ sizeLine) :
    wpAny (model prog w) A (binaryOp .Add (.ref l) (.ref b)) Q E s := by
  obtain ⟨⟨cls, dd, data, sl⟩, ho, hc, n, hd⟩ := id hl
  obtain ⟨⟨cls2, dd2, data2, sl2⟩, ho2, hc2, n2, hd2⟩ := id hb
  simp only at hc hd hc2 hd2
  subst hc hd hc2 hd2
  have e : vs.toArray ++ ws.toArray = (vs ++ ws).toArray := by simp
  refine concat_meets ⟨_, ho, rfl⟩ ⟨_, ho2, rfl⟩ noFill_list_add seq_list_add PySem.F.slot_list_add PySem.F.entry_list_add (PySem.F.args_list_add_2 _ _) (list_addW l b vs.toArray ws.toArray n n2 dd dd2 sl sl2 (by simpa using hsz)) ⟨ho, ho2, ?_⟩
  rw [e]
  exact h

theorem add_tuples_raw {t b : Addr} {vs ws : List Value} {Q : Value → Shared → Prop} (ht : s.heap.IsTuple t vs.toArray) (hb : s.heap.IsTuple b ws.toArray)
    (h0 : vs = [] → Q (.ref b) s) (h1 : ws = [] → Q (.ref t) s)
    (h2 : Q (.ref s.heap.objs.size) { s with heap := s.heap.push { cls := .type "tuple", data := .seq (vs ++ ws).toArray } })
    (hsz : vs.length + ws.length ≤ sizeLine) :
    wpAny (model prog w) A (binaryOp .Add (.ref t) (.ref b)) Q E s := by
  obtain ⟨⟨cls, dd, data, sl⟩, ho, hc, n, hd⟩ := id ht
  obtain ⟨⟨cls2, dd2, data2, sl2⟩, ho2, hc2, n2, hd2⟩ := id hb
  simp only at hc hd hc2 hd2
  subst hc hd hc2 hd2
  have e : vs.toArray ++ ws.toArray = (vs ++ ws).toArray := by simp
  by_cases hv : vs = []
  · exact concat_meets ⟨_, ho, rfl⟩ ⟨_, ho2, rfl⟩ noFill_tuple_add seq_tuple_add PySem.F.slot_tuple_add PySem.F.entry_tuple_add (PySem.F.args_tuple_add_2 _ _)
      (tuple_addW0 t b vs.toArray ws.toArray n n2 dd dd2 sl sl2 (by simp [hv])) ⟨ho, ho2, h0 hv⟩
  · by_cases hw : ws = []
    · exact concat_meets ⟨_, ho, rfl⟩ ⟨_, ho2, rfl⟩ noFill_tuple_add seq_tuple_add PySem.F.slot_tuple_add PySem.F.entry_tuple_add (PySem.F.args_tuple_add_2 _ _)
        (tuple_addW1 t b vs.toArray ws.toArray n n2 dd dd2 sl sl2 (by simpa using hv) (by simp [hw])) ⟨ho, ho2, h1 hw⟩
    · refine concat_meets ⟨_, ho, rfl⟩ ⟨_, ho2, rfl⟩ noFill_tuple_add seq_tuple_add PySem.F.slot_tuple_add PySem.F.entry_tuple_add (PySem.F.args_tuple_add_2 _ _)
        (tuple_addW2 t b vs.toArray ws.toArray n n2 dd dd2 sl sl2 (by simpa using hv) (by simpa using hw) (by rw [List.size_toArray, List.size_toArray]; exact hsz)) ⟨ho, ho2, ?_⟩
      rw [e]
      exact h2

theorem new_tuple {vs : List Value} {ds : List D} (x : Vs s.heap vs ds) (hl : ds.length ≤ lim) : Post s (.tup ds) (.ref s.heap.objs.size) { s with heap := s.heap.push { cls := .type "tuple", data := .seq vs.toArray } } :=
  ⟨keeps_push s _ s.toks, .tup ⟨_, Heap.get?_push_size _ rfl, rfl, _, rfl⟩ (x.mono fun _ _ e => Heap.get?_push_of_some _ e) hl⟩
theorem new_list {vs : List Value} {ds : List D} (x : Vs s.heap vs ds) (hl : ds.length ≤ lim) : Post s (.lst ds) (.ref s.heap.objs.size) { s with heap := s.heap.push { cls := .type "list", data := .seq vs.toArray } } :=
  ⟨keeps_push s _ s.toks, .lst ⟨_, Heap.get?_push_size _ rfl⟩ (x.mono fun _ _ e => Heap.get?_push_of_some _ e) hl⟩

theorem V.int_inv {h : Heap} {v : Value} {i : Int} (x : V h v (.int i)) : ∃ t, v = .int i t := by cases x; exact ⟨_, rfl⟩
theorem bin_ok {o : Op} {a b : Value} {x y d : D} (h1 : V s.heap a x) (h2 : V s.heap b y) (e : evBin o x y = some d) : wpAny (model prog w) A (binaryOp (opA o) a b) (Post s d) E s := by
  cases o with
  | add =>
    unfold evBin addD at e
    cases h1 with
    | int i t =>
      obtain ⟨j, hj, rfl⟩ := om e
      have := intOf_some hj; subst this
      obtain ⟨u, rfl⟩ := h2.int_inv
      exact wpAny_add_int post_int
    | tup hp hv hl =>
      replace e := ob e
      obtain ⟨es, he, e⟩ := e
      have := tupOf_some he; subst this
      obtain ⟨e1, rfl⟩ := oi e
      cases h2 with
      | tup hq hu hl' =>
        have l1 := hv.length; have l2 := hu.length
        refine add_tuples_raw hp hq (fun e => ?_) (fun e => ?_) (new_tuple (hv.append hu) (by simpa using e1)) (by have := lim_line; omega)
        · subst e; cases hv; exact ⟨keeps_refl s, by simpa using V.tup hq hu hl'⟩
        · subst e; cases hu; exact ⟨keeps_refl s, by simpa using V.tup hp hv hl⟩
    | lst hp hv hl =>
      replace e := ob e
      obtain ⟨es, he, e⟩ := e
      have := lstOf_some he; subst this
      obtain ⟨e1, rfl⟩ := oi e
      cases h2 with
      | lst hq hu hl' =>
        have l1 := hv.length; have l2 := hu.length
        exact add_lists_raw hp.isList hq.isList (new_list (hv.append hu) (by simpa using e1)) (by have := lim_line; omega)
    | none => cases e
    | bool => cases e
    | str => cases e
  | sub =>
    obtain ⟨i, j, rfl, rfl, e⟩ := i2_some e
    obtain ⟨t, rfl⟩ := h1.int_inv; obtain ⟨u, rfl⟩ := h2.int_inv
    cases e; exact sub_int post_int
  | mul =>
    obtain ⟨i, j, rfl, rfl, e⟩ := i2_some e
    obtain ⟨t, rfl⟩ := h1.int_inv; obtain ⟨u, rfl⟩ := h2.int_inv
    obtain ⟨e1, rfl⟩ := oi e
    exact mul_int post_int (e1.elim (fun h => IntMulOk.of_left (intBits_le_64 (by omega) (by omega))) fun h => IntMulOk.of_right (intBits_le_64 (by omega) (by omega)))
  | div =>
    obtain ⟨i, j, rfl, rfl, e⟩ := i2_some e
    obtain ⟨t, rfl⟩ := h1.int_inv; obtain ⟨u, rfl⟩ := h2.int_inv
    obtain ⟨⟨e1, e2⟩, rfl⟩ := oi e
    refine floordiv_int (by omega) ?_ (.inl (PyProof.noPylong_small (by omega)))
    rw [Int.fdiv_eq_ediv_of_nonneg _ (by omega)]
    exact post_int
  | mod =>
    obtain ⟨i, j, rfl, rfl, e⟩ := i2_some e
    obtain ⟨t, rfl⟩ := h1.int_inv; obtain ⟨u, rfl⟩ := h2.int_inv
    obtain ⟨e1, rfl⟩ := oi e
    refine mod_int (by omega) ?_
    rw [Int.fmod_eq_emod_of_nonneg _ (by omega)]
    exact post_int
  | pow =>
    obtain ⟨i, j, rfl, rfl, e⟩ := i2_some e
    obtain ⟨t, rfl⟩ := h1.int_inv; obtain ⟨u, rfl⟩ := h2.int_inv
    replace e := oi e
    obtain ⟨⟨rfl, rfl⟩, rfl⟩ := e
    exact pow_int (by decide) (by decide +kernel) post_int

theorem V.none_inv {h : Heap} {v : Value} {y : D} (x : V h v y) (e : isNoneD y = true) : v = .none := by cases x <;> first | rfl | cases e
theorem cmp_ok {o : Cm} {a b : Value} {x y : D} {r : Bool} (h1 : V s.heap a x) (h2 : V s.heap b y) (e : evCmp o x y = some r) (hu : A.units + 8 < cLine) : wpAny (model prog w) A (compareOp (cmA o) a b) (PostB s r) E s := by
  cases o with
  | eq =>
    obtain ⟨e0, rfl⟩ := oi e
    obtain ⟨e1, e2⟩ := (Bool.and_eq_true _ _).mp e0
    exact (rc_V 8 A h1 h2 e1 e2 hu).1 prog w E _ ⟨rfl, keeps_refl s⟩
  | ne =>
    obtain ⟨e0, rfl⟩ := oi e
    obtain ⟨e1, e2⟩ := (Bool.and_eq_true _ _).mp e0
    exact rcne_V 8 A h1 h2 e1 e2 hu prog w E _ ⟨rfl, keeps_refl s⟩
  | lt =>
    obtain ⟨i, j, rfl, rfl, e⟩ := i2_some e
    obtain ⟨t, rfl⟩ := h1.int_inv; obtain ⟨u, rfl⟩ := h2.int_inv
    cases e; exact lt_int ⟨rfl, keeps_refl s⟩
  | le =>
    obtain ⟨i, j, rfl, rfl, e⟩ := i2_some e
    obtain ⟨t, rfl⟩ := h1.int_inv; obtain ⟨u, rfl⟩ := h2.int_inv
    cases e; exact le_int ⟨rfl, keeps_refl s⟩
  | gt =>
    obtain ⟨i, j, rfl, rfl, e⟩ := i2_some e
    obtain ⟨t, rfl⟩ := h1.int_inv; obtain ⟨u, rfl⟩ := h2.int_inv
    cases e; exact gt_int ⟨rfl, keeps_refl s⟩
  | ge =>
    obtain ⟨i, j, rfl, rfl, e⟩ := i2_some e
    obtain ⟨t, rfl⟩ := h1.int_inv; obtain ⟨u, rfl⟩ := h2.int_inv
    cases e; exact ge_int ⟨rfl, keeps_refl s⟩
  | is =>
    obtain ⟨e0, rfl⟩ := oi e
    have := h2.none_inv e0; subst this
    cases h1 <;> exact is_none ⟨rfl, keeps_refl s⟩
  | isNot =>
    replace e := oi e
    obtain ⟨e0, rfl⟩ := e
    have := h2.none_inv e0; subst this
    cases h1 <;> exact isNot_none ⟨rfl, keeps_refl s⟩

theorem idx_ok {a i : Value} {x y d : D} (h1 : V s.heap a x) (h2 : V s.heap i y) (e : evIdx x y = some d) : wpAny (model prog w) A (getItem a i) (Post s d) E s := by
  replace e := ob e
  obtain ⟨ds, hds, e⟩ := e
  replace e := ob e
  obtain ⟨i, hi, e⟩ := e
  have := intOf_some hi; subst this
  obtain ⟨t, rfl⟩ := h2.int_inv
  replace e := oi' e
  obtain ⟨e0, e1⟩ := e
  have l63 := lim_63
  have hlt : i.toNat < ds.length := (List.getElem?_eq_some_iff.mp e1).1
  cases h1 <;> cases hds
  · rename_i p vs hp hv hl
    obtain ⟨v, hg, hV⟩ := hv.get e1
    have l1 := hv.length
    refine getItem_tuple (j := i.toNat) hp (by omega) (by omega) ?_ (by simpa using hg) ⟨keeps_refl s, hV⟩
    have hlt' : i < (vs.length : Int) := by omega
    simp [seqIndex?, Int.not_lt.mpr e0, e0, hlt']
  · rename_i p vs hp hv hl
    obtain ⟨v, hg, hV⟩ := hv.get e1
    exact wpAny_getItem_list hp.isList e0 (by omega) (by simpa using hg) ⟨keeps_refl s, hV⟩

theorem len_ok {a : Value} {x : D} {ds : List D} (h1 : V s.heap a x) (e : items x = some ds) : wpAny (model prog w) A (call (.builtin "len") [a]) (Post s (.int ds.length)) E s := by
  have l63 := lim_63
  cases h1 <;> simp only [items, reduceCtorEq, Option.some.injEq] at e
  · rename_i p vs ds hp hv hl
    subst e
    have l1 := hv.length
    refine len_tuple hp (by simp only [List.size_toArray]; omega) ?_
    simp only [List.size_toArray, l1]; exact post_int
  · rename_i p vs ds hp hv hl
    subst e
    have l1 := hv.length
    refine call_len_list hp.isList (by simp only [List.size_toArray]; omega) ?_
    simp only [List.size_toArray, l1]; exact post_int

noncomputable def tyA : Ty → String
  | .tuple => "tuple"
  | .int => "int"
  | .bool => "bool"
  | .str => "str"

theorem isi_ok {a : Value} {x : D} {t : Ty} (h1 : V s.heap a x) : wpAny (model prog w) A (call (.builtin "isinstance") [a, .type (tyA t)]) (Post s (.bool (evIsi t x))) E s := by
  have p (b : Bool) (k : Nat) : Post s (.bool b) (.bool b) { s with toks := k } := ⟨keeps_toks s k, .bool b⟩
  have p0 (b : Bool) : Post s (.bool b) (.bool b) s := ⟨keeps_refl s, .bool b⟩
  cases t <;> cases h1 <;> simp only [tyA]
  case tuple.none => exact IsiPair.NoneType_tuple (p _ _)
  case tuple.bool => exact IsiPair.bool_tuple (p _ _)
  case tuple.int => exact IsiPair.int_tuple (p _ _)
  case tuple.str => exact IsiPair.str_tuple (p _ _)
  case tuple.tup hp _ _ => obtain ⟨o, ho, hc, _⟩ := hp; exact IsiPair.tuple_tuple ho hc (p0 _)
  case tuple.lst hp _ _ => obtain ⟨o, ho, hc, _⟩ := hp.isList; exact IsiPair.list_tuple ho hc (p _ _)
  case int.none => exact IsiPair.NoneType_int (p _ _)
  case int.bool => exact IsiPair.bool_int (p0 _)
  case int.int => exact IsiPair.int_int (p0 _)
  case int.str => exact IsiPair.str_int (p _ _)
  case int.tup hp _ _ => obtain ⟨o, ho, hc, _⟩ := hp; exact IsiPair.tuple_int ho hc (p _ _)
  case int.lst hp _ _ => obtain ⟨o, ho, hc, _⟩ := hp.isList; exact IsiPair.list_int ho hc (p _ _)
  case bool.none => exact IsiPair.NoneType_bool (p _ _)
  case bool.bool => exact IsiPair.bool_bool (p0 _)
  case bool.int => exact IsiPair.int_bool (p _ _)
  case bool.str => exact IsiPair.str_bool (p _ _)
  case bool.tup hp _ _ => obtain ⟨o, ho, hc, _⟩ := hp; exact IsiPair.tuple_bool ho hc (p _ _)
  case bool.lst hp _ _ => obtain ⟨o, ho, hc, _⟩ := hp.isList; exact IsiPair.list_bool ho hc (p _ _)
  case str.none => exact IsiPair.NoneType_str (p _ _)
  case str.bool => exact IsiPair.bool_str (p _ _)
  case str.int => exact IsiPair.int_str (p _ _)
  case str.str => exact IsiPair.str_str (p0 _)
  case str.tup hp _ _ => obtain ⟨o, ho, hc, _⟩ := hp; exact IsiPair.tuple_str ho hc (p _ _)
  case str.lst hp _ _ => obtain ⟨o, ho, hc, _⟩ := hp.isList; exact IsiPair.list_str ho hc (p _ _)

theorem max_ok {i j : Int} {t u : Tok} (hh : A.handled = none) : wpAny (model prog w) A (call (.builtin "max") [.int i t, .int j u]) (Post s (.int (if j > i then j else i))) E s :=
  max_two_ints hh fun h' tk hk => by
    refine ⟨⟨h', tk, rfl, hk⟩, ?_⟩
    split <;> exact .int _ _

theorem toTup_ok {a : Value} {x : D} {ds : List D} (h1 : V s.heap a x) (e : items x = some ds) : wpAny (model prog w) A (call (.type "tuple") [a]) (Post s (.tup ds)) E s := by
  cases h1 <;> simp only [items, reduceCtorEq, Option.some.injEq] at e
  · rename_i p vs ds hp hv hl
    subst e
    exact call_tuple_same hp ⟨keeps_refl s, .tup hp hv hl⟩
  · rename_i p vs ds hp hv hl
    subst e
    have l1 := hv.length
    refine call_tuple_list hp.isList (fun h' hk => ?_) (by simp only [List.size_toArray]; have := lim_line; omega)
    refine ⟨⟨_, _, rfl, fun b o e => Heap.get?_push_of_some _ (hk b o e)⟩, .tup ⟨_, Heap.get?_push_size _ rfl, rfl, _, rfl⟩ (hv.mono fun b o e => Heap.get?_push_of_some _ (hk b o e)) hl⟩
end

end Mine

namespace Mine
open PySem PySem.Calls PyProof.Rows

/-! dicts whose keys are pairs of a str and an int -/
abbrev KI := Str ⊕ Int
noncomputable def mixIs : KI → Value → Bool
  | .inl x, v => Value.isStrOf x v
  | .inr i, v => Value.isInt i v
theorem mix_cases {k : KI} {v : Value} (h : mixIs k v = true) : (∃ x t, k = .inl x ∧ v = .str x t) ∨ ∃ i t, k = .inr i ∧ v = .int i t := by
  cases k with
  | inl x => obtain ⟨t, rfl⟩ := Value.isStrOf_shape h; exact .inl ⟨x, t, rfl, rfl⟩
  | inr i => obtain ⟨t, rfl⟩ := Value.isInt_shape h; exact .inr ⟨i, t, rfl, rfl⟩

section
variable {prog : Program} {w : World} {A : Around} {E : Value → Shared → Prop} {s : Shared}
theorem eqBool_si {x : Str} {i : Int} {t u : Tok} {Q : Bool → Shared → Prop} (h : Q false s) : wpAny (model prog w) A (eqBool (.str x t) (.int i u)) Q E s := by
  unfold eqBool
  refine wpAny_holding ?_
  show wpAny (model prog w) _ (if (Value.str x t == Value.int i u) = true then _ else _) Q E s
  rw [if_neg (by intro q; have := eq_of_beq q; cases this)]
  have hq : wpAny (model prog w) A (richCompare .Eq (.str x t) (.int i u)) (fun r s' => r = .bool false ∧ s' = s) E s := EqMixed.eq_str_int (prog := prog) (w := w) (E := E) ⟨rfl, rfl⟩
  refine wpAny_bind (wpAny_mono hq (fun r s' q => ?_) fun _ _ e => e)
  obtain ⟨rfl, rfl⟩ := q
  exact wpAny_truthy_bool h
theorem eqBool_is {x : Str} {i : Int} {t u : Tok} {Q : Bool → Shared → Prop} (h : Q false s) : wpAny (model prog w) A (eqBool (.int i u) (.str x t)) Q E s := by
  unfold eqBool
  refine wpAny_holding ?_
  show wpAny (model prog w) _ (if (Value.int i u == Value.str x t) = true then _ else _) Q E s
  rw [if_neg (by intro q; have := eq_of_beq q; cases this)]
  have hq : wpAny (model prog w) A (richCompare .Eq (.int i u) (.str x t)) (fun r s' => r = .bool false ∧ s' = s) E s := EqMixed.eq_int_str (prog := prog) (w := w) (E := E) ⟨rfl, rfl⟩
  refine wpAny_bind (wpAny_mono hq (fun r s' q => ?_) fun _ _ e => e)
  obtain ⟨rfl, rfl⟩ := q
  exact wpAny_truthy_bool h
end

section
variable {prog : Program} {w : World} {A : Around} {E : Value → Shared → Prop} {s : Shared}
theorem mix_eqBool {a b : KI} {u v : Value} {Q : Bool → Shared → Prop} (hu : mixIs a u = true) (hv : mixIs b v = true) (h : Q (decide (a = b)) s) : wpAny (model prog w) A (eqBool u v) Q E s := by
  rcases mix_cases hu with ⟨x, t, rfl, rfl⟩ | ⟨i, t, rfl, rfl⟩ <;> rcases mix_cases hv with ⟨x', t', rfl, rfl⟩ | ⟨i', t', rfl, rfl⟩
  · exact (PySem.strKind prog w).eqBool (a := x) (b := x') hu hv (by simpa using h)
  · exact eqBool_si (by simpa using h)
  · exact eqBool_is (by simpa using h)
  · exact (PySem.intKind prog w).eqBool (a := i) (b := i') hu hv (by simpa using h)
theorem mix_inj (v : Value) (a b : KI) (ha : mixIs a v = true) (hb : mixIs b v = true) : a = b := by
  rcases mix_cases ha with ⟨x, t, rfl, rfl⟩ | ⟨i, t, rfl, rfl⟩ <;> rcases mix_cases hb with ⟨x', t', rfl, e⟩ | ⟨i', t', rfl, e⟩ <;> cases e <;> rfl
end
noncomputable def mixHash (prog : Program) (w : World) : KI → Int
  | .inl x => (PySem.strKind prog w).hash x
  | .inr i => (PySem.intKind prog w).hash i
theorem mix_hash {prog : Program} {w : World} {A : Around} {E : Value → Shared → Prop} {s : Shared} {k : KI} {v : Value} {Q : Int → Shared → Prop} (hv : mixIs k v = true) (h : Q (mixHash prog w k) { s with toks := s.toks + 1 }) : wpAny (model prog w) A (pyHash v) Q E s := by
  cases k with
  | inl x => exact (PySem.strKind prog w).pyHash (k := x) hv h
  | inr i => exact (PySem.intKind prog w).pyHash (k := i) hv h
theorem mix_strs (prog : Program) (w : World) (k : KI) (x : Str) (t : Tok) (v : Value) (h : mixIs k (.str x t) = true) : mixIs k v = v.isStr x := by
  cases k with
  | inl y => exact (PySem.strKind prog w).«strs» y x t v h
  | inr i => cases h
noncomputable def mixKind (prog : Program) (w : World) : PySem.KeyKind prog w KI where
  is := mixIs
  hash := mixHash prog w
  inj := mix_inj
  byValue := fun k v h => by rcases mix_cases h with ⟨x, t, rfl, rfl⟩ | ⟨i, t, rfl, rfl⟩ <;> rfl
  pyHash := fun hv h => mix_hash hv h
  eqBool := fun hu hv h => mix_eqBool hu hv h
  «strs» := mix_strs prog w

noncomputable abbrev pairKind (prog : Program) (w : World) : HeapKind prog w (List KI) := tupleKind (mixKind prog w)
noncomputable def pk (k : Ky) : List KI := [.inl (k.1.getD (Str.ofString "")), .inr k.2]

/-- the entries bear the keys and the values -/
inductive DRel : List (List KI × Addr × Value) → List (Ky × D) → Prop
  | nil : DRel [] []
  | cons {k : Ky} {a : Addr} {v : Value} {d : D} {xs kvs} : k.1.isSome = true → flat d = true → (∀ h, V h v d) → DRel xs kvs → DRel ((pk k, a, v) :: xs) ((k, d) :: kvs)

noncomputable def DicAt (prog : Program) (w : World) (h : Heap) (a : Addr) (kvs : List (Ky × D)) : Prop :=
  (a == sysModules) = false ∧ ∃ xs, h.DictOfH (pairKind prog w) a xs ∧ DRel xs kvs

theorem pk_inj {k k' : Ky} (h : k.1.isSome = true) (h' : k'.1.isSome = true) (e : pk k = pk k') : k = k' := by
  obtain ⟨a, i⟩ := k
  obtain ⟨b, j⟩ := k'
  cases a with
  | none => cases h
  | some a =>
    cases b with
    | none => cases h'
    | some b =>
      simp only [pk, Option.getD_some, List.cons.injEq, Sum.inl.injEq, Sum.inr.injEq, and_true] at e
      rw [e.1, e.2]

theorem DRel.len {xs kvs} (r : DRel xs kvs) : xs.length = kvs.length := by
  induction r with
  | nil => rfl
  | cons _ _ _ _ ih => rw [List.length_cons, List.length_cons, ih]
theorem DRel.look {xs kvs} (r : DRel xs kvs) {k : Ky} (hk : k.1.isSome = true) : (atKey xs (pk k) = none ∧ lookK kvs k = none) ∨ ∃ p d, atKey xs (pk k) = some p ∧ lookK kvs k = some d ∧ flat d = true ∧ ∀ h, V h p.2 d := by
  induction r with
  | nil => exact .inl ⟨rfl, rfl⟩
  | @cons k' a v d xs kvs h1 hf h2 r ih =>
    by_cases e : k' = k
    · subst e
      exact .inr ⟨(a, v), d, by simp [atKey], by simp [lookK], hf, h2⟩
    · have e' : ¬ pk k' = pk k := fun q => e (pk_inj h1 hk q)
      simpa [atKey, lookK, e, e'] using ih
theorem DRel.put {xs kvs} (r : DRel xs kvs) {k : Ky} {d : D} {a : Addr} {v : Value} (hk : k.1.isSome = true) (hf : flat d = true) (hv : ∀ h, V h v d) : DRel (storedH xs (pk k) a v) (putK kvs k d) := by
  have h1 : ∀ {xs kvs}, DRel xs kvs → DRel (xs.map (putAt (pk k) v)) (kvs.map fun x => if x.1 = k then (x.1, d) else x) := by
    intro xs kvs r
    induction r with
    | nil => exact .nil
    | @cons k' a' v' d' xs kvs h1 hf' h2 r ih =>
      rw [List.map_cons, List.map_cons]
      by_cases e : k' = k
      · subst e
        rw [putAt, if_pos rfl, if_pos rfl]
        exact .cons h1 hf hv ih
      · have e' : ¬ pk k' = pk k := fun q => e (pk_inj h1 hk q)
        rw [putAt, if_neg e', if_neg e]
        exact .cons h1 hf' h2 ih
  have h2 : ∀ {xs kvs}, DRel xs kvs → DRel (xs ++ [(pk k, a, v)]) (kvs ++ [(k, d)]) := by
    intro xs kvs r
    induction r with
    | nil => exact .cons hk hf hv .nil
    | cons h1 hf' h2 r ih => exact .cons h1 hf' h2 ih
  rcases r.look hk with ⟨e1, e2⟩ | ⟨p, d', e1, e2, _, _⟩
  · rw [storedH_new e1, putK, e2]; exact h2 r
  · rw [storedH_old e1, putK, e2]; exact h1 r
theorem DRel.kinds {xs kvs} (r : DRel xs kvs) : ∀ x ∈ kvs, x.1.1.isSome = true := by
  induction r with
  | nil => intro x hx; cases hx
  | cons h1 _ _ _ ih =>
    intro x hx
    rcases List.mem_cons.mp hx with rfl | hx
    · exact h1
    · exact ih x hx

section
variable {prog : Program} {w : World} {h h' : Heap} {a : Addr} {kvs : List (Ky × D)}
theorem DicAt.obj (x : DicAt prog w h a kvs) : ∃ o es ep, h.get? a = some o ∧ o.ExactDict ∧ o.data = .dict es ep := by
  obtain ⟨_, xs, ⟨o, es, ep, h1, h2, h3, _⟩, _⟩ := x
  exact ⟨o, es, ep, h1, h2, h3⟩
/-- a dict stays while it and all tuples stay -/
theorem DicAt.change (x : DicAt prog w h a kvs) (ko : ∀ o, h.get? a = some o → h'.get? a = some o) (kt : ∀ a items, h.IsTuple a items → h'.IsTuple a items) : DicAt prog w h' a kvs := by
  obtain ⟨h0, xs, ⟨o, es, ep, h1, h2, h3, h4, h5, h6⟩, r⟩ := x
  refine ⟨h0, xs, ⟨o, es, ep, ko o h1, h2, h3, h4, fun y hy => ?_, h6⟩, r⟩
  obtain ⟨o', items, n, q1, q2, q3, q4⟩ := h5 y hy
  obtain ⟨o'', q1', q2', n', q3'⟩ := kt y.2.1 items ⟨o', q1, q2, n, q3⟩
  exact ⟨o'', items, n', q1', q2', q3', q4⟩
theorem DicAt.keeps (x : DicAt prog w h a kvs) (k : ∀ b o, h.get? b = some o → h'.get? b = some o) : DicAt prog w h' a kvs :=
  x.change (k a) fun _ _ t => IsTuple_keep t k
theorem DicAt.new (hs : (h.objs.size == sysModules) = false) : DicAt prog w (h.push { cls := .type "dict", data := .dict #[] }) h.objs.size [] :=
  ⟨hs, [], Heap.DictOfH.new h, .nil⟩

/-- a datum as a key -/
theorem V.key {v : Value} {d : D} {k : Ky} (x : V h v d) (e : keyD d = some k) (hk : k.1.isSome = true) : ∃ b, v = .ref b ∧ (pairKind prog w).is h (pk k) b := by
  cases x with
  | int i t => cases e; cases hk
  | tup ht hv hl =>
    rename_i b vs ds
    cases hv with
    | nil => cases e
    | cons h1 hv =>
      cases hv with
      | nil => cases h1 <;> cases e
      | cons h2 hv =>
        cases hv with
        | cons => cases h1 <;> cases h2 <;> cases e
        | nil =>
          cases h1 <;> try (cases h2 <;> cases e; done)
          cases h2 <;> try (cases e; done)
          cases e
          obtain ⟨o, ho, hc, n, hd⟩ := ht
          exact ⟨b, rfl, o, _, n, ho, hc, hd, .cons (by simp [mixKind, mixIs, Value.isStrOf]) (.cons (by simp [mixKind, mixIs, Value.isInt]) .nil)⟩
  | _ => cases e
end

section
variable {prog : Program} {w : World} {A : Around} {E : Value → Shared → Prop} {s : Shared} {a : Addr} {kvs : List (Ky × D)}
theorem dic_in {v : Value} {d : D} {k : Ky} {neg : Bool} (hu : A.units + 8 < cLine) (x : DicAt prog w s.heap a kvs) (hv : V s.heap v d) (hk : keyD d = some k) (ho : kindOk kvs k = true) :
    wpAny (model prog w) A (compareOp (if neg = true then .NotIn else .In) v (.ref a)) (PostB s (if neg = true then !(lookK kvs k).isSome else (lookK kvs k).isSome)) E s := by
  have hk1 : k.1.isSome = true := (Bool.and_eq_true _ _ ▸ ho).1
  obtain ⟨b, rfl, hb⟩ := hv.key (prog := prog) (w := w) hk hk1
  obtain ⟨h0, xs, hx, r⟩ := x
  have e : (atKey xs (pk k)).isSome = (lookK kvs k).isSome := by
    rcases r.look hk1 with ⟨e1, e2⟩ | ⟨p, d', e1, e2, _⟩ <;> rw [e1, e2] <;> rfl
  cases neg with
  | true => exact wpAny_notIn_heap (tupleKind_room_in1 (by omega)) hb h0 hx ⟨by rw [e]; rfl, keeps_toks _ _⟩
  | false => exact wpAny_in_heap (tupleKind_room_in1 (by omega)) hb h0 hx ⟨by rw [e]; rfl, keeps_toks _ _⟩
theorem dic_get {v : Value} {d d' : D} {k : Ky} (hu : A.units + 8 < cLine) (x : DicAt prog w s.heap a kvs) (hv : V s.heap v d) (hk : keyD d = some k) (ho : kindOk kvs k = true) (hl : lookK kvs k = some d') :
    wpAny (model prog w) A (getItem (.ref a) v) (Post s d') E s := by
  have hk1 : k.1.isSome = true := (Bool.and_eq_true _ _ ▸ ho).1
  obtain ⟨b, rfl, hb⟩ := hv.key (prog := prog) (w := w) hk hk1
  obtain ⟨h0, xs, hx, r⟩ := x
  rcases r.look hk1 with ⟨e1, e2⟩ | ⟨p, d'', e1, e2, _, hV⟩
  · rw [e2] at hl; cases hl
  · rw [e2] at hl; cases hl
    exact wpAny_getItem_heap (tupleKind_room_in1 (by omega)) hb hx e1 ⟨keeps_toks _ _, hV _⟩
theorem dic_set {v vv : Value} {d d' : D} {k : Ky} {Q : Unit → Shared → Prop} (hu : A.units + 8 < cLine) (x : DicAt prog w s.heap a kvs) (hv : V s.heap v d) (hk : keyD d = some k) (ho : kindOk kvs k = true) (hf : flat d' = true) (hvv : V s.heap vv d') (hl : kvs.length < lim)
    (hQ : ∀ h' tk, DicAt prog w h' a (putK kvs k d') → Heap.SameBut a s.heap h' → Q () { s with heap := h', toks := tk }) : wpAny (model prog w) A (setItem (.ref a) v vv) Q E s := by
  have hk1 : k.1.isSome = true := (Bool.and_eq_true _ _ ▸ ho).1
  obtain ⟨b, rfl, hb⟩ := hv.key (prog := prog) (w := w) hk hk1
  obtain ⟨h0, xs, hx, r⟩ := x
  have hvv' : ∀ h, V h vv d' := fun h => by
    cases hvv <;> first | (cases hf; done) | exact .bool _ | exact .int _ _
  exact wpAny_setItem_heap (tupleKind_room_in1 (by omega)) hb hx (fun h' hx' hs => hQ h' _ ⟨h0, _, hx', r.put hk1 hf hvv'⟩ hs) (by rw [r.len]; exact Nat.le_trans (Nat.le_of_lt hl) lim_line)
end
end Mine

namespace Mine
open PySem PySem.Calls PyProof.Rows PySem.SeqAt

noncomputable def cut {α : Type} (vs : List α) (lo hi : Option Int) : List α :=
  ((match hi with | some j => vs.take j.toNat | none => vs)).drop (match lo with | some i => i.toNat | none => 0)

theorem part_index {prog : Program} {w : World} {A : Around} {E : Value → Shared → Prop} {s : Shared} {v : Value} {k : Option Int} {Q : Option Int → Shared → Prop} (p : IsPart v k) (h : Q k s) :
    wpAny (model prog w) A (Builtin.Slice.slicePartIndex v) Q E s := by
  cases p with
  | none => exact slicePart_none h
  | int i t => exact slicePart_int h

/-- the bounds that a slice with parts from nought has -/
noncomputable def loOf (lo : Option Int) (n : Nat) : Nat := match lo with | some i => min i.toNat n | none => 0
noncomputable def hiOf (hi : Option Int) (n : Nat) : Nat := match hi with | some i => min i.toNat n | none => n

theorem adjust_nn (lo hi : Option Int) (n : Nat) (h1 : ∀ i, lo = some i → 0 ≤ i) (h2 : ∀ i, hi = some i → 0 ≤ i) :
    Builtin.Slice.sliceAdjust lo hi 1 (n : Int) = ((loOf lo n : Int), (hiOf hi n : Int)) := by
  unfold Builtin.Slice.sliceAdjust loOf hiOf
  have h0 : ¬ ((1 : Int) < 0) := by omega
  simp only [h0, if_false]
  refine Prod.ext ?_ ?_
  · cases lo with
    | none => rfl
    | some i =>
      have := h1 i rfl
      have q : ¬ (i < 0) := by omega
      simp only [q, if_false]; omega
  · cases hi with
    | none => rfl
    | some i =>
      have := h2 i rfl
      have q : ¬ (i < 0) := by omega
      simp only [q, if_false]; omega

theorem places_nn (a b : Nat) : Builtin.Slice.slicePlaces (a : Int) (b : Int) 1 = b - a := by
  unfold Builtin.Slice.slicePlaces
  have h1 : (1 : Int) > 0 := by omega
  simp only [h1, if_true, Int.ediv_one]
  split <;> omega

theorem cut_eq {α : Type} (vs : List α) (lo hi : Option Int) : cut vs lo hi = (vs.drop (loOf lo vs.length)).take (hiOf hi vs.length - loOf lo vs.length) := by
  unfold cut loOf hiOf
  have key : ∀ (i j : Nat), (vs.take j).drop i = (vs.drop (min i vs.length)).take (min j vs.length - min i vs.length) := by
    intro i j
    rw [List.drop_take]
    by_cases h : i ≤ vs.length
    · rw [Nat.min_eq_left h]
      by_cases h' : j ≤ vs.length
      · rw [Nat.min_eq_left h']
      · rw [Nat.min_eq_right (by omega), List.take_of_length_le (by simp; omega), List.take_of_length_le (by simp)]
    · rw [List.drop_eq_nil_of_le (by omega : vs.length ≤ i), List.drop_eq_nil_of_le (by omega : vs.length ≤ min i vs.length)]
      simp
  cases lo with
  | none =>
    cases hi with
    | none => simp
    | some j => have := key 0 j.toNat; simpa using this
  | some i =>
    cases hi with
    | none => have := key i.toNat vs.length; simpa using this
    | some j => exact key i.toNat j.toNat

section
variable {prog : Program} {w : World} {A : Around} {E : Value → Shared → Prop} {s : Shared}
theorem sliceApplied_nn {sl : Addr} {vl vu : Value} {lo hi : Option Int} {n : Nat} {Q : Int × Int × Nat → Shared → Prop} (hs : s.heap.IsSliceOf sl vl vu .none) (pl : IsPart vl lo) (pu : IsPart vu hi)
    (h1 : ∀ i, lo = some i → 0 ≤ i) (h2 : ∀ i, hi = some i → 0 ≤ i)
    (h : Q ((loOf lo n : Int), 1, hiOf hi n - loOf lo n) s) : wpAny (model prog w) A (Builtin.Slice.sliceApplied (.ref sl) (pure (n : Int))) Q E s := by
  obtain ⟨os, hos, hcs, hds⟩ := id hs
  unfold Builtin.Slice.sliceApplied Builtin.Slice.sliceFields
  refine wpAny_bind (wpAny_bind (wpAny_field hos hds (x := vl) rfl (wpAny_bind (wpAny_field hos hds (x := vu) rfl (wpAny_bind (wpAny_field hos hds (x := .none) rfl (wpAny_pure ?_)))))))
  refine wpAny_bind (slicePart_none ?_)
  show wpAny _ _ (if ((1 : Int) == 0) = true then _ else _) _ _ s
  rw [if_neg (by decide)]
  refine wpAny_bind (part_index pl (wpAny_bind (part_index pu (wpAny_bind (wpAny_pure ?_)))))
  show wpAny _ _ (match Builtin.Slice.sliceAdjust lo hi 1 (n : Int) with | (lo, hi) => pure (lo, (1 : Int), Builtin.Slice.slicePlaces lo hi 1)) _ _ s
  rw [adjust_nn lo hi n h1 h2]
  show wpAny _ _ (pure ((loOf lo n : Int), (1 : Int), Builtin.Slice.slicePlaces (loOf lo n : Int) (hiOf hi n : Int) 1)) _ _ s
  rw [places_nn]
  exact wpAny_pure h

theorem tuple_cut {t sl : Addr} {vs : List Value} {vl vu : Value} {lo hi : Option Int} {Q : Value → Shared → Prop} (ht : s.heap.IsTuple t vs.toArray) (hs : s.heap.IsSliceOf sl vl vu .none) (pl : IsPart vl lo) (pu : IsPart vu hi)
    (h1 : ∀ i, lo = some i → 0 ≤ i) (h2 : ∀ i, hi = some i → 0 ≤ i) (hsz : vs.length ≤ sizeLine)
    (hw : cut vs lo hi = vs → Q (.ref t) s) (h : Q (.ref s.heap.objs.size) { s with heap := s.heap.push { cls := .type "tuple", data := .seq (cut vs lo hi).toArray } }) :
    wpAny (model prog w) A (getItem (.ref t) (.ref sl)) Q E s := by
  have hcl : (cut vs lo hi).length ≤ vs.length := by rw [cut_eq]; simp only [List.length_take, List.length_drop]; omega
  have hdrop : sizeOk (.seq (cut vs lo hi).toArray) := by
    show (cut vs lo hi).toArray.size ≤ sizeLine
    rw [List.size_toArray]; omega
  obtain ⟨os, hos, hcs, hds⟩ := id hs
  have hTs : s.TypeIs (.ref sl) "slice" := ⟨os, hos, hcs⟩
  have hTt : s.TypeIs (.ref t) "tuple" := ht.typeIs
  unfold getItem
  try with_reducible refine wpAny_holding ?_
  first | refine wpAny_bind (wpAny_pure ?_) | skip
  refine wpAny_bind (wpAny_sequenceKey ht.typeIs (by decide) ?_)
  refine wpAny_bind (wpAny_callSpecial?_slot (name := Str.ofString "__getitem__") ht.typeIs slot_tuple_getitem
    (wpAny_call_entry slot_tuple_getitem ht.typeIs entry_tuple_getitem ?_ (args_tuple_getitem _ _)))
  show wpAny _ _ (Builtin.Tuple.tupleItemsOf (.ref t) >>= _) _ _ s
  refine wpAny_bind (tupleItemsOf_ ht ?_)
  refine wpAny_bind (wpAny_typeOf hTs ?_)
  rw [if_pos (by decide)]
  have hn : vs.toArray.size = vs.length := by simp
  refine wpAny_bind ?_
  rw [hn]
  refine sliceApplied_nn hs pl pu h1 h2 ?_
  have hpick : ((List.range (hiOf hi vs.length - loOf lo vs.length)).filterMap fun (k : Nat) => vs.toArray[((loOf lo vs.length : Int) + (k : Int) * 1).toNat]?).toArray = (cut vs lo hi).toArray := by
    have e : (fun (k : Nat) => vs.toArray[((loOf lo vs.length : Int) + (k : Int) * 1).toNat]?) = fun k => vs.toArray[loOf lo vs.length + k]? := by
      funext k
      have : ((loOf lo vs.length : Int) + (k : Int) * 1).toNat = loOf lo vs.length + k := by omega
      rw [this]
    rw [e]
    have := pick_run vs.toArray (loOf lo vs.length) (hiOf hi vs.length - loOf lo vs.length)
    rw [List.filterMap_map] at this
    have e2 : ((fun x => vs.toArray[x]?) ∘ fun x => loOf lo vs.length + x) = fun k => vs.toArray[loOf lo vs.length + k]? := rfl
    rw [e2] at this
    rw [this, cut_eq]
  show wpAny _ _ (if ((loOf lo vs.length : Int) == 0 && (1 : Int) == 1 && (hiOf hi vs.length - loOf lo vs.length) == vs.length) = true then _ else _) _ _ s
  by_cases hwh : ((loOf lo vs.length : Int) == 0 && (1 : Int) == 1 && (hiOf hi vs.length - loOf lo vs.length) == vs.length) = true
  · rw [if_pos hwh]
    simp only [Bool.and_eq_true, beq_iff_eq] at hwh
    have hc : cut vs lo hi = vs := by
      rw [cut_eq]
      have : loOf lo vs.length = 0 := by omega
      rw [this] at hwh ⊢
      rw [hwh.2]; simp
    unfold Builtin.Tuple.tupleIsExact
    refine wpAny_bind (wpAny_bind (wpAny_typeOf hTt (wpAny_pure ?_)))
    rw [if_pos (by decide)]
    exact wpAny_bind (wpAny_rule (wpAny_pure ⟨_, rfl, wpAny_pure (hw hc)⟩))
  · rw [if_neg hwh, hpick]
    first
      | exact wpAny_bind (m := Builtin.Tuple.tupleExact _) (wpAny_newObj_type (wpAny_pure ⟨_, rfl, wpAny_pure h⟩) hdrop)
      | exact wpAny_bind (m := Builtin.Tuple.tupleExact _) (wpAny_newObj_type (wpAny_bind (wpAny_pure (wpAny_pure ⟨_, rfl, wpAny_pure h⟩))) hdrop)
      | exact wpAny_bind (wpAny_bind (m := Builtin.Tuple.tupleExact _) (wpAny_newObj_type (wpAny_pure (wpAny_pure ⟨_, rfl, wpAny_pure h⟩)) hdrop))
      | exact wpAny_bind (wpAny_bind (m := Builtin.Tuple.tupleExact _) (wpAny_newObj_type (wpAny_pure ⟨_, rfl, wpAny_pure h⟩) hdrop))

theorem Vs.cut {h : Heap} {vs : List Value} {ds : List D} (x : Vs h vs ds) (lo hi : Option Int) : Vs h (Mine.cut vs lo hi) (Mine.cut ds lo hi) := by
  unfold Mine.cut
  cases hi with
  | none => exact x.drop _
  | some j => exact (x.take _).drop _
theorem cut_len {α : Type} (vs : List α) (lo hi : Option Int) : (cut vs lo hi).length ≤ vs.length := by
  rw [cut_eq]; simp only [List.length_take, List.length_drop]; omega

theorem cut_ok {a : Value} {sl : Addr} {ds : List D} {vl vu : Value} {lo hi : Option Int} (h0 : V s.heap a (.tup ds)) (hs : s.heap.IsSliceOf sl vl vu .none) (pl : IsPart vl lo) (pu : IsPart vu hi)
    (h1 : ∀ i, lo = some i → 0 ≤ i) (h2 : ∀ i, hi = some i → 0 ≤ i) : wpAny (model prog w) A (getItem a (.ref sl)) (Post s (.tup (cut ds lo hi))) E s := by
  cases h0 with
  | tup hp hv hl =>
    have l1 := hv.length
    have := cut_len ds lo hi
    refine tuple_cut hp hs pl pu h1 h2 (by have := lim_line; omega) (fun e => ?_) (new_tuple (hv.cut lo hi) (by omega))
    refine ⟨keeps_refl s, .tup hp ?_ (by omega)⟩
    have := hv.cut lo hi
    rwa [e] at this
end
end Mine

namespace Mine
open PySem PySem.Calls PyProof.Rows PySem.SeqAt

structure Sc where
  kd : List (Str × NameKind)
  ix : List (Str × Nat)
  n : Nat

noncomputable def isVarK : Option NameKind → Bool
  | some .local => true
  | some .cell => true
  | _ => false
noncomputable def cV (sc : Sc) (x : Str) : Option E := if isVarK (sc.kd.lookup x) && !(x == ("__debug__" : Str)) then (sc.ix.lookup x).map .v else none
noncomputable def cConst : Const → Option D
  | .none => some .none
  | .bool b => some (.bool b)
  | .int i => some (.int i)
  | .str s => some (.str s)
  | _ => none
noncomputable def cOp : Operator → Option Op
  | .Add => some .add
  | .Sub => some .sub
  | .Mult => some .mul
  | .FloorDiv => some .div
  | .Mod => some .mod
  | .Pow => some .pow
  | _ => none
noncomputable def cCm : CmpOp → Option Cm
  | .Eq => some .eq
  | .NotEq => some .ne
  | .Lt => some .lt
  | .LtE => some .le
  | .Gt => some .gt
  | .GtE => some .ge
  | .Is => some .is
  | .IsNot => some .isNot
  | _ => none
noncomputable def cTy (x : Str) : Option Ty :=
  if x == ("tuple" : Str) then some .tuple else if x == ("int" : Str) then some .int else if x == ("bool" : Str) then some .bool else if x == ("str" : Str) then some .str else none

noncomputable def cEs (f : Expr → Option E) : List Expr → Option Es
  | [] => some .nil
  | e :: r => (f e).bind fun a => (cEs f r).map fun b => .cons a b
noncomputable def Es.size : Es → Nat
  | .nil => 0
  | .cons _ r => r.size + 1

noncomputable def boolE (op : BoolOp) (x y : E) : E := match op with
  | .And => .and x y
  | .Or => .or x y
noncomputable def cBool (f : Expr → Option E) (op : BoolOp) (a : Expr) : List Expr → Option E
  | [] => f a
  | b :: r => (f a).bind fun x => (cBool f op b r).map fun y => boolE op x y

noncomputable def glob (sc : Sc) (x : Str) : Bool := sc.kd.lookup x == some .globalImplicit && !(x == ("__debug__" : Str))

noncomputable def cB1 (f : Expr → Option E) (name : Str) (a : Expr) : Option E :=
  if name == ("len" : Str) then (f a).map .len
  else if name == ("int" : Str) then (f a).map .toInt
  else if name == ("tuple" : Str) then (f a).map .toTup
  else none
noncomputable def cIsi (f : Expr → Option E) (sc : Sc) (a : Expr) : Expr → Option E
  | .Name t _ => if glob sc t = true then (f a).bind fun x => (cTy t).map fun y => .isi x y else none
  | _ => none
noncomputable def cB2 (f : Expr → Option E) (sc : Sc) (name : Str) (a b : Expr) : Option E :=
  if name == ("isinstance" : Str) then cIsi f sc a b
  else if name == ("max" : Str) then (f a).bind fun x => (f b).map fun y => .max x y
  else none
noncomputable def cBuiltin (f : Expr → Option E) (sc : Sc) (name : Str) : List Expr → Option E
  | [] => none
  | a :: r => match r with
    | [] => cB1 f name a
    | b :: r' => if r'.isEmpty = true then cB2 f sc name a b else none

noncomputable def cCall (f : Expr → Option E) (fns : List Str) (sc : Sc) (name : Str) (args : List Expr) : Option E :=
  if glob sc name = true then
    match fns.idxOf? name with
    | some i => if args.isEmpty = true then none else (cEs f args).map (.call i)
    | none => cBuiltin f sc name args
  else none

noncomputable def cRange (f : Expr → Option E) : List Expr → Option It
  | [] => none
  | a :: r => match r with
    | [] => (f a).map .range
    | b :: r' => if r'.isEmpty = true then (f a).bind fun x => (f b).map fun y => .range2 x y else none
noncomputable def nameIs (r : Str) : Expr → Bool
  | .Name x _ => x == r
  | _ => false
theorem nameIs_some {r : Str} {e : Expr} (h : nameIs r e = true) : ∃ p, e = .Name r p := by
  cases e <;> first | cases h; done | skip
  rename_i x p
  have := beq_iff_eq.mp h
  subst this
  exact ⟨p, rfl⟩
noncomputable def cIt (f : Expr → Option E) (sc : Sc) (e : Expr) : Option It :=
  match e with
  | .Call fn args kws _ => if nameIs "range" fn = true then (if glob sc "range" = true ∧ kws.isEmpty = true then cRange f args else none) else (f e).map .seq
  | .Name .. => (f e).map .seq
  | .Subscript .. => (f e).map .seq
  | .BinOp .. => (f e).map .seq
  | .List .. => (f e).map .seq
  | _ => none

noncomputable def relabelN (names kd : List (Str × NameKind)) : List (Str × NameKind) := names.map fun y => if y.2 == NameKind.free && kd.lookup y.1 == some .cell then (y.1, NameKind.cell) else y
noncomputable def compSc (sc : Sc) (names : List (Str × NameKind)) (x : Str) : Sc :=
  { kd := relabelN names sc.kd, ix := (x, sc.n) :: names.filterMap (fun y => if y.2 == NameKind.free then (sc.ix.lookup y.1).map (y.1, ·) else none), n := sc.n + 1 }
noncomputable def compOk (sc : Sc) (scope : Scope) (x : Str) : Bool :=
  scope.kind == .function && scope.names.lookup x == some .local &&
  scope.names.all (fun y => (y.2 == .local && scope.names.lookup y.1 == some .local) || (y.2 == .free && sc.kd.lookup y.1 == some .cell && y.1 != x && scope.names.lookup y.1 == some .free) || y.2 == .globalImplicit) && sc.ix.all (fun p => decide (p.2 < sc.n))

noncomputable def cUn (op : UnaryOp) (x : Option E) : Option E := match op with
  | .USub => x.map .neg
  | .Not => x.map .not
  | _ => none
noncomputable def idxVar (sc : Sc) (x : Str) : Option Nat := if isVarK (sc.kd.lookup x) && !(x == ("__debug__" : Str)) then sc.ix.lookup x else none
noncomputable def nameOf : Expr → Option Str
  | .Name x _ => some x
  | _ => none
theorem nameOf_some {e : Expr} {x : Str} (h : nameOf e = some x) : ∃ p, e = .Name x p := by
  cases e <;> first | exact nns h | exact nnb h | skip
  cases h; exact ⟨_, rfl⟩
/-- the names that hold dicts in these texts -/
noncomputable def dictNames : List Str := ["_law_numbers", "come", "_law_seen"]
noncomputable def dictVar (sc : Sc) (v : Expr) : Option Nat := (nameOf v).bind fun x => if dictNames.contains x = true then idxVar sc x else none
noncomputable def inOf : CmpOp → Option Bool
  | .In => some false
  | .NotIn => some true
  | _ => none
noncomputable def cIn (f : Expr → Option E) (sc : Sc) (neg : Bool) (l r : Expr) : Option E := (f l).bind fun a => (nameOf r).bind fun y => (idxVar sc y).map fun j => .inD neg a j
noncomputable def cCmp1 (f : Expr → Option E) (sc : Sc) (l : Expr) (op : CmpOp) (r : Expr) : Option E := match inOf op with
  | some neg => cIn f sc neg l r
  | none => (cCm op).bind fun o => (f l).bind fun a => (f r).map fun b => .cmp o a b
noncomputable def cCmp2 (f : Expr → Option E) (l : Expr) (op₁ op₂ : CmpOp) (r₁ r₂ : Expr) : Option E := (cCm op₁).bind fun o₁ => (cCm op₂).bind fun o₂ => (f l).bind fun a => (f r₁).bind fun b => (f r₂).map fun c => .chain o₁ o₂ a b c
/-- the two lists of a comparison -/
inductive Cv : List CmpOp → List Expr → Type where
  | one (op : CmpOp) (r : Expr) : Cv [op] [r]
  | two (op₁ op₂ : CmpOp) (r₁ r₂ : Expr) : Cv [op₁, op₂] [r₁, r₂]
noncomputable def cv : (a : List CmpOp) → (b : List Expr) → Option (Cv a b)
  | [op], [r] => some (.one op r)
  | [op₁, op₂], [r₁, r₂] => some (.two op₁ op₂ r₁ r₂)
  | _, _ => none
noncomputable def cCmpE (f : Expr → Option E) (sc : Sc) (l : Expr) (a : List CmpOp) (b : List Expr) : Option E := (cv a b).bind fun c => match a, b, c with
  | _, _, .one op r => cCmp1 f sc l op r
  | _, _, .two op₁ op₂ r₁ r₂ => cCmp2 f l op₁ op₂ r₁ r₂
noncomputable def cSlice (f : Expr → Option E) (v : Expr) (lo hi : Option Expr) : Option E := if hi.isNone = true then lo.bind fun lo => (f v).bind fun a => (f lo).map fun l => .slFrom a l else none
noncomputable def isSlice : Expr → Bool
  | .Slice .. => true
  | _ => false
noncomputable def cSl (f : Expr → Option E) (v : Expr) : Expr → Option E
  | .Slice lo hi st _ => if st.isNone = true then cSlice f v lo hi else none
  | _ => none
noncomputable def cSubE (f : Expr → Option E) (sc : Sc) (v sl : Expr) : Option E := if isSlice sl = true then cSl f v sl else match dictVar sc v with
  | some j => (f sl).map fun b => .get j b
  | none => (f v).bind fun a => (f sl).map fun b => .idx a b
noncomputable def cCallE (f : Expr → Option E) (fns : List Str) (sc : Sc) (args : List Expr) : Expr → Option E
  | .Name nm _ => cCall f fns sc nm args
  | _ => none
noncomputable def cComp (g : Sc → Expr → Option E) (sc : Sc) (elt : Expr) (scope : Scope) : List Comprehension → Option E
  | [] => none
  | c :: r => if r.isEmpty = true ∧ c.is_async = 0 then (nameOf c.target).bind fun x => if compOk sc scope x = true then
      (cIt (g sc) sc c.iter).bind fun it => (g (compSc sc scope.names x) elt).bind fun el => match c.ifs with
        | [] => some (.comp el it (.k (.bool true)))
        | t :: r => if r.isEmpty = true then (g (compSc sc scope.names x) t).map fun cd => .comp el it cd else none
    else none else none

noncomputable def cE (fns : List Str) : Nat → Sc → Expr → Option E
  | 0, _, _ => none
  | n + 1, sc, e => match e with
    | .Constant c _ _ => (cConst c).map .k
    | .Name x _ => cV sc x
    | .BinOp l op r _ => (cOp op).bind fun o => (cE fns n sc l).bind fun a => (cE fns n sc r).map fun b => .bin o a b
    | .UnaryOp op x _ => cUn op (cE fns n sc x)
    | .BoolOp op vs _ => match vs with
      | [] => none
      | a :: r => if r.isEmpty = true then none else cBool (cE fns n sc) op a r
    | .Compare l ops rs _ => cCmpE (cE fns n sc) sc l ops rs
    | .Subscript v sl _ => cSubE (cE fns n sc) sc v sl
    | .Tuple es _ _ => (cEs (cE fns n sc) es).bind fun x => if x.size ≤ 1000 then some (.tup x) else none
    | .List es _ => (cEs (cE fns n sc) es).bind fun x => if x.size ≤ 1000 then some (.lst x) else none
    | .Call fn args kws pos => if kws.isEmpty = true then cCallE (cE fns n sc) fns sc args fn else none
    | .ListComp elt gens scope _ => cComp (cE fns n) sc elt scope gens
    | _ => none
end Mine

namespace Mine
open PySem PySem.Calls PyProof.Rows PySem.SeqAt

noncomputable def blNames : List Str := ["len", "int", "tuple", "list", "isinstance", "max", "range", "bool", "str", "sorted"]

/-- what stands at the top -/
structure Gl (fns : List Str) (base : Heap) (mg mb : Str → Option Value) (fa : Nat → Addr) : Prop where
  g : base.Ns mainGlobals mg
  b : base.Ns builtinsNs mb
  lim : base.NoLimit
  fn : ∀ (i : Nat) n, fns[i]? = some n → ∃ o fd, mg n = some (.ref (fa i)) ∧ base.get? (fa i) = some o ∧ o.data = .func fd
  bl : ∀ x ∈ blNames, mg x = none ∧ mb x = bootBuiltins x

structure Ok (base : Heap) (k : Nat) (A : Around) (h : Heap) : Prop where
  hand : A.handled = none
  room : A.depth + k < recursionLimit
  units : A.units + 10 * k + 100 < cLine
  fr : ∃ l, Below A base l h

theorem Ok.mono {base : Heap} {k : Nat} {A : Around} {h h' : Heap} (x : Ok base k A h) (e : ∀ b o, h.get? b = some o → h'.get? b = some o) : Ok base k A h' := by
  obtain ⟨a, b, c, l, L⟩ := x
  exact ⟨a, b, c, l, L.stack, fun b o q => e b o (L.stays b o q), L.frames.of_keeps fun b o q _ => ⟨o, e b o q, rfl⟩⟩
theorem Ok.stays {base : Heap} {k : Nat} {A : Around} {h : Heap} (x : Ok base k A h) : ∀ b o, base.get? b = some o → h.get? b = some o := let ⟨_, L⟩ := x.fr; L.stays
theorem Ok.le {base : Heap} {k j : Nat} {A : Around} {h : Heap} (x : Ok base k A h) (e : j ≤ k) : Ok base j A h := by
  obtain ⟨a, b, c, l⟩ := x
  exact ⟨a, by omega, by omega, l⟩

/-- the name x holds v -/
inductive At (h : Heap) (env : Env) (x : Str) (v : Value) : Prop
  | loc (m : Str → Option Value) : env.kindOf x = some .local → h.Ns env.locals m → m x = some v → At h env x v
  | cell (c : Addr) : env.kindOf x = some .cell → env.cells.lookup x = some c → h.IsCell c (some v) → At h env x v
theorem At.mono {h h' : Heap} {env : Env} {x : Str} {v : Value} (a : At h env x v) (e : ∀ b o, h.get? b = some o → h'.get? b = some o) : At h' env x v := by
  cases a with
  | loc m a b c => exact .loc m a (b.keeps e) c
  | cell c a b d => exact .cell c a b (d.keeps e)

/-- what a name that is read bears -/
noncomputable def LoC (prog : Program) (w : World) (h : Heap) (v : Value) (lo : Lo) : Prop := match lo with
  | .dic kvs => ∃ a, v = .ref a ∧ DicAt prog w h a kvs
  | .dat d => V h v d
  | .arg d => V h v d
  | .own ds => V h v (.lst ds)
  | .ob a => v = .ref a
theorem LoC.keeps {prog : Program} {w : World} {h h' : Heap} {v : Value} {lo : Lo} (x : LoC prog w h v lo) (k : ∀ b o, h.get? b = some o → h'.get? b = some o) : LoC prog w h' v lo := by
  cases lo with
  | dic kvs => obtain ⟨a, e, q⟩ := x; exact ⟨a, e, q.keeps k⟩
  | dat d => exact V.mono k x
  | arg d => exact V.mono k x
  | own d => exact V.mono k x
  | ob a => exact x
theorem LoC.val {prog : Program} {w : World} {h : Heap} {v : Value} {lo : Lo} {d : D} (x : LoC prog w h v lo) (e : lo.val? = some d) : V h v d := by
  cases lo with
  | dic kvs => cases e
  | dat d => cases e; exact x
  | arg d => cases e; exact x
  | own d => cases e; exact x
  | ob a => cases e

structure Cx (prog : Program) (w : World) (base : Heap) (k : Nat) (sc : Sc) (env : Env) (ρ : Rho) (A : Around) (h : Heap) : Prop where
  names : env.scope.names = sc.kd
  kind : env.scope.kind = .function
  glob : env.globals = mainGlobals
  blt : env.builtins = builtinsNs
  cells : ∀ x, sc.kd.lookup x = some .cell → (env.cells.lookup x).isSome = true
  len : ρ.length = sc.n
  binds : ∀ x i lo, isVarK (sc.kd.lookup x) = true → sc.ix.lookup x = some i → ρ.get i = some lo → ∃ v, At h env x v ∧ LoC prog w h v lo
  ok : Ok base k A h
theorem Cx.mono {prog : Program} {w : World} {base : Heap} {k : Nat} {sc : Sc} {env : Env} {ρ : Rho} {A : Around} {h h' : Heap} (c : Cx prog w base k sc env ρ A h) (e : ∀ b o, h.get? b = some o → h'.get? b = some o) : Cx prog w base k sc env ρ A h' :=
  ⟨c.names, c.kind, c.glob, c.blt, c.cells, c.len, fun x i lo h1 h2 h3 => let ⟨v, a, b⟩ := c.binds x i lo h1 h2 h3; ⟨v, a.mono e, b.keeps e⟩, c.ok.mono e⟩
theorem Cx.kindOf {prog : Program} {w : World} {base : Heap} {k : Nat} {sc : Sc} {env : Env} {ρ : Rho} {A : Around} {h : Heap} (c : Cx prog w base k sc env ρ A h) (x : Str) : env.kindOf x = sc.kd.lookup x := by
  show env.scope.names.lookup x = _; rw [c.names]

noncomputable def FnsOk (prog : Program) (w : World) (base : Heap) (Φ : Fns) (fa : Nat → Addr) (k : Nat) : Prop :=
  ∀ f ds d A s vs E, Φ f ds = some (.ok d) → Ok base k A s.heap → Vs s.heap vs ds → wpAny (model prog w) A (call (.ref (fa f)) vs) (Post s d) E s

section
variable {prog : Program} {w : World} {base : Heap} {fns : List Str} {mg mb : Str → Option Value} {fa : Nat → Addr} {Φ : Fns} {k : Nat}

noncomputable def EvOK (prog : Program) (w : World) (base : Heap) (Φ : Fns) (k : Nat) (sc : Sc) (e : Expr) (e' : E) : Prop :=
  ∀ env ρ A s d E, Cx prog w base k sc env ρ A s.heap → ev Φ ρ e' = some d → wpAny (model prog w) A (eval e env) (Post s d) E s
noncomputable def TrOK (prog : Program) (w : World) (base : Heap) (Φ : Fns) (k : Nat) (sc : Sc) (e : Expr) (e' : E) : Prop :=
  ∀ env ρ A s b E, Cx prog w base k sc env ρ A s.heap → ev Φ ρ e' = some (.bool b) → wpAny (model prog w) A (isTrue e env (eval e env)) (fun r s' => r = b ∧ Keeps s s') E s

theorem tr_plain {sc : Sc} {e : Expr} {e' : E} (h : EvOK prog w base Φ k sc e e')
    (he : ∀ env whole, isTrue e env whole = (do let v ← whole; standAt e.pos; holding [v] (truthy v))) : TrOK prog w base Φ k sc e e' := by
  intro env ρ A s b E c hv
  refine isTrue_plain (wpAny_mono (h env ρ A s _ E c hv) (fun v s₁ h₁ => ?_) fun _ _ x => x) (he env _)
  obtain ⟨k1, v1⟩ := h₁
  cases v1
  exact wpAny_truthy_bool ⟨rfl, k1⟩

theorem starEach_plain {e : Expr} (h : ∀ a b, e ≠ .Starred a b) (rest : List Expr) (env : Env) : starEach (e :: rest) env = (false, eval e env) :: starEach rest env := by
  cases e <;> first | rfl | (exact absurd rfl (h _ _))

noncomputable def Judged (prog : Program) (w : World) (base : Heap) (Φ : Fns) (k : Nat) (sc : Sc) (f : Expr → Option E) : Prop :=
  (∀ e e', f e = some e' → EvOK prog w base Φ k sc e e' ∧ TrOK prog w base Φ k sc e e') ∧ ∀ a b, f (.Starred a b) = none

theorem Judged.plain {sc : Sc} {f : Expr → Option E} (J : Judged prog w base Φ k sc f) {e : Expr} {e' : E} (h : f e = some e') : ∀ a b, e ≠ .Starred a b := by
  rintro a b rfl; rw [J.2] at h; cases h

theorem args_ok {sc : Sc} {f : Expr → Option E} (J : Judged prog w base Φ k sc f) : ∀ (es : List Expr) (es' : Es), cEs f es = some es' → ∀ env ρ A s ds E pos, Cx prog w base k sc env ρ A s.heap → evs Φ ρ es' = some ds →
    wpAny (model prog w) A (spliced (backTo pos (starEach es env))) (fun vs s' => Keeps s s' ∧ Vs s'.heap vs ds) E s
  | [], es', h, env, ρ, A, s, ds, E, pos, c, hv => by
    simp only [cEs, Option.some.injEq] at h
    subst h
    simp only [evs, Option.some.injEq] at hv
    subst hv
    exact args_nil ⟨keeps_refl s, .nil⟩
  | e :: r, es', h, env, ρ, A, s, ds, E, pos, c, hv => by
    replace h := ob h
    obtain ⟨a, ha, h⟩ := h
    replace h := om h
    obtain ⟨b, hb, rfl⟩ := h
    simp only [evs] at hv
    replace hv := ob hv
    obtain ⟨d, hd, hv⟩ := hv
    replace hv := om hv
    obtain ⟨ds', hds, rfl⟩ := hv
    refine args_cons ?_ (starEach_plain (J.plain ha) r env)
    refine wpAny_mono ((J.1 e a ha).1 env ρ A s d E c hd) (fun v s₁ h₁ => ?_) fun _ _ x => x
    obtain ⟨k1, v1⟩ := h₁
    refine wpAny_mono (args_ok J r b hb env ρ A s₁ ds' E pos (c.mono (keeps_heap k1)) hds) (fun vs s₂ h₂ => ?_) fun _ _ x => x
    exact ⟨keeps_trans k1 h₂.1, .cons (v1.mono (keeps_heap h₂.1)) h₂.2⟩

theorem evs_size : ∀ (es : Es) (ρ : Rho) (ds : List D), evs Φ ρ es = some ds → ds.length = es.size
  | .nil, ρ, ds, h => by simp only [evs, Option.some.injEq] at h; subst h; rfl
  | .cons e r, ρ, ds, h => by
    simp only [evs] at h
    replace h := ob h
    obtain ⟨d, hd, h⟩ := h
    replace h := om h
    obtain ⟨ds', hds, rfl⟩ := h
    simp only [List.length_cons, Es.size, evs_size r ρ ds' hds]

theorem small_lim {n : Nat} (h : n ≤ 1000) : n ≤ lim := Nat.le_trans h (by decide)

theorem load_var {sc : Sc} {env : Env} {ρ : Rho} {A : Around} {s : Shared} {x : Str} {pos : Pos} {v : Value} {Q : Value → Shared → Prop} {E : Value → Shared → Prop} (hk : env.scope.kind = .function) (a : At s.heap env x v) (h : Q v s)
    (hd : (x == ("__debug__" : Str)) = false) : wpAny (model prog w) A (eval (.Name x pos) env) Q E s := by
  cases a with
  | loc m a b c => exact wpAny_Name (wpAny_loadName_local hk a b c h) hd
  | cell c a b d => exact wpAny_Name (wpAny_loadName_cell hk a b d h) hd

theorem load_builtin {sc : Sc} {env : Env} {ρ : Rho} {A : Around} {s : Shared} {x : Str} {pos : Pos} {v : Value} {Q : Value → Shared → Prop} {E : Value → Shared → Prop} (G : Gl fns base mg mb fa) (c : Cx prog w base k sc env ρ A s.heap) (hg : glob sc x = true)
    (hx : x ∈ blNames) (hv : bootBuiltins x = some v) (h : Q v s) : wpAny (model prog w) A (eval (.Name x pos) env) Q E s := by
  simp only [Mine.glob, Bool.and_eq_true, beq_iff_eq, Bool.not_eq_true'] at hg
  obtain ⟨h1, h2⟩ := G.bl x hx
  refine Name_function_global c.kind ((c.kindOf x).trans hg.1) (loadGlobal_builtin (mg := mg) (mb := mb) ?_ h1 ?_ (h2.trans hv) h) hg.2
  · rw [c.glob]; exact G.g.keeps c.ok.stays
  · rw [c.blt]; exact G.b.keeps c.ok.stays

theorem load_fn {sc : Sc} {env : Env} {ρ : Rho} {A : Around} {s : Shared} {i : Nat} {n : Str} {pos : Pos} {Q : Value → Shared → Prop} {E : Value → Shared → Prop} (G : Gl fns base mg mb fa) (c : Cx prog w base k sc env ρ A s.heap) (hg : glob sc n = true)
    (hn : fns[i]? = some n) (h : Q (.ref (fa i)) s) : wpAny (model prog w) A (eval (.Name n pos) env) Q E s := by
  simp only [Mine.glob, Bool.and_eq_true, beq_iff_eq, Bool.not_eq_true'] at hg
  obtain ⟨o, fd, h1, _, _⟩ := G.fn i n hn
  refine Name_function_global c.kind ((c.kindOf n).trans hg.1) (loadGlobal_global (mg := mg) ?_ h1 h) hg.2
  rw [c.glob]; exact G.g.keeps c.ok.stays

theorem idxOf?_get {l : List Str} {x : Str} {i : Nat} (h : l.idxOf? x = some i) : l[i]? = some x := by
  induction l generalizing i with
  | nil => simp at h
  | cons y l ih =>
    rw [List.idxOf?_cons] at h
    split at h
    · rename_i hb
      simp only [Option.some.injEq] at h
      subst h
      simp [beq_iff_eq.mp hb]
    · simp only [Option.map_eq_some_iff] at h
      obtain ⟨j, hj, rfl⟩ := h
      simpa using ih hj

theorem V.bool_inv {h : Heap} {v : Value} {b : Bool} (x : V h v (.bool b)) : v = .bool b := by cases x; rfl

theorem bool_ok {sc : Sc} {f : Expr → Option E} (J : Judged prog w base Φ k sc f) (op : BoolOp) (pos : Pos) : ∀ (r : List Expr) (a : Expr) (e' : E), cBool f op a r = some e' →
    (∀ env ρ A s d E, Cx prog w base k sc env ρ A s.heap → ev Φ ρ e' = some d → wpAny (model prog w) A (boolOp pos op (evalEach (a :: r) env)) (Post s d) E s) ∧
    (∀ env ρ A s b E, Cx prog w base k sc env ρ A s.heap → ev Φ ρ e' = some (.bool b) → wpAny (model prog w) A (allTrue op (a :: r) env) (fun r s' => r = b ∧ Keeps s s') E s)
  | [], a, e', h => by
    refine ⟨fun env ρ A s d E c hv => ?_, fun env ρ A s b E c hv => ?_⟩
    · exact (J.1 a e' h).1 env ρ A s d E c hv
    · show wpAny _ _ (do match op, ← isTrue a env (eval a env) with
        | .And, false => pure false
        | .Or, true => pure true
        | _, _ => allTrue op [] env) _ _ _
      refine wpAny_bind (wpAny_mono ((J.1 a e' h).2 env ρ A s b E c hv) (fun r s₁ h₁ => ?_) fun _ _ x => x)
      obtain ⟨rfl, k1⟩ := h₁
      cases op <;> cases r <;> exact wpAny_pure ⟨rfl, k1⟩
  | a' :: r, a, e', h => by
    replace h := ob h
    obtain ⟨x, hx, h⟩ := h
    replace h := om h
    obtain ⟨y, hy, rfl⟩ := h
    obtain ⟨ih1, ih2⟩ := bool_ok J op pos r a' y hy
    obtain ⟨ja, jb⟩ := J.1 a x hx
    -- what the first gives, and what is left
    have parts : ∀ ρ d, ev Φ ρ (boolE op x y) = some d → ∃ p, ev Φ ρ x = some (.bool p) ∧ ((op = .And ↔ p = true) → ∃ q, d = .bool q ∧ ev Φ ρ y = some (.bool q)) ∧ (¬(op = .And ↔ p = true) → d = .bool p) := by
      intro ρ d hv
      cases op with
      | And =>
        simp only [boolE, ev] at hv
        obtain ⟨v, hv1, hva⟩ := ob hv
        obtain ⟨p, hp, hvb⟩ := ob hva
        have := isTrueD_some hp; subst this
        clear hv hva
        refine ⟨p, hv1, fun q => ?_, fun q => ?_⟩
        · rw [if_pos (q.mp rfl)] at hvb
          obtain ⟨v2, hv2, hvc⟩ := ob hvb
          obtain ⟨q2, hq2, rfl⟩ := om hvc
          have := isTrueD_some hq2; subst this
          exact ⟨q2, rfl, hv2⟩
        · cases p with
          | true => exact absurd ⟨fun _ => rfl, fun _ => rfl⟩ q
          | false => cases hvb; rfl
      | Or =>
        simp only [boolE, ev] at hv
        obtain ⟨v, hv1, hva⟩ := ob hv
        obtain ⟨p, hp, hvb⟩ := ob hva
        have := isTrueD_some hp; subst this
        clear hv hva
        refine ⟨p, hv1, fun q => ?_, fun q => ?_⟩
        · cases p with
          | true => cases q.mpr rfl
          | false =>
            obtain ⟨v2, hv2, hvc⟩ := ob hvb
            replace hvc := om hvc
            obtain ⟨q2, hq2, rfl⟩ := hvc
            have := isTrueD_some hq2; subst this
            exact ⟨q2, rfl, hv2⟩
        · cases p with
          | true => cases hvb; rfl
          | false => exact absurd ⟨(fun q => by cases q), (fun q => by cases q)⟩ q
    refine ⟨fun env ρ A s d E c hv => ?_, fun env ρ A s b E c hv => ?_⟩
    · show wpAny _ _ (do
        let v ← eval a env
        standAt pos
        let t ← holding [v] (truthy v)
        match op, t with
        | .And, false | .Or, true => pure v
        | _, _ => boolOp pos op (evalEach (a' :: r) env)) _ _ _
      obtain ⟨p, hp, h1, h2⟩ := parts ρ d hv
      refine wpAny_bind (wpAny_mono (ja env ρ A s _ E c hp) (fun v s₁ h₁ => wpAny_bind (wpAny_standAt (wpAny_bind (wpAny_holding ?_)))) fun _ _ x => x)
      obtain ⟨k1, v1⟩ := h₁
      have := v1.bool_inv; subst this
      refine wpAny_truthy_bool ?_
      have go : (op = .And ↔ p = true) → wpAny (model prog w) A (boolOp pos op (evalEach (a' :: r) env)) (Post s d) E s₁ := fun q => by
        obtain ⟨q2, rfl, hq2⟩ := h1 q
        exact wpAny_mono (ih1 env ρ A s₁ _ E (c.mono (keeps_heap k1)) hq2) (fun v s₂ h₂ => ⟨keeps_trans k1 h₂.1, h₂.2⟩) fun _ _ x => x
      have stop : ¬(op = .And ↔ p = true) → wpAny (model prog w) A (pure (.bool p)) (Post s d) E s₁ := fun q => by
        rw [h2 q]; exact wpAny_pure ⟨k1, .bool _⟩
      cases op <;> cases p
      · exact stop fun q => by cases q.mp rfl
      · exact go ⟨fun _ => rfl, fun _ => rfl⟩
      · exact go ⟨(fun q => by cases q), (fun q => by cases q)⟩
      · exact stop fun q => by cases q.mpr rfl
    · show wpAny _ _ (do match op, ← isTrue a env (eval a env) with
        | .And, false => pure false
        | .Or, true => pure true
        | _, _ => allTrue op (a' :: r) env) _ _ _
      obtain ⟨p, hp, h1, h2⟩ := parts ρ _ hv
      refine wpAny_bind (wpAny_mono (jb env ρ A s _ E c hp) (fun v s₁ h₁ => ?_) fun _ _ x => x)
      obtain ⟨rfl, k1⟩ := h₁
      have go : (op = .And ↔ v = true) → wpAny (model prog w) A (allTrue op (a' :: r) env) (fun r s' => r = b ∧ Keeps s s') E s₁ := fun q => by
        obtain ⟨q2, e2, hq2⟩ := h1 q
        cases e2
        exact wpAny_mono (ih2 env ρ A s₁ _ E (c.mono (keeps_heap k1)) hq2) (fun v s₂ h₂ => ⟨h₂.1, keeps_trans k1 h₂.2⟩) fun _ _ x => x
      have stop : ¬(op = .And ↔ v = true) → wpAny (model prog w) A (pure v) (fun r s' => r = b ∧ Keeps s s') E s₁ := fun q => by
        cases h2 q
        exact wpAny_pure ⟨rfl, k1⟩
      cases op <;> cases v
      · exact stop fun q => by cases q.mp rfl
      · exact go ⟨fun _ => rfl, fun _ => rfl⟩
      · exact go ⟨(fun q => by cases q), (fun q => by cases q)⟩
      · exact stop fun q => by cases q.mpr rfl
end
end Mine

namespace Mine
open PySem PySem.Calls PyProof.Rows PySem.SeqAt

noncomputable def Wk (prog : Program) (w : World) (A : Around) (h₁ : Heap) (s₂ : Shared) (I : Addr) (fp : List Addr) (ds : List D) : Prop :=
  ∃ P St, Walks prog w A I fp [I] ds.length P St ∧ St 0 s₂.heap ∧ (∀ b ∈ fp, b < s₂.heap.objs.size) ∧ h₁.get? I = none ∧ (∀ b o, h₁.get? b = some o → s₂.heap.get? b = some o) ∧ (∀ i v, P i v → ∃ d, ds[i]? = some d ∧ V h₁ v d) ∧ (∀ i h, St i h → ∃ o, h.get? I = some o ∧ ∃ fs, o.data = .fields fs)

section
variable {prog : Program} {w : World} {A : Around} {E : Value → Shared → Prop} {s : Shared}

theorem size_none (h : Heap) : h.get? h.objs.size = none := by
  cases q : h.get? h.objs.size with
  | none => rfl
  | some o => exact absurd (Heap.lt_size q) (Nat.lt_irrefl _)

theorem iter_seq {a : Value} {d : D} {ds : List D} (hh : A.handled = none) (hv : V s.heap a d) (hi : items d = some ds) :
    wpAny (model prog w) A (pyIter a) (fun it s₂ => ∃ I ax, it = .ref I ∧ a = .ref ax ∧ Keeps s s₂ ∧ Wk prog w A s.heap s₂ I [I, ax] ds) E s := by
  cases hv <;> simp only [items, reduceCtorEq, Option.some.injEq] at hi
  · rename_i p vs ds' hp hvs hl
    subst hi
    have l1 := hvs.length
    obtain ⟨o, ho, _⟩ := id hp
    have hlt := Heap.lt_size ho
    have hne : p ≠ s.heap.objs.size := Nat.ne_of_lt hlt
    have W := Walks.tuple (prog := prog) (w := w) hh s.heap.objs.size p hne vs.toArray
    rw [show vs.toArray.size = ds'.length by simp [l1]] at W
    refine wpAny_pyIter_tuple hp ⟨_, p, rfl, rfl, keeps_push s _ s.toks, _, _, W, ?_, ?_, size_none _, fun b o e => Heap.get?_push_of_some _ e, ?_, ?_⟩
    · exact ⟨⟨_, Heap.get?_push_size _ rfl, rfl, rfl⟩, IsTuple_keep hp fun b o e => Heap.get?_push_of_some _ e⟩
    · intro b hb
      rw [Heap.size_push]
      rcases List.mem_cons.mp hb with rfl | hb
      · exact Nat.lt_succ_self _
      · rw [List.mem_singleton.mp hb]; exact Nat.lt_succ_of_lt hlt
    · intro i v hv
      exact hvs.get' (by simpa using hv)
    · rintro i h ⟨⟨o, ho, _, hd⟩, _⟩
      exact ⟨o, ho, _, hd⟩
  · rename_i p vs ds' hp hvs hl
    subst hi
    have l1 := hvs.length
    obtain ⟨o, ho, _⟩ := hp.isList
    have hlt := Heap.lt_size ho
    have hne : p ≠ s.heap.objs.size := Nat.ne_of_lt hlt
    have W := Walks.list (prog := prog) (w := w) hh s.heap.objs.size p hne vs.toArray
    rw [show vs.toArray.size = ds'.length by simp [l1]] at W
    refine wpAny_pyIter_list hp.isList ⟨_, p, rfl, rfl, keeps_push s _ s.toks, _, _, W, ?_, ?_, size_none _, fun b o e => Heap.get?_push_of_some _ e, ?_, ?_⟩
    · exact ⟨⟨_, Heap.get?_push_size _ rfl, rfl, rfl⟩, IsList_keep hp.isList fun b o e => Heap.get?_push_of_some _ e⟩
    · intro b hb
      rw [Heap.size_push]
      rcases List.mem_cons.mp hb with rfl | hb
      · exact Nat.lt_succ_self _
      · rw [List.mem_singleton.mp hb]; exact Nat.lt_succ_of_lt hlt
    · intro i v hv
      exact hvs.get' (by simpa using hv)
    · rintro i h ⟨⟨o, ho, _, hd⟩, _⟩
      exact ⟨o, ho, _, hd⟩

theorem iter_range {r : Addr} {a b : Int} {t u v : Tok} (hh : A.handled = none) (hr : IsRange s.heap r a b 1 t u v) (h1 : -lim ≤ a ∧ a ≤ lim) (h2 : -lim ≤ b ∧ b ≤ lim) :
    wpAny (model prog w) A (pyIter (.ref r)) (fun it s₂ => ∃ I, it = .ref I ∧ Keeps s s₂ ∧ Wk prog w A s.heap s₂ I [I] (rangeD a b)) E s := by
  have hlen : ((rangeD a b).length : Int) = Builtin.Range.rangeSize a b 1 := by
    rw [rangeSize_one]
    simp only [rangeD, List.length_map, List.length_range]
    split <;> omega
  have hlim : (lim : Int) < 2 ^ 62 := by decide +kernel
  have W := (Walks.range (prog := prog) (w := w) hh s.heap.objs.size a 1 (rangeD a b).length).bound
  refine wpAny_pyIter_range hr (small_one (by omega) (by omega) (by omega) (by omega)) ⟨_, rfl, keeps_push s _ s.toks, _, _, W, ?_, ?_, size_none _, fun b o e => Heap.get?_push_of_some _ e, ?_, ?_⟩
  · show IsRangeIter _ _ _ _ _
    rw [← hlen]
    simpa using Heap.get?_push_size s.heap (o := { cls := .type "range_iterator", data := .fields #[rawInt a, rawInt ((rangeD a b).length : Int), rawInt 1] }) rfl
  · intro b hb
    rw [List.mem_singleton.mp hb, Heap.size_push]; exact Nat.lt_succ_self _
  · rintro i v ⟨hi, t, rfl⟩
    exact ⟨_, rangeD_get hi, by rw [Int.mul_one]; exact .int _ _⟩
  · intro i h hst
    exact ⟨_, hst, _, rfl⟩
end

/-- the closure that a comprehension draws -/
noncomputable def clList (names : List (Str × NameKind)) (cells : List (Str × Addr)) (acc : List (Str × Addr)) : List (Str × Addr) :=
  match names with
  | [] => acc
  | (n, k) :: r => clList r cells (if k == .free then (match cells.lookup n with | some c => (n, c) :: acc | none => acc) else acc)

theorem closure_go {env : Env} (f : Str × NameKind → List (Str × Addr) → Sem (ForInStep (List (Str × Addr))))
    (hf : ∀ n k cs, f (n, k) cs = if k == .free then (do let c ← cellOf env n; pure (.yield ((n, c) :: cs))) else pure (.yield cs)) :
    ∀ (names : List (Str × NameKind)) (acc : List (Str × Addr)), (∀ y ∈ names, y.2 = .free → (env.cells.lookup y.1).isSome = true) → forIn names acc f = pure (clList names env.cells acc)
  | [], acc, _ => rfl
  | (n, k) :: r, acc, h => by
    rw [List.forIn_cons, hf]
    unfold clList
    by_cases hk : (k == NameKind.free) = true
    · obtain ⟨c, hc⟩ := Option.isSome_iff_exists.mp (h (n, k) (.head _) (by simpa using hk))
      have hc' : cellOf env n = pure c := by unfold cellOf; rw [show env.cells.lookup n = some c from hc]
      rw [if_pos hk, if_pos hk, hc', show env.cells.lookup n = some c from hc]
      simp only [pure_bind]
      exact closure_go f hf r _ fun y hy => h y (.tail _ hy)
    · rw [if_neg hk, if_neg hk]
      simp only [pure_bind]
      exact closure_go f hf r _ fun y hy => h y (.tail _ hy)
theorem closure_eq {scope : Scope} {env : Env} (h : ∀ y ∈ scope.names, y.2 = .free → (env.cells.lookup y.1).isSome = true) : closureFor scope env = pure (clList scope.names env.cells []) := by
  unfold closureFor
  have := closure_go (env := env) (fun x cs => if x.2 == .free then (do let c ← cellOf env x.1; pure (.yield ((x.1, c) :: cs))) else pure (.yield cs)) (fun _ _ _ => rfl) scope.names [] h
  simp only [bind_pure]
  exact this

end Mine

namespace Mine
open PySem PySem.Calls PyProof.Rows PySem.SeqAt

theorem compO_drop {α β : Type} {c : α → Option Bool} {f : α → Option β} {as : List α} {i : Nat} {a : α} (h : as[i]? = some a) : compO c f (as.drop i) = (c a).bind fun p => if p = true then (f a).bind fun b => (compO c f (as.drop (i + 1))).map fun bs => b :: bs else compO c f (as.drop (i + 1)) := by
  obtain ⟨hi, rfl⟩ := List.getElem?_eq_some_iff.mp h
  rw [List.drop_eq_getElem_cons hi, compO]

/-- tuples stay where only what is no tuple was changed -/
theorem tup_keep {H h' : Heap} (bad : List Addr) (hk : ∀ b o, b ∉ bad → H.get? b = some o → h'.get? b = some o) (hb : ∀ b ∈ bad, ∀ o, H.get? b = some o → o.cls ≠ .type "tuple" ∨ ∀ xs n, o.data ≠ .seq xs n) :
    ∀ a items, H.IsTuple a items → h'.IsTuple a items := by
  rintro a items ⟨o, ho, hc, n, hd⟩
  refine ⟨o, hk a o (fun q => ?_) ho, hc, n, hd⟩
  rcases hb a q o ho with e | e
  · exact e hc
  · exact e _ _ hd

theorem compO_len {α β : Type} {c : α → Option Bool} {f : α → Option β} : ∀ {as : List α} {bs : List β}, compO c f as = some bs → bs.length ≤ as.length
  | [], bs, h => by simp only [compO, Option.some.injEq] at h; subst h; simp
  | a :: as, bs, h => by
    replace h := ob h
    obtain ⟨p, _, h⟩ := h
    cases p with
    | true =>
      rw [if_pos rfl] at h
      replace h := ob h
      obtain ⟨b, _, h⟩ := h
      obtain ⟨bs', hbs, rfl⟩ := om h
      have := compO_len hbs
      simp only [List.length_cons]; omega
    | false =>
      have := compO_len h
      simp only [List.length_cons]; omega

theorem bad0 {H : Heap} {I : Addr} (hI : ∃ o, H.get? I = some o ∧ ∃ fs, o.data = .fields fs) : ∀ b ∈ [I], ∀ o, H.get? b = some o → o.cls ≠ .type "tuple" ∨ ∀ xs n, o.data ≠ .seq xs n := by
  intro b hb o ho
  rw [List.mem_singleton.mp hb] at ho
  obtain ⟨o', ho', fs, hd⟩ := hI
  rw [ho] at ho'; cases ho'
  exact .inr fun xs n q => by rw [hd] at q; cases q
theorem bad1 {H : Heap} {D : Addr} {xs : Array Value} (hD : H.PlainList D xs) : ∀ b ∈ [D], ∀ o, H.get? b = some o → o.cls ≠ .type "tuple" ∨ ∀ xs n, o.data ≠ .seq xs n := by
  intro b hb o ho
  rw [List.mem_singleton.mp hb] at ho
  obtain ⟨n, hD⟩ := hD
  rw [ho] at hD; cases hD
  exact .inl (by simp)
theorem badNs {H : Heap} {C : Addr} {m : Str → Option Value} (hC : H.Ns C m) : ∀ o, H.get? C = some o → o.cls ≠ .type "tuple" ∨ ∀ xs n, o.data ≠ .seq xs n := by
  intro o ho
  obtain ⟨o', es, ep, ho', hd, _⟩ := hC
  rw [ho] at ho'; cases ho'
  exact .inr fun xs n q => by rw [hd] at q; cases q
theorem bad2 {H : Heap} {C I : Addr} {m : Str → Option Value} (hC : H.Ns C m) (hI : ∃ o, H.get? I = some o ∧ ∃ fs, o.data = .fields fs) : ∀ b ∈ [C, I], ∀ o, H.get? b = some o → o.cls ≠ .type "tuple" ∨ ∀ xs n, o.data ≠ .seq xs n := by
  intro b hb o ho
  rcases List.mem_cons.mp hb with rfl | hb
  · exact badNs hC o ho
  · exact bad0 hI b hb o ho

section
variable {prog : Program} {w : World} {A : Around} {E : Value → Shared → Prop} {env : Env}

/-- the loop of a comprehension -/
theorem compLoop_ok {elt iter : Expr} {x : Str} {px : Pos} {ifs : List Expr} {scope : Scope} {pos : Pos} {I D : Addr} {fp : List Addr} {ds res : List Mine.D} {h₁ : Heap} {c : Mine.D → Option Bool} {f : Mine.D → Option Mine.D}
    {cenv : Env} {m : Str → Option Value} {s : Shared} {R : Result → Shared → Prop} {P : Nat → Value → Prop} {St : Nat → Heap → Prop}
    (W : Walks prog w A I fp [I] ds.length P St) (hst : St 0 s.heap) (hI : h₁.get? I = none) (hD1 : h₁.get? D = none) (hC1 : h₁.get? cenv.locals = none) (hk1 : ∀ b o, h₁.get? b = some o → s.heap.get? b = some o) (hP : ∀ i v, P i v → ∃ d, ds[i]? = some d ∧ V h₁ v d) (hSt : ∀ i h, St i h → ∃ o, h.get? I = some o ∧ ∃ fs, o.data = .fields fs)
    (hres : compO c f ds = some res) (hpure : Mine.D.pures res = true) (hdl : ds.length ≤ lim)
    (hx : cenv.kindOf x = some .local) (hp : (cenv.scope.kind == .class || (cenv.scope.kind == .module && cenv.locals != cenv.globals)) = false)
    (hDC : D ≠ cenv.locals) (hDf : D ∉ fp) (hCf : cenv.locals ∉ fp)
    (hacc : s.heap.PlainList D #[]) (hn : s.heap.Ns cenv.locals m)
    (htests : ∀ d v b s₂ m₂ E', V h₁ v d → s₂.heap.Ns cenv.locals m₂ → m₂ x = some v → (∀ b o, h₁.get? b = some o → s₂.heap.get? b = some o) → c d = some b →
      wpAny (model prog w) A (forIn ifs true fun c r => if r = true then do let ok ← isTrue c cenv (eval c cenv); pure (ForInStep.yield ok) else pure (ForInStep.yield r)) (fun ok s₃ => ok = b ∧ Keeps s₂ s₃) E' s₂)
    (helt : ∀ d v y s₂ m₂ E', V h₁ v d → s₂.heap.Ns cenv.locals m₂ → m₂ x = some v → (∀ b o, h₁.get? b = some o → s₂.heap.get? b = some o) → f d = some y → wpAny (model prog w) A (eval elt cenv) (Post s₂ y) E' s₂)
    (hR : ∀ h' tk m' ys, h'.Ns cenv.locals m' → h'.PlainList D (List.toArray ys) → Vs h' ys res → (∀ b o, b ≠ cenv.locals → b ≠ I → b ≠ D → s.heap.get? b = some o → h'.get? b = some o) → R (.ok .next) { s with heap := h', toks := tk }) :
    codeAny (model prog w) A (.compLoop (.ListComp elt [⟨.Name x px, iter, ifs, 0⟩] scope pos) 0 (.ref I) (.ref D) cenv) R s := by
  refine codeAny_compLoop_tests
    (fun k s' => ∃ h' tk m' ys acc rest i, s' = { s with heap := h', toks := tk } ∧ St i h' ∧ h'.PlainList D (List.toArray ys) ∧ h'.Ns cenv.locals m' ∧ Vs h' ys acc ∧ acc ++ rest = res ∧ compO c f (ds.drop i) = some rest ∧ i ≤ ds.length ∧ acc.length ≤ i ∧ k = ds.length + 1 - i ∧
      (∀ b o, b ≠ cenv.locals → b ≠ I → b ≠ D → s.heap.get? b = some o → h'.get? b = some o)) ?_ (ds.length + 1)
    ⟨s.heap, s.toks, m, [], [], res, 0, rfl, hst, hacc, hn, .nil, rfl, by simpa using hres, Nat.zero_le _, Nat.zero_le _, rfl, fun _ _ _ _ _ e => e⟩
  rintro k s' ⟨H, tk, m', ys, acc, rest, i, rfl, hst', hacc', hn', hvs, hcat, hrest, hi, hai, rfl, hk⟩
  have hpacc : Mine.D.pures acc = true := by
    rw [← hcat] at hpure
    simp only [Mine.D.pures, List.all_append, Bool.and_eq_true] at hpure
    exact hpure.1
  have hIfp : cenv.locals ≠ I := fun h => hCf (W.sub _ (by simp [h]))
  have hDI : D ≠ I := fun h => hDf (W.sub _ (by simp [h]))
  have kH : ∀ b o, h₁.get? b = some o → H.get? b = some o := fun b o e => hk b o (fun q => by rw [q, hC1] at e; cases e) (fun q => by rw [q, hI] at e; cases e) (fun q => by rw [q, hD1] at e; cases e) (hk1 b o e)
  by_cases hlt : i < ds.length
  · refine W.item i _ _ _ hlt hst' fun v h₂ tk₂ hPv hst₂ hk₂ => ?_
    have hk₂' : ∀ b o, b ≠ I → H.get? b = some o → h₂.get? b = some o := fun b o hb e => hk₂ b o (by simpa using hb) e
    obtain ⟨d, hd, hVd⟩ := hP i v hPv
    rw [compO_drop hd] at hrest
    refine wpAny_assign_Name (wpAny_storeName_local hx (hn'.at' fun o e => hk₂' _ o hIfp e) (fun h₃ hn₃ hs₃ => ?_) hp)
    have up : ∀ b o, b ≠ cenv.locals → b ≠ I → H.get? b = some o → h₃.get? b = some o := fun b o hb hbI e => hs₃.extBut b o hb (hk₂' b o hbI e)
    have k1 : ∀ b o, h₁.get? b = some o → h₃.get? b = some o := fun b o e => up b o (fun q => by rw [q, hC1] at e; cases e) (fun q => by rw [q, hI] at e; cases e) (kH b o e)
    have hst₃ : St (i + 1) h₃ := W.frame _ _ _ hst₂ fun b hb o e => hs₃.extBut b o (fun h => hCf (h ▸ hb)) e
    replace hrest := ob hrest
    obtain ⟨cb, hc, hrest⟩ := hrest
    · 
      refine wpAny_mono (htests d v cb _ _ _ hVd hn₃ (by simp) k1 hc) (fun ok s₄ h₄ => ?_) fun _ _ e => e
      obtain ⟨rfl, h₄, tk₄, rfl, hk₄⟩ := h₄
      have hacc₄ : h₄.PlainList D (List.toArray ys) := hacc'.at fun o e => hk₄ _ o (up D o hDC hDI e)
      have hn₄ := hn₃.keeps hk₄
      have hst₄ : St (i + 1) h₄ := W.frame _ _ _ hst₃ fun b _ o e => hk₄ b o e
      have kk : ∀ b o, b ≠ cenv.locals → b ≠ I → b ≠ D → s.heap.get? b = some o → h₄.get? b = some o := fun b o hb1 hb2 hb3 e => hk₄ b o (up b o hb1 hb2 (hk b o hb1 hb2 hb3 e))
      have tk4 : ∀ a items, H.IsTuple a items → h₄.IsTuple a items := tup_keep [cenv.locals, I] (fun b o hb e => by
        simp only [List.mem_cons, List.not_mem_nil, or_false, not_or] at hb
        exact hk₄ b o (up b o hb.1 hb.2 e)) (bad2 hn' (hSt _ _ hst'))
      have hvs₄ : Vs h₄ ys acc := hvs.pureKeep tk4 (hpacc)
      cases ok with
      | false =>
        simp only [Bool.false_eq_true, if_false]
        exact ⟨ds.length + 1 - (i + 1), by omega, h₄, tk₄, _, ys, acc, rest, i + 1, rfl, hst₄, hacc₄, hn₄, hvs₄, hcat, hrest, hlt, by omega, rfl, kk⟩
      | true =>
        simp only [if_true]
        rw [if_pos rfl] at hrest
        replace hrest := ob hrest
        obtain ⟨y, hy, hrest⟩ := hrest
        obtain ⟨bs, hbs, rfl⟩ := om hrest
        · 
          refine wpAny_mono (helt d v y _ _ _ hVd hn₄ (by simp) (fun b o e => hk₄ b o (k1 b o e)) hy) (fun yv s₅ h₅ => ?_) fun _ _ e => e
          obtain ⟨⟨h₅, tk₅, rfl, hk₅⟩, hVy⟩ := h₅
          have hlys := hvs.length
          have hacc₅ := hacc₄.at fun o e => hk₅ _ o e
          refine wpAny_list_append_plain (hsz := by simp only [List.size_toArray]; have := lim_line; omega) hacc₅ fun h₆ hl₆ hs₆ => ?_
          have tk6 : ∀ a items, h₅.IsTuple a items → h₆.IsTuple a items := tup_keep [D] (fun b o hb e => by
            simp only [List.mem_cons, List.not_mem_nil, or_false] at hb
            exact hs₆.extBut b o hb e) (bad1 hacc₅)
          have hpy : y.pure = true ∧ Mine.D.pures acc = true := by
            rw [← hcat] at hpure
            simp only [Mine.D.pures, List.all_append, List.all_cons, Bool.and_eq_true] at hpure
            exact ⟨hpure.2.1, hpure.1⟩
          refine ⟨ds.length + 1 - (i + 1), by omega, h₆, tk₅, _, ys ++ [yv], acc ++ [y], bs, i + 1, rfl, ?_, by simpa using hl₆, (hn₄.keeps hk₅).sameBut hs₆ (Ne.symm hDC), ?_, by simpa using hcat, hbs, hlt, by simp only [List.length_append, List.length_singleton]; omega, rfl, fun b o hb1 hb2 hb3 e => hs₆.extBut b o hb3 (hk₅ b o (kk b o hb1 hb2 hb3 e))⟩
          · exact W.frame _ _ _ hst₄ fun b hb o e => hs₆.extBut b o (fun h => hDf (h ▸ hb)) (hk₅ b o e)
          · exact ((hvs₄.mono hk₅).pureKeep tk6 hpy.2).append (.one (hVy.pureKeep tk6 hpy.1))
  · have hin : i = ds.length := by omega
    subst hin
    rw [List.drop_length] at hrest
    simp only [compO, Option.some.injEq] at hrest
    subst hrest
    rw [List.append_nil] at hcat
    subst hcat
    refine W.done _ _ _ hst' fun h₂ tk₂ hk₂ => ?_
    have hk₂' : ∀ b o, b ≠ I → H.get? b = some o → h₂.get? b = some o := fun b o hb e => hk₂ b o (by simpa using hb) e
    have tk2 : ∀ a items, H.IsTuple a items → h₂.IsTuple a items := tup_keep [I] (fun b o hb e => by
      simp only [List.mem_cons, List.not_mem_nil, or_false] at hb
      exact hk₂' b o hb e) (bad0 (hSt _ _ hst'))
    exact hR h₂ tk₂ m' ys (hn'.at' fun o e => hk₂' _ o hIfp e) (hacc'.at fun o e => hk₂' _ o hDI e) (hvs.pureKeep tk2 hpure) fun b o hb1 hb2 hb3 e => hk₂' b o hb2 (hk b o hb1 hb2 hb3 e)
end
end Mine

namespace Mine
open PySem PySem.Calls PyProof.Rows PySem.SeqAt

theorem clList_lookup {cells : List (Str × Addr)} {x : Str} {c : Addr} (hc : cells.lookup x = some c) : ∀ (names : List (Str × NameKind)) (acc : List (Str × Addr)), ((x, NameKind.free) ∈ names ∨ acc.lookup x = some c) → (∀ c', (x, c') ∈ acc → c' = c) → (clList names cells acc).lookup x = some c
  | [], acc, h, _ => by
    rcases h with h | h
    · cases h
    · exact h
  | (n, k) :: r, acc, h, ha => by
    unfold clList
    by_cases hk : (k == NameKind.free) = true
    · rw [if_pos hk]
      cases hn : cells.lookup n with
      | none =>
        refine clList_lookup hc r acc ?_ ha
        rcases h with h | h
        · rcases List.mem_cons.mp h with e | h
          · cases e; rw [hn] at hc; cases hc
          · exact .inl h
        · exact .inr h
      | some c' =>
        refine clList_lookup hc r _ ?_ ?_
        · by_cases hx : x = n
          · subst hx
            rw [hn] at hc; cases hc
            exact .inr (by simp)
          · rcases h with h | h
            · rcases List.mem_cons.mp h with e | h
              · cases e; exact absurd rfl hx
              · exact .inl h
            · exact .inr (by rw [List.lookup_cons, beq_eq_false_iff_ne.mpr hx]; exact h)
        · intro c'' hm
          rcases List.mem_cons.mp hm with e | hm
          · cases e
            rw [hn] at hc; cases hc; rfl
          · exact ha _ hm
    · rw [if_neg hk]
      refine clList_lookup hc r acc ?_ ha
      rcases h with h | h
      · rcases List.mem_cons.mp h with e | h
        · cases e; exact absurd rfl hk
        · exact .inl h
      · exact .inr h

theorem relabelN_eq (names kd : List (Str × NameKind)) {scope : Scope} {env : Env} (h1 : env.scope.names = kd) (h2 : env.scope.kind = .function) (h3 : scope.names = names) : (relabel scope env).names = relabelN names kd := by
  subst h3
  unfold relabel relabelN
  simp only
  refine List.map_congr_left fun y _ => ?_
  have : env.kindOf y.1 = kd.lookup y.1 := by show env.scope.names.lookup y.1 = _; rw [h1]
  rw [h2, this]
  simp

theorem relabelN_local {kd : List (Str × NameKind)} {x : Str} : ∀ {names : List (Str × NameKind)}, names.lookup x = some .local → (relabelN names kd).lookup x = some .local
  | [], h => by simp at h
  | (n, k) :: r, h => by
    unfold relabelN
    rw [List.map_cons]
    by_cases hx : x = n
    · subst hx
      rw [List.lookup_cons, beq_self_eq_true] at h
      cases h
      simp
    · rw [List.lookup_cons, beq_eq_false_iff_ne.mpr hx] at h
      have := relabelN_local (kd := kd) h
      unfold relabelN at this
      split <;> rw [List.lookup_cons, beq_eq_false_iff_ne.mpr hx] <;> exact this
theorem relabelN_free {kd : List (Str × NameKind)} {x : Str} (hk : kd.lookup x = some .cell) : ∀ {names : List (Str × NameKind)}, names.lookup x = some .free → (relabelN names kd).lookup x = some .cell
  | [], h => by simp at h
  | (n, k) :: r, h => by
    unfold relabelN
    rw [List.map_cons]
    by_cases hx : x = n
    · subst hx
      rw [List.lookup_cons, beq_self_eq_true] at h
      cases h
      simp [hk]
    · rw [List.lookup_cons, beq_eq_false_iff_ne.mpr hx] at h
      have := relabelN_free hk h
      unfold relabelN at this
      split <;> rw [List.lookup_cons, beq_eq_false_iff_ne.mpr hx] <;> exact this
theorem relabelN_back {kd : List (Str × NameKind)} {x : Str} {q : NameKind} : ∀ {names : List (Str × NameKind)}, (relabelN names kd).lookup x = some q → ∃ k, names.lookup x = some k ∧ (x, k) ∈ names ∧ (q = k ∨ (k = .free ∧ q = .cell))
  | [], h => by simp [relabelN] at h
  | (n, k) :: r, h => by
    unfold relabelN at h
    rw [List.map_cons] at h
    by_cases hx : x = n
    · subst hx
      refine ⟨k, by simp, .head _, ?_⟩
      split at h
      · rename_i hc
        simp only [Bool.and_eq_true, beq_iff_eq] at hc
        rw [List.lookup_cons, beq_self_eq_true] at h
        cases h
        exact .inr ⟨hc.1, rfl⟩
      · rw [List.lookup_cons, beq_self_eq_true] at h
        cases h
        exact .inl rfl
    · have h' : (relabelN r kd).lookup x = some q := by
        unfold relabelN
        split at h <;> rw [List.lookup_cons, beq_eq_false_iff_ne.mpr hx] at h <;> exact h
      obtain ⟨k', e1, e2, e3⟩ := relabelN_back h'
      exact ⟨k', by rw [List.lookup_cons, beq_eq_false_iff_ne.mpr hx]; exact e1, .tail _ e2, e3⟩

structure CompOk (sc : Sc) (scope : Scope) (x : Str) : Prop where
  kind : scope.kind = .function
  loc : scope.names.lookup x = some .local
  each : ∀ y ∈ scope.names, (y.2 = .local ∧ scope.names.lookup y.1 = some .local) ∨ (y.2 = .free ∧ sc.kd.lookup y.1 = some .cell ∧ y.1 ≠ x ∧ scope.names.lookup y.1 = some .free) ∨ y.2 = .globalImplicit
  lt : ∀ p ∈ sc.ix, p.2 < sc.n
theorem compOk_of {sc : Sc} {scope : Scope} {x : Str} (h : compOk sc scope x = true) : CompOk sc scope x := by
  simp only [compOk, Bool.and_eq_true, List.all_eq_true, Bool.or_eq_true, beq_iff_eq, bne_iff_ne, decide_eq_true_eq] at h
  obtain ⟨⟨⟨a, b⟩, c⟩, d⟩ := h
  refine ⟨a, b, fun y hy => ?_, d⟩
  rcases c y hy with (q | q) | q
  · exact .inl q
  · exact .inr (.inl ⟨q.1.1.1, q.1.1.2, q.1.2, q.2⟩)
  · exact .inr (.inr q)

theorem rho_app_get {ρ : Rho} {lo : Option Lo} {i : Nat} (h : i < ρ.length) : Rho.get (ρ ++ [lo]) i = Rho.get ρ i := by
  simp [Rho.get, List.getElem?_append_left h]
theorem rho_app_last {ρ : Rho} {lo : Option Lo} : Rho.get (ρ ++ [lo]) ρ.length = lo := by
  simp [Rho.get]

/-- the context within a comprehension -/
theorem Cx.comp {prog : Program} {w : World} {base : Heap} {k : Nat} {sc : Sc} {env : Env} {ρ : Rho} {A : Around} {h h₃ : Heap} {scope : Scope} {x : Str} {C : Addr} {m : Str → Option Value} {v : Value} {d : D} (c : Cx prog w base k sc env ρ A h) (o : CompOk sc scope x)
    (hk : ∀ b o, h.get? b = some o → h₃.get? b = some o) (hn : h₃.Ns C m) (hx : m x = some v) (hv : V h₃ v d) :
    Cx prog w base k (compSc sc scope.names x) (compEnvC scope (clList scope.names env.cells []) C env) (ρ ++ [some (.dat d)]) A h₃ := by
  have hnames := relabelN_eq scope.names sc.kd (scope := scope) (env := env) c.names c.kind rfl
  have hkx : (relabelN scope.names sc.kd).lookup x = some .local := relabelN_local o.loc
  have cell : ∀ y, (relabelN scope.names sc.kd).lookup y = some .cell → sc.kd.lookup y = some .cell ∧ (y, NameKind.free) ∈ scope.names ∧ y ≠ x := by
    intro y hy
    obtain ⟨q, e1, e2, e3⟩ := relabelN_back hy
    rcases e3 with e3 | ⟨rfl, _⟩
    · subst e3
      rcases o.each _ e2 with ⟨q, _⟩ | ⟨q, _⟩ | q <;> cases q
    · rcases o.each _ e2 with ⟨q, _⟩ | ⟨_, q, q2, _⟩ | q
      · cases q
      · exact ⟨q, e2, q2⟩
      · cases q
  refine ⟨hnames, o.kind, c.glob, c.blt, fun y hy => ?_, by simp [compSc, c.len], fun y i lo h1 h2 h3 => ?_, c.ok.mono hk⟩
  · obtain ⟨q1, q2, _⟩ := cell y hy
    obtain ⟨a, ha⟩ := Option.isSome_iff_exists.mp (c.cells y q1)
    show ((clList scope.names env.cells []).lookup y).isSome = true
    rw [clList_lookup ha scope.names [] (.inl q2) (fun _ hm => nomatch hm)]; rfl
  · by_cases hyx : y = x
    · subst hyx
      simp only [compSc, List.lookup_cons, beq_self_eq_true, Option.some.injEq] at h2
      subst h2
      rw [← c.len, rho_app_last] at h3
      cases h3
      exact ⟨v, .loc m ((congrArg (List.lookup y) hnames).trans hkx) hn hx, hv⟩
    · simp only [compSc, List.lookup_cons, beq_eq_false_iff_ne.mpr hyx] at h2
      have h1' : isVarK ((relabelN scope.names sc.kd).lookup y) = true := h1
      have hm := PySem.mem_of_lookup h2
      obtain ⟨⟨y', k'⟩, hm1, hm2⟩ := List.mem_filterMap.mp hm
      split at hm2
      · rename_i hfr
        simp only [Option.map_eq_some_iff, Prod.mk.injEq] at hm2
        obtain ⟨i', hi, rfl, rfl⟩ := hm2
        have hkf : k' = .free := by simpa using hfr
        subst hkf
        rcases o.each _ hm1 with ⟨q, _⟩ | ⟨_, q, _, q4⟩ | q
        · cases q
        · have hlt := o.lt _ (PySem.mem_of_lookup hi)
          rw [rho_app_get (by rw [c.len]; exact hlt)] at h3
          obtain ⟨v', a', w'⟩ := c.binds y' i' lo (by show isVarK (sc.kd.lookup y') = true; rw [show sc.kd.lookup y' = some .cell from q]; rfl) hi h3
          refine ⟨v', ?_, w'.keeps hk⟩
          cases a' with
          | loc m' e1 e2 e3 =>
            rw [c.kindOf, show sc.kd.lookup y' = some .cell from q] at e1; cases e1
          | cell c' e1 e2 e3 =>
            refine .cell c' ((congrArg (List.lookup y') hnames).trans (relabelN_free q q4)) ?_ (e3.keeps hk)
            exact clList_lookup e2 scope.names [] (.inl hm1) (fun _ hm => nomatch hm)
        · cases q
      · cases hm2

section
variable {prog : Program} {w : World} {base : Heap} {Φ : Fns} {k : Nat} {A : Around} {E : Value → Shared → Prop} {env : Env} {sc : Sc} {ρ : Rho}

/-- the loop of a comprehension may begin -/
structure CompAt (prog : Program) (w : World) (A : Around) (s s₁ s₃ : Shared) (I Dd C : Addr) (fp : List Addr) (ds : List D) (P : Nat → Value → Prop) (St : Nat → Heap → Prop) (m : Str → Option Value) : Prop where
  keep : Keeps s s₁
  same : ∃ h t, s₃ = { s₁ with heap := h, toks := t }
  W : Walks prog w A I fp [I] ds.length P St
  st : St 0 s₃.heap
  nI : s₁.heap.get? I = none
  nD : s₁.heap.get? Dd = none
  nC : s₁.heap.get? C = none
  up : ∀ b o, s₁.heap.get? b = some o → s₃.heap.get? b = some o
  hP : ∀ i v, P i v → ∃ d, ds[i]? = some d ∧ V s₁.heap v d
  hSt : ∀ i h, St i h → ∃ o, h.get? I = some o ∧ ∃ fs, o.data = .fields fs
  len : ds.length ≤ lim
  dc : Dd ≠ C
  df : Dd ∉ fp
  cf : C ∉ fp
  acc : s₃.heap.PlainList Dd #[]
  ns : s₃.heap.Ns C m

theorem comp_start {elt iter : Expr} {x : Str} {px : Pos} {ifs : List Expr} {scope : Scope} {pos pos' : Pos} {s : Shared} {use : Option (Value → Sem Unit)} {Q : Value → Shared → Prop} {ds : List D}
    (c : Cx prog w base k sc env ρ A s.heap) (o : CompOk sc scope x) (hs : ∀ x, foldedSetIterable iter env x = pure x) {Src : Value → Shared → List Addr → Prop}
    (hit : wpAny (model prog w) A (eval iter env) (fun xv s₁ => wpAny (model prog w) A (pyIter xv) (fun itv s₂ => ds.length ≤ lim ∧ ∃ I fp, itv = .ref I ∧ Keeps s s₁ ∧ Keeps s₁ s₂ ∧ Wk prog w A s₁.heap s₂ I fp ds ∧ Src xv s₁ fp) E s₁) E s)
    (hloop : ∀ xv s₁ s₃ I Dd C fp P St m, CompAt prog w A s s₁ s₃ I Dd C fp ds P St m → Src xv s₁ fp →
      codeAny (model prog w) A (.compLoop (.ListComp elt [⟨.Name x px, iter, ifs, 0⟩] scope pos) 0 (.ref I) (.ref Dd) (compEnvC scope (clList scope.names env.cells []) C env)) (compPost (model prog w) A E use Q (.ref Dd) C) s₃) :
    wpAny (model prog w) A (comprehension (.ListComp elt [⟨.Name x px, iter, ifs, 0⟩] scope pos) scope env pos' (newList []) false (eval iter env) use) Q E s := by
  have hfree : ∀ y ∈ scope.names, y.2 = .free → (env.cells.lookup y.1).isSome = true := by
    intro y hy hf
    rcases o.each y hy with ⟨q, _⟩ | ⟨_, q, _⟩ | q
    · rw [hf] at q; cases q
    · exact c.cells _ q
    · rw [hf] at q; cases q
  have hcell : ∀ y ∈ scope.names, y.2 ≠ .cell := by
    intro y hy e
    rcases o.each y hy with ⟨q, _⟩ | ⟨q, _⟩ | q <;> rw [e] at q <;> cases q
  have hnames : ∀ y ∈ scope.names, y.2 = .local → scope.names.lookup y.1 = some .local := by
    intro y hy e
    rcases o.each y hy with ⟨_, q⟩ | ⟨q, _⟩ | q
    · exact q
    · rw [e] at q; cases q
    · rw [e] at q; cases q
  refine wpAny_comprehension_free (use := use) rfl hs (closure_eq hfree) o.kind hnames (wpAny_mono hit (fun xv s₁ h₁ => wpAny_mono h₁ (fun itv s₂ h₂ => ?_) fun _ _ e => e) fun _ _ e => e)
  obtain ⟨hdl, I, fp, rfl, K1, K2, ⟨P, St, W, hst, hfp, hI, hk12, hP, hSt⟩, hS⟩ := h₂
  refine wpAny_newObj_type (wpAny_newFunctionEnv hcell (by intro y hy; simp at hy) (fun h₃ hns₃ hsb₃ => ?_) o.kind)
  dsimp only at hns₃ hsb₃ ⊢
  generalize hH2 : s₂.heap.push { cls := .type "list", dict := none, data := .seq ([] : List Value).toArray } = H2 at hns₃ hsb₃ ⊢
  have hC : H2.objs.size = s₂.heap.objs.size + 1 := by rw [← hH2, Heap.size_push]
  have hDC : s₂.heap.objs.size ≠ H2.objs.size := by rw [hC]; exact Nat.ne_of_lt (Nat.lt_succ_self _)
  have below : ∀ b, b < s₂.heap.objs.size → b ≠ H2.objs.size ∧ b ≠ s₂.heap.objs.size := fun b hb => ⟨by rw [hC]; exact Nat.ne_of_lt (Nat.lt_succ_of_lt hb), Nat.ne_of_lt hb⟩
  have hDf : s₂.heap.objs.size ∉ fp := fun hm => Nat.lt_irrefl _ (hfp _ hm)
  have hCf : H2.objs.size ∉ fp := fun hm => by have := hfp _ hm; rw [hC] at this; exact Nat.lt_irrefl _ (Nat.lt_of_succ_lt this)
  have old : ∀ b o, s₂.heap.get? b = some o → h₃.get? b = some o := fun b o e => hsb₃.extBut b o (below b (Heap.lt_size e)).1 (Heap.get?_push_of_some _ (hH2 ▸ Heap.get?_push_of_some _ e))
  have hacc : h₃.PlainList s₂.heap.objs.size #[] := ⟨_, hsb₃.extBut _ _ hDC (Heap.get?_push_of_some _ (hH2 ▸ Heap.get?_push_size _ rfl))⟩
  have hst₃ : St 0 h₃ := W.frame _ _ _ hst fun b _ o e => old b o e
  have fresh1 : ∀ a, s₂.heap.objs.size ≤ a → s₁.heap.get? a = none := fun a ha => by
    cases e : s₁.heap.get? a with
    | none => rfl
    | some o' => exact absurd (Heap.lt_size (hk12 _ _ e)) (Nat.not_lt.mpr ha)
  obtain ⟨a2, b2, e2, _⟩ := id K2
  have CA : CompAt prog w A s s₁ { s₂ with heap := h₃, toks := s₂.toks + ([] : List (Str × Value)).length } I s₂.heap.objs.size H2.objs.size fp ds P St _ :=
    ⟨K1, ⟨h₃, s₂.toks + ([] : List (Str × Value)).length, by rw [e2]⟩, W, hst₃, hI, fresh1 _ (Nat.le_refl _), fresh1 _ (by rw [hC]; exact Nat.le_succ _), fun b o e => old b o (hk12 b o e), hP, hSt, hdl, hDC, hDf, hCf, hacc, hns₃⟩
  have fin := hloop xv s₁ _ I _ _ fp P St _ CA hS
  exact codeAny_compStart_list fin (W.self 0 _ _ _ hst₃ fin)

/-- what a comprehension ends in -/
theorem comp_ok {elt iter : Expr} {x : Str} {px : Pos} {ifs : List Expr} {scope : Scope} {pos pos' : Pos} {s : Shared} {use : Option (Value → Sem Unit)} {Q : Value → Shared → Prop} {ds res : List D} {el cd : Mine.E}
    (c : Cx prog w base k sc env ρ A s.heap) (o : CompOk sc scope x) (hs : ∀ x, foldedSetIterable iter env x = pure x)
    (hit : wpAny (model prog w) A (eval iter env) (fun xv s₁ => wpAny (model prog w) A (pyIter xv) (fun itv s₂ => ds.length ≤ lim ∧ ∃ I fp, itv = .ref I ∧ Keeps s s₁ ∧ Keeps s₁ s₂ ∧ Wk prog w A s₁.heap s₂ I fp ds ∧ True) E s₁) E s)
    (hel : EvOK prog w base Φ k (compSc sc scope.names x) elt el)
    (hcd : (ifs = [] ∧ cd = .k (.bool true)) ∨ ∃ t, ifs = [t] ∧ TrOK prog w base Φ k (compSc sc scope.names x) t cd)
    (hres : compO (fun d => (ev Φ (ρ ++ [some (.dat d)]) cd).bind isTrueD) (fun d => ev Φ (ρ ++ [some (.dat d)]) el) ds = some res) (hpure : D.pures res = true)
    (hQ : ∀ Dd C s' m' ys, ds.length ≤ lim → Keeps s s' → s.heap.get? Dd = none → s.heap.get? C = none → Dd ≠ C → s'.heap.Ns C m' → s'.heap.PlainList Dd (List.toArray ys) → Vs s'.heap ys res → compPost (model prog w) A E use Q (.ref Dd) C (.ok .next) s') :
    wpAny (model prog w) A (comprehension (.ListComp elt [⟨.Name x px, iter, ifs, 0⟩] scope pos) scope env pos' (newList []) false (eval iter env) use) Q E s := by
  refine comp_start (Src := fun _ _ _ => True) c o hs hit fun xv s₁ s₃ I Dd C fp P St m X _ => ?_
  have k01 := keeps_heap X.keep
  have none0 : ∀ a, s₁.heap.get? a = none → s.heap.get? a = none := fun a ha => by
    cases e : s.heap.get? a with
    | none => rfl
    | some o' => rw [k01 _ _ e] at ha; cases ha
  refine compLoop_ok (cenv := compEnvC scope (clList scope.names env.cells []) C env) (h₁ := s₁.heap) X.W X.st X.nI X.nD X.nC X.up X.hP X.hSt hres hpure X.len
    (lookup_relabel_local o.loc) (by simp [compEnvC, relabel, o.kind]) X.dc X.df X.cf X.acc X.ns ?_ ?_ ?_
  · intro d v b s₄ m₄ E' hv hn hm hk hcb
    have c' := (c.mono k01).comp o hk hn hm (hv.mono hk)
    rcases hcd with ⟨rfl, rfl⟩ | ⟨t, rfl, ht⟩
    · have hcb : some true = some b := hcb
      cases hcb
      rw [List.forIn_nil]
      exact wpAny_pure ⟨rfl, keeps_refl _⟩
    · rw [List.forIn_cons]
      rw [if_pos rfl]
      refine wpAny_bind (wpAny_bind ?_)
      have hb' : ev Φ (ρ ++ [some (.dat d)]) cd = some (.bool b) := by
        obtain ⟨q, hq1, hq2⟩ := Option.bind_eq_some_iff.mp hcb
        rw [isTrueD_some hq2] at hq1; exact hq1
      refine wpAny_mono (ht _ _ _ _ _ E' c' hb') (fun r s₅ h₅ => ?_) fun _ _ e => e
      exact wpAny_pure (wpAny_pure h₅)
  · intro d v y s₄ m₄ E' hv hn hm hk hy
    have c' := (c.mono k01).comp o hk hn hm (hv.mono hk)
    exact hel _ _ _ _ _ E' c' hy
  · intro h' tk m' ys hn hl hvs hk
    obtain ⟨h3, t3, e3⟩ := X.same
    obtain ⟨a1, b1, e1, _⟩ := X.keep
    refine hQ _ _ _ m' ys X.len ⟨h', tk, by rw [e3, e1], fun b o' e => ?_⟩ (none0 _ X.nD) (none0 _ X.nC) X.dc hn hl hvs
    have q := k01 b o' e
    exact hk b o' (fun r => by have r : b = C := r; rw [r, X.nC] at q; cases q) (fun r => by rw [r, X.nI] at q; cases q) (fun r => by rw [r, X.nD] at q; cases q) (X.up b o' q)

end
end Mine

namespace Mine
open PySem PySem.Calls PyProof.Rows PySem.SeqAt

section
variable {prog : Program} {w : World} {base : Heap} {fns : List Str} {mg mb : Str → Option Value} {fa : Nat → Addr} {Φ : Fns} {k : Nat}

theorem sub_plain {e : Expr} {o i : Value} (h : ∀ a b c d, e ≠ .Slice a b c d) : subscripted e false o i = operate [o, i] (getItem o i) := by
  cases e <;> first | rfl | (exact absurd rfl (h _ _ _ _))

theorem getitem_look {s : Shared} {a : Value} {x : D} {ds : List D} (hv : V s.heap a x) (hi : items x = some ds) : ∃ T id, s.TypeIs a T ∧ typeLookup (.type T) "__getitem__" = pure (some (.builtin id)) := by
  cases hv <;> simp only [items, reduceCtorEq] at hi
  · rename_i hp _ _; exact ⟨"tuple", _, Heap.IsTuple.typeIs hp, slot_tuple_getitem.lookup⟩
  · rename_i hp _ _; exact ⟨"list", _, Heap.IsList.typeIs hp.isList, slot_list_getitem.lookup⟩

theorem evIdx_items {x y d : D} (h : evIdx x y = some d) : ∃ ds, items x = some ds := by
  obtain ⟨ds, h1, _⟩ := ob h; exact ⟨ds, h1⟩

theorem cE_star (n : Nat) (sc : Sc) (a : Expr) (b : Pos) : cE fns n sc (.Starred a b) = none := by cases n <;> rfl
theorem cE_slice (n : Nat) (sc : Sc) (a b c : Option Expr) (d : Pos) : cE fns n sc (.Slice a b c d) = none := by cases n <;> rfl

theorem opA_of {op : Operator} {o : Op} (h : cOp op = some o) : op = opA o := by
  cases op <;> simp only [cOp, reduceCtorEq, Option.some.injEq] at h <;> subst h <;> rfl
theorem cmA_of {op : CmpOp} {o : Cm} (h : cCm op = some o) : op = cmA o := by
  cases op <;> simp only [cCm, reduceCtorEq, Option.some.injEq] at h <;> subst h <;> rfl
theorem cmA_marks (o : Cm) (r : Expr) : behindInMarks (cmA o) r = false := by
  cases o <;> cases r <;> simp [behindInMarks, cmA] <;> (intros; first | rfl | decide)

theorem call1_builtin {sc : Sc} {env : Env} {ρ : Rho} {A : Around} {s : Shared} {E : Value → Shared → Prop} {name : Str} {id : String} {p pos : Pos} {a : Expr} {a' : Mine.E} {x d : D} {f : Expr → Option Mine.E}
    (G : Gl fns base mg mb fa) (J : Judged prog w base Φ k sc f) (c : Cx prog w base k sc env ρ A s.heap) (hg : glob sc name = true) (hx : name ∈ blNames) (hv : bootBuiltins name = some (.builtin id))
    (ha : f a = some a') (he : ev Φ ρ a' = some x) (h : ∀ v s', V s'.heap v x → wpAny (model prog w) A (call (.builtin id) [v]) (Post s' d) E s') :
    wpAny (model prog w) A (eval (.Call (.Name name p) [a] [] pos) env) (Post s d) E s := by
  refine Call_ (load_builtin G c hg hx hv (callWith_builtin1 ?_ (starEach_plain (J.plain ha) _ _)))
  refine args_cons ?_ (starEach_plain (J.plain ha) _ _)
  refine wpAny_mono ((J.1 a a' ha).1 env ρ A s x E c he) (fun v s₁ h₁ => args_nil ?_) fun _ _ x => x
  exact wpAny_mono (h v s₁ h₁.2) (fun r s₂ h₂ => ⟨keeps_trans h₁.1 h₂.1, h₂.2⟩) fun _ _ x => x
theorem call1_type {sc : Sc} {env : Env} {ρ : Rho} {A : Around} {s : Shared} {E : Value → Shared → Prop} {name : Str} {T : String} {p pos : Pos} {a : Expr} {a' : Mine.E} {x d : D} {f : Expr → Option Mine.E}
    (G : Gl fns base mg mb fa) (J : Judged prog w base Φ k sc f) (c : Cx prog w base k sc env ρ A s.heap) (hg : glob sc name = true) (hx : name ∈ blNames) (hv : bootBuiltins name = some (.type T))
    (ha : f a = some a') (he : ev Φ ρ a' = some x) (h : ∀ v s', V s'.heap v x → wpAny (model prog w) A (call (.type T) [v]) (Post s' d) E s') :
    wpAny (model prog w) A (eval (.Call (.Name name p) [a] [] pos) env) (Post s d) E s := by
  refine Call_ (load_builtin G c hg hx hv (callWith_type1 ?_ (starEach_plain (J.plain ha) _ _)))
  refine args_cons ?_ (starEach_plain (J.plain ha) _ _)
  refine wpAny_mono ((J.1 a a' ha).1 env ρ A s x E c he) (fun v s₁ h₁ => args_nil ?_) fun _ _ x => x
  exact wpAny_mono (h v s₁ h₁.2) (fun r s₂ h₂ => ⟨keeps_trans h₁.1 h₂.1, h₂.2⟩) fun _ _ x => x

theorem boot_len : bootBuiltins "len" = some (.builtin "len") := by decide +kernel
theorem boot_isinstance : bootBuiltins "isinstance" = some (.builtin "isinstance") := by decide +kernel
theorem boot_max : bootBuiltins "max" = some (.builtin "max") := by decide +kernel
theorem boot_int : bootBuiltins "int" = some (.type "int") := by decide +kernel
theorem boot_tuple : bootBuiltins "tuple" = some (.type "tuple") := by decide +kernel
theorem boot_list : bootBuiltins "list" = some (.type "list") := by decide +kernel
theorem boot_range : bootBuiltins "range" = some (.type "range") := by decide +kernel
theorem boot_bool : bootBuiltins "bool" = some (.type "bool") := by decide +kernel
theorem boot_str : bootBuiltins "str" = some (.type "str") := by decide +kernel

theorem cTy_of {t : Str} {y : Ty} (h : cTy t = some y) : t ∈ blNames ∧ bootBuiltins t = some (.type (tyA y)) := by
  unfold cTy at h
  split at h
  · rename_i e; cases h; rw [beq_iff_eq.mp e]; exact ⟨by decide +kernel, boot_tuple⟩
  · split at h
    · rename_i e; cases h; rw [beq_iff_eq.mp e]; exact ⟨by decide +kernel, boot_int⟩
    · split at h
      · rename_i e; cases h; rw [beq_iff_eq.mp e]; exact ⟨by decide +kernel, boot_bool⟩
      · split at h
        · rename_i e; cases h; rw [beq_iff_eq.mp e]; exact ⟨by decide +kernel, boot_str⟩
        · cases h

theorem b1_ok {sc : Sc} {f : Expr → Option Mine.E} (G : Gl fns base mg mb fa) (J : Judged prog w base Φ k sc f) {name : Str} {a : Expr} {e' : Mine.E} {p pos : Pos} (hg : glob sc name = true) (h : cB1 f name a = some e') :
    EvOK prog w base Φ k sc (.Call (.Name name p) [a] [] pos) e' := by
  intro env ρ A s d E c hv
  unfold cB1 at h
  by_cases n1 : (name == ("len" : Str)) = true
  · rw [if_pos n1] at h
    have := beq_iff_eq.mp n1; subst this
    obtain ⟨a', ha, rfl⟩ := om h
    replace hv := ob hv
    obtain ⟨x, hx, hv⟩ := hv
    obtain ⟨ds, hi, rfl⟩ := om hv
    exact call1_builtin G J c hg (by decide +kernel) boot_len ha hx fun v s' hV => len_ok hV hi
  rw [if_neg n1] at h
  by_cases n2 : (name == ("int" : Str)) = true
  · rw [if_pos n2] at h
    have := beq_iff_eq.mp n2; subst this
    obtain ⟨a', ha, rfl⟩ := om h
    replace hv := ob hv
    obtain ⟨x, hx, hv⟩ := hv
    obtain ⟨b, hb, rfl⟩ := om hv
    have := isTrueD_some hb; subst this
    refine call1_type G J c hg (by decide +kernel) boot_int ha hx fun v s' hV => ?_
    have := hV.bool_inv; subst this
    exact call_int_bool post_int
  rw [if_neg n2] at h
  replace h := oi' h
  obtain ⟨n3, h⟩ := h
  have := beq_iff_eq.mp n3; subst this
  replace h := om h
  obtain ⟨a', ha, rfl⟩ := h
  replace hv := ob hv
  obtain ⟨x, hx, hv⟩ := hv
  replace hv := om hv
  obtain ⟨ds, hi, rfl⟩ := hv
  exact call1_type G J c hg (by decide +kernel) boot_tuple ha hx fun v s' hV => toTup_ok hV hi

theorem isi_call {sc : Sc} {f : Expr → Option Mine.E} (G : Gl fns base mg mb fa) (J : Judged prog w base Φ k sc f) {a b : Expr} {e' : Mine.E} {p pos : Pos} (hg : glob sc "isinstance" = true) (h : cIsi f sc a b = some e') :
    EvOK prog w base Φ k sc (.Call (.Name "isinstance" p) [a, b] [] pos) e' := by
  intro env ρ A s d E c hv
  cases b <;> first | exact nns h | exact nnb h | skip
  rename_i t pt
  replace h := oi' h
  obtain ⟨hgt, h⟩ := h
  replace h := ob h
  obtain ⟨x, hx, h⟩ := h
  replace h := om h
  obtain ⟨y, hy, rfl⟩ := h
  replace hv := om hv
  obtain ⟨q, hq, rfl⟩ := hv
  obtain ⟨t1, t2⟩ := cTy_of hy
  refine Call_ (load_builtin G c hg (by decide +kernel) boot_isinstance (callWith_builtin1 ?_ (starEach_plain (J.plain hx) _ _) rfl))
  refine args_cons ?_ (starEach_plain (J.plain hx) _ _)
  refine wpAny_mono ((J.1 a x hx).1 env ρ A s q E c hq) (fun v s₁ h₁ => ?_) fun _ _ x => x
  have c1 := c.mono (keeps_heap h₁.1)
  refine args_cons (load_builtin G c1 hgt t1 t2 (args_nil ?_)) rfl
  exact wpAny_mono (isi_ok h₁.2) (fun r s₂ h₂ => ⟨keeps_trans h₁.1 h₂.1, h₂.2⟩) fun _ _ x => x

theorem b2_ok {sc : Sc} {f : Expr → Option Mine.E} (G : Gl fns base mg mb fa) (J : Judged prog w base Φ k sc f) {name : Str} {a b : Expr} {e' : Mine.E} {p pos : Pos} (hg : glob sc name = true) (h : cB2 f sc name a b = some e') :
    EvOK prog w base Φ k sc (.Call (.Name name p) [a, b] [] pos) e' := by
  unfold cB2 at h
  by_cases n1 : (name == ("isinstance" : Str)) = true
  · rw [if_pos n1] at h
    have := beq_iff_eq.mp n1; subst this
    exact isi_call G J hg h
  rw [if_neg n1] at h
  replace h := oi' h
  obtain ⟨n2, h⟩ := h
  have := beq_iff_eq.mp n2; subst this
  replace h := ob h
  obtain ⟨x, hx, h⟩ := h
  replace h := om h
  obtain ⟨y, hy, rfl⟩ := h
  intro env ρ A s d E c hv
  replace hv := ob hv
  obtain ⟨u, hu, hv⟩ := hv
  replace hv := ob hv
  obtain ⟨v', hv', hv⟩ := hv
  obtain ⟨i, j, rfl, rfl, hv⟩ := i2_some hv
  cases hv
  have e1 : starEach [b] env = [(false, eval b env)] := by rw [starEach_plain (J.plain hy)]; rfl
  refine Call_ (load_builtin G c hg (by decide +kernel) boot_max (callWith_builtin1 ?_ (starEach_plain (J.plain hx) _ _) (by rw [e1]; rfl)))
  refine args_cons ?_ (starEach_plain (J.plain hx) _ _)
  refine wpAny_mono ((J.1 a x hx).1 env ρ A s _ E c hu) (fun v s₁ h₁ => ?_) fun _ _ x => x
  have c1 := c.mono (keeps_heap h₁.1)
  refine args_cons ?_ (starEach_plain (J.plain hy) _ _)
  refine wpAny_mono ((J.1 b y hy).1 env ρ A s₁ _ E c1 hv') (fun u s₂ h₂ => args_nil ?_) fun _ _ x => x
  obtain ⟨t, rfl⟩ := h₁.2.int_inv; obtain ⟨t', rfl⟩ := h₂.2.int_inv
  exact wpAny_mono (max_ok c.ok.hand) (fun r s₃ h₃ => ⟨keeps_trans (keeps_trans h₁.1 h₂.1) h₃.1, h₃.2⟩) fun _ _ x => x

theorem call_ok {sc : Sc} {f : Expr → Option Mine.E} (G : Gl fns base mg mb fa) (hΦ : FnsOk prog w base Φ fa k) (J : Judged prog w base Φ k sc f) {name : Str} {args : List Expr} {e' : Mine.E} {p pos : Pos} (h : cCall f fns sc name args = some e') :
    EvOK prog w base Φ k sc (.Call (.Name name p) args [] pos) e' := by
  replace h := oi' h
  obtain ⟨hg, h⟩ := h
  cases hi : fns.idxOf? name with
  | none =>
    rw [hi] at h
    cases args with
    | nil => cases h
    | cons a r =>
      cases r with
      | nil => exact b1_ok G J hg h
      | cons b r' =>
        replace h := oi' h
        obtain ⟨q, h⟩ := h
        cases r' with
        | nil => exact b2_ok G J hg h
        | cons => cases q
  | some i =>
    rw [hi] at h
    cases args with
    | nil => cases h
    | cons a r =>
      obtain ⟨es, hes, rfl⟩ := om (show (cEs f (a :: r)).map (.call i) = some e' from h)
      intro env ρ A s d E c hv
      replace hv := ob hv
      obtain ⟨ds, hds, hv⟩ := hv
      replace hv := ob hv
      obtain ⟨o, ho, hv⟩ := hv
      have := okOf_some hv; subst this
      have hn := idxOf?_get hi
      obtain ⟨o, fd, h1, h2, h3⟩ := G.fn i name hn
      obtain ⟨a', ha, _⟩ := ob hes
      refine Call_ (load_fn G c hg hn (callWith_def h3 ?_ (starEach_plain (J.plain ha) _ _)))
      refine wpAny_mono (args_ok J (a :: r) es hes env ρ A s ds E pos c hds) (fun vs s₁ h₁ => ?_) fun _ _ x => x
      have c1 := c.mono (keeps_heap h₁.1)
      exact ⟨c1.ok.stays _ _ h2, wpAny_mono (hΦ i ds d A s₁ vs E ho c1.ok h₁.2) (fun r s₂ h₂ => ⟨keeps_trans h₁.1 h₂.1, h₂.2⟩) fun _ _ x => x⟩

/-- what a walk stands on -/
noncomputable def Src (Φ : Fns) (ρ : Rho) (it : It) (xv : Value) (h : Heap) (g : List Addr) : Prop :=
  ((∀ e', it ≠ .seq e') ∧ g = []) ∨ ∃ e' d ax, it = .seq e' ∧ ev Φ ρ e' = some d ∧ xv = .ref ax ∧ V h xv d ∧ g = [ax]

theorem items_len {h : Heap} {v : Value} {d : D} {ds : List D} (hv : V h v d) (hi : items d = some ds) : ds.length ≤ lim := by
  cases hv <;> cases hi <;> assumption

theorem rangeD_lim {a b : Int} (h1 : 0 ≤ a) (h2 : b ≤ lim) : (rangeD a b).length ≤ lim := by
  simp only [rangeD, List.length_map, List.length_range]; omega

abbrev ItPost (prog : Program) (w : World) (Φ : Fns) (ρ : Rho) (A : Around) (it : It) (ds : List D) (s : Shared) (xv : Value) (s₁ : Shared) : Value → Shared → Prop := fun itv s₂ =>
  ds.length ≤ lim ∧ ∃ I g, itv = .ref I ∧ Keeps s s₁ ∧ Keeps s₁ s₂ ∧ Wk prog w A s₁.heap s₂ I (I :: g) ds ∧ Src Φ ρ it xv s₁.heap g

theorem seq_ok {sc : Sc} {f : Expr → Option Mine.E} (J : Judged prog w base Φ k sc f) {iter : Expr} {e' : Mine.E} (he : f iter = some e') {env : Env} {ρ : Rho} {A : Around} {s : Shared} {ds : List D} {E : Value → Shared → Prop}
    (c : Cx prog w base k sc env ρ A s.heap) (hv : evIt Φ ρ (.seq e') = some ds) :
    wpAny (model prog w) A (eval iter env) (fun xv s₁ => wpAny (model prog w) A (pyIter xv) (ItPost prog w Φ ρ A (.seq e') ds s xv s₁) E s₁) E s := by
  simp only [evIt] at hv
  replace hv := ob hv
  obtain ⟨d, hd, hv⟩ := hv
  replace hv := ob hv
  obtain ⟨ds', hds, hv⟩ := hv
  replace hv := oi hv
  obtain ⟨_, rfl⟩ := hv
  refine wpAny_mono ((J.1 iter e' he).1 env ρ A s d E c hd) (fun xv s₁ h₁ => ?_) fun _ _ x => x
  refine wpAny_mono (iter_seq c.ok.hand h₁.2 hds) (fun itv s₂ h₂ => ?_) fun _ _ x => x
  obtain ⟨I, ax, e1, e2, e3, e4⟩ := h₂
  exact ⟨items_len h₁.2 hds, I, [ax], e1, h₁.1, e3, e4, .inr ⟨e', d, ax, rfl, hd, e2, h₁.2, rfl⟩⟩

theorem range_ok {sc : Sc} {f : Expr → Option Mine.E} (G : Gl fns base mg mb fa) (J : Judged prog w base Φ k sc f) {args : List Expr} {it : It} {p pos : Pos} (hg : glob sc "range" = true) (h : cRange f args = some it) {env : Env} {ρ : Rho} {A : Around} {s : Shared} {ds : List D} {E : Value → Shared → Prop}
    (c : Cx prog w base k sc env ρ A s.heap) (hv : evIt Φ ρ it = some ds) :
    wpAny (model prog w) A (eval (.Call (.Name "range" p) args [] pos) env) (fun xv s₁ => wpAny (model prog w) A (pyIter xv) (ItPost prog w Φ ρ A it ds s xv s₁) E s₁) E s := by
  cases args with
  | nil => cases h
  | cons a r =>
    cases r with
    | nil =>
      obtain ⟨a', ha, rfl⟩ := om (show (f a).map .range = some it from h)
      simp only [evIt] at hv
      replace hv := ob hv
      obtain ⟨x, hx, hv⟩ := hv
      replace hv := ob hv
      obtain ⟨n, hn, hv⟩ := hv
      have := intOf_some hn; subst this
      obtain ⟨hb, rfl⟩ := oi hv
      refine Call_ (load_builtin G c hg (by decide +kernel) boot_range (callWith_type1 ?_ (starEach_plain (J.plain ha) _ _)))
      refine args_cons ?_ (starEach_plain (J.plain ha) _ _)
      refine wpAny_mono ((J.1 a a' ha).1 env ρ A s _ E c hx) (fun v s₁ h₁ => args_nil ?_) fun _ _ x => x
      obtain ⟨k1, v1⟩ := h₁
      obtain ⟨t, rfl⟩ := v1.int_inv
      refine call_range_1 (wpAny_mono (iter_range c.ok.hand (IsRange.new _ _ _ _ _ _ _) ⟨by omega, by omega⟩ hb) (fun itv s₂ h₂ => ?_) fun _ _ x => x)
      obtain ⟨I, e1, e2, e3⟩ := h₂
      exact ⟨rangeD_lim (by omega) hb.2, I, [], e1, keeps_trans k1 (keeps_push _ _ _), e2, e3, .inl ⟨fun _ q => (by cases q), rfl⟩⟩
    | cons b r' =>
      obtain ⟨hr, h⟩ := oi' (show (if r'.isEmpty = true then (f a).bind fun x => (f b).map fun y => .range2 x y else none) = some it from h)
      cases r' with
      | cons => cases hr
      | nil =>
      replace h := ob h
      obtain ⟨x, hx, h⟩ := h
      replace h := om h
      obtain ⟨y, hy, rfl⟩ := h
      simp only [evIt] at hv
      replace hv := ob hv
      obtain ⟨u, hu, hv⟩ := hv
      replace hv := ob hv
      obtain ⟨u', hu', hv⟩ := hv
      obtain ⟨m, n, rfl, rfl, hv⟩ := i2_some hv
      replace hv := oi hv
      obtain ⟨hb, rfl⟩ := hv
      have e1 : starEach [b] env = [(false, eval b env)] := by rw [starEach_plain (J.plain hy)]; rfl
      refine Call_ (load_builtin G c hg (by decide +kernel) boot_range (callWith_type1 ?_ (starEach_plain (J.plain hx) _ _) (by rw [e1]; rfl)))
      refine args_cons ?_ (starEach_plain (J.plain hx) _ _)
      refine wpAny_mono ((J.1 a x hx).1 env ρ A s _ E c hu) (fun v s₁ h₁ => ?_) fun _ _ x => x
      have c1 := c.mono (keeps_heap h₁.1)
      refine args_cons ?_ (starEach_plain (J.plain hy) _ _)
      refine wpAny_mono ((J.1 b y hy).1 env ρ A s₁ _ E c1 hu') (fun u s₂ h₂ => args_nil ?_) fun _ _ x => x
      obtain ⟨k1, v1⟩ := h₁
      obtain ⟨k2, v2⟩ := h₂
      obtain ⟨t, rfl⟩ := v1.int_inv; obtain ⟨t', rfl⟩ := v2.int_inv
      refine call_range_2 (wpAny_mono (iter_range c.ok.hand (IsRange.new _ _ _ _ _ _ _) ⟨by omega, hb.2.1⟩ hb.2.2) (fun itv s₂ h₂ => ?_) fun _ _ x => x)
      obtain ⟨I, e1, e2, e3⟩ := h₂
      exact ⟨rangeD_lim hb.1 hb.2.2.2, I, [], e1, keeps_trans (keeps_trans k1 k2) (keeps_push _ _ _), e2, e3, .inl ⟨fun _ q => (by cases q), rfl⟩⟩

/-- an iterable -/
theorem it_ok {sc : Sc} {f : Expr → Option Mine.E} (G : Gl fns base mg mb fa) (J : Judged prog w base Φ k sc f) {iter : Expr} {it : It} (h : cIt f sc iter = some it) {env : Env} {ρ : Rho} {A : Around} {s : Shared} {ds : List D} {E : Value → Shared → Prop}
    (c : Cx prog w base k sc env ρ A s.heap) (hv : evIt Φ ρ it = some ds) :
    (∀ x, foldedSetIterable iter env x = pure x) ∧
    wpAny (model prog w) A (eval iter env) (fun xv s₁ => wpAny (model prog w) A (pyIter xv) (ItPost prog w Φ ρ A it ds s xv s₁) E s₁) E s := by
  have seq : (f iter).map .seq = some it → wpAny (model prog w) A (eval iter env) (fun xv s₁ => wpAny (model prog w) A (pyIter xv) (ItPost prog w Φ ρ A it ds s xv s₁) E s₁) E s := fun h => by
    obtain ⟨e', he, rfl⟩ := om h
    exact seq_ok J he c hv
  cases iter with
  | Call fn args kws pos =>
    refine ⟨fun _ => rfl, ?_⟩
    by_cases hr : nameIs "range" fn = true
    · obtain ⟨p, rfl⟩ := nameIs_some hr
      have h : (if nameIs "range" (.Name "range" p) = true then (if glob sc "range" = true ∧ kws.isEmpty = true then cRange f args else none) else (f (.Call (.Name "range" p) args kws pos)).map .seq) = some it := h
      rw [if_pos hr] at h
      obtain ⟨⟨hg, hk⟩, h2⟩ := oi' h
      cases kws with
      | cons => cases hk
      | nil => exact range_ok G J hg h2 c hv
    · have h : (if nameIs "range" fn = true then (if glob sc "range" = true ∧ kws.isEmpty = true then cRange f args else none) else (f (.Call fn args kws pos)).map .seq) = some it := h
      rw [if_neg hr] at h
      exact seq h
  | Name x p => exact ⟨fun _ => rfl, seq h⟩
  | Subscript => exact ⟨fun _ => rfl, seq h⟩
  | BinOp => exact ⟨fun _ => rfl, seq h⟩
  | List => exact ⟨fun _ => rfl, seq h⟩
  | _ => exact nns h
end
end Mine

namespace Mine
open PySem PySem.Calls PyProof.Rows PySem.SeqAt

section
variable {prog : Program} {w : World} {base : Heap} {fns : List Str} {mg mb : Str → Option Value} {fa : Nat → Addr} {Φ : Fns} {k : Nat}

theorem units8 {A : Around} {h : Heap} (o : Ok base k A h) : A.units + 8 < cLine := by have := o.units; omega

/-- what a chain of two gives -/
theorem chain_parts {ρ : Rho} {a b c : Mine.E} {o₁ o₂ : Cm} {d : D} (hv : ev Φ ρ (.chain o₁ o₂ a b c) = some d) : ∃ x y p, ev Φ ρ a = some x ∧ ev Φ ρ b = some y ∧ evCmp o₁ x y = some p ∧
    ((p = true ∧ ∃ z r, ev Φ ρ c = some z ∧ evCmp o₂ y z = some r ∧ d = .bool r) ∨ (p = false ∧ d = .bool false)) := by
  replace hv := ob hv
  obtain ⟨x, hx, hv⟩ := hv
  replace hv := ob hv
  obtain ⟨y, hy, hv⟩ := hv
  replace hv := ob hv
  obtain ⟨p, hp, hv⟩ := hv
  refine ⟨x, y, p, hx, hy, hp, ?_⟩
  cases p with
  | true =>
    rw [if_pos rfl] at hv
    replace hv := ob hv
    obtain ⟨z, hz, hv⟩ := hv
    obtain ⟨r, hr, rfl⟩ := om hv
    exact .inl ⟨rfl, z, r, hz, hr, rfl⟩
  | false => cases hv; exact .inr ⟨rfl, rfl⟩

theorem chain_eval {sc : Sc} {f : Expr → Option Mine.E} (J : Judged prog w base Φ k sc f) {l r₁ r₂ : Expr} {a b c : Mine.E} {o₁ o₂ : Cm} {pos : Pos} (hl : f l = some a) (h1 : f r₁ = some b) (h2 : f r₂ = some c) :
    EvOK prog w base Φ k sc (.Compare l [cmA o₁, cmA o₂] [r₁, r₂] pos) (.chain o₁ o₂ a b c) ∧ TrOK prog w base Φ k sc (.Compare l [cmA o₁, cmA o₂] [r₁, r₂] pos) (.chain o₁ o₂ a b c) := by
  have marks : lastMarks [cmA o₁, cmA o₂] [r₁, r₂] = false := cmA_marks o₂ r₂
  constructor
  · intro env ρ A s d E cx hv
    obtain ⟨x, y, p, hx, hy, hc, hrest⟩ := chain_parts hv
    refine Compare_chain (wpAny_mono ((J.1 l a hl).1 env ρ A s x E cx hx) (fun lv s₁ q₁ => ?_) fun _ _ x => x) marks
    have c1 := cx.mono (keeps_heap q₁.1)
    show wpAny _ _ (do
      let rv ← holding [lv] (eval r₁ env)
      standAt pos
      let c ← holding [lv, rv] (compareOp (cmA o₁) lv rv)
      release [lv, rv] [c]
      if ← holding [c, rv] (truthy c) then compareChain pos rv [cmA o₂] [eval r₂ env] else pure c) _ _ _
    refine wpAny_bind (wpAny_holding (wpAny_mono ((J.1 r₁ b h1).1 env ρ A s₁ y E c1 hy) (fun rv s₂ q₂ => wpAny_bind (wpAny_standAt (wpAny_bind (wpAny_holding ?_)))) fun _ _ x => x))
    have k12 := keeps_trans q₁.1 q₂.1
    have c2 := cx.mono (keeps_heap k12)
    refine wpAny_mono (cmp_ok (q₁.2.mono (keeps_heap q₂.1)) q₂.2 hc (units8 c2.ok)) (fun cv s₃ q₃ => wpAny_bind (wpAny_release (wpAny_bind (wpAny_holding ?_)))) fun _ _ x => x
    obtain ⟨rfl, k3⟩ := q₃
    refine wpAny_truthy_bool ?_
    have k13 := keeps_trans k12 k3
    rcases hrest with ⟨rfl, z, r, hz, hr, rfl⟩ | ⟨rfl, rfl⟩
    · rw [if_pos rfl]
      have c3 := cx.mono (keeps_heap k13)
      show wpAny _ _ (do
        let rv' ← holding [rv] (eval r₂ env)
        standAt pos
        operate [rv, rv'] (compareOp (cmA o₂) rv rv')) _ _ _
      refine wpAny_bind (wpAny_holding (wpAny_mono ((J.1 r₂ c h2).1 env ρ A s₃ z E c3 hz) (fun rv' s₄ q₄ => wpAny_bind (wpAny_standAt (wpAny_operate' ?_))) fun _ _ x => x))
      have k14 := keeps_trans k13 q₄.1
      refine wpAny_mono (cmp_ok (q₂.2.mono (keeps_heap (keeps_trans k3 q₄.1))) q₄.2 hr (units8 (cx.mono (keeps_heap k14)).ok)) (fun cv s₅ q₅ => ?_) fun _ _ x => x
      obtain ⟨rfl, k5⟩ := q₅
      exact ⟨keeps_trans k14 k5, .bool _⟩
    · exact wpAny_pure ⟨k13, .bool _⟩
  · intro env ρ A s t E cx hv
    obtain ⟨x, y, p, hx, hy, hc, hrest⟩ := chain_parts hv
    refine isTrue_chain (wpAny_mono ((J.1 l a hl).1 env ρ A s x E cx hx) (fun lv s₁ q₁ => ?_) fun _ _ x => x) marks
    have c1 := cx.mono (keeps_heap q₁.1)
    show wpAny _ _ (do
      let rv ← holding [lv] (eval r₁ env)
      standAt pos
      let c ← holding [lv, rv] (compareOp (cmA o₁) lv rv)
      release [lv, rv] [c]
      if ← holding [c, rv] (truthy c) then testChain pos rv [cmA o₂] [eval r₂ env] else pure false) _ _ _
    refine wpAny_bind (wpAny_holding (wpAny_mono ((J.1 r₁ b h1).1 env ρ A s₁ y E c1 hy) (fun rv s₂ q₂ => wpAny_bind (wpAny_standAt (wpAny_bind (wpAny_holding ?_)))) fun _ _ x => x))
    have k12 := keeps_trans q₁.1 q₂.1
    have c2 := cx.mono (keeps_heap k12)
    refine wpAny_mono (cmp_ok (q₁.2.mono (keeps_heap q₂.1)) q₂.2 hc (units8 c2.ok)) (fun cv s₃ q₃ => wpAny_bind (wpAny_release (wpAny_bind (wpAny_holding ?_)))) fun _ _ x => x
    obtain ⟨rfl, k3⟩ := q₃
    refine wpAny_truthy_bool ?_
    have k13 := keeps_trans k12 k3
    rcases hrest with ⟨rfl, z, r, hz, hr, he⟩ | ⟨rfl, he⟩
    · cases he
      rw [if_pos rfl]
      have c3 := cx.mono (keeps_heap k13)
      show wpAny _ _ (do
        let rv' ← holding [rv] (eval r₂ env)
        standAt pos
        let c ← operate [rv, rv'] (compareOp (cmA o₂) rv rv')
        holding [c] (truthy c)) _ _ _
      refine wpAny_bind (wpAny_holding (wpAny_mono ((J.1 r₂ c h2).1 env ρ A s₃ z E c3 hz) (fun rv' s₄ q₄ => wpAny_bind (wpAny_standAt (wpAny_bind (wpAny_operate' ?_)))) fun _ _ x => x))
      have k14 := keeps_trans k13 q₄.1
      refine wpAny_mono (cmp_ok (q₂.2.mono (keeps_heap (keeps_trans k3 q₄.1))) q₄.2 hr (units8 (cx.mono (keeps_heap k14)).ok)) (fun cv s₅ q₅ => wpAny_holding ?_) fun _ _ x => x
      obtain ⟨rfl, k5⟩ := q₅
      exact wpAny_truthy_bool ⟨rfl, keeps_trans k14 k5⟩
    · cases he
      exact wpAny_pure ⟨rfl, k13⟩

theorem cmp1_ok {sc : Sc} {f : Expr → Option Mine.E} (J : Judged prog w base Φ k sc f) {l r : Expr} {a b : Mine.E} {o : Cm} {pos : Pos} (ha : f l = some a) (hb : f r = some b) :
    EvOK prog w base Φ k sc (.Compare l [cmA o] [r] pos) (.cmp o a b) ∧ TrOK prog w base Φ k sc (.Compare l [cmA o] [r] pos) (.cmp o a b) := by
  constructor
  · intro env ρ A s d E c hv
    replace hv := ob hv
    obtain ⟨x, hx, hv⟩ := hv
    replace hv := ob hv
    obtain ⟨y, hy, hv⟩ := hv
    obtain ⟨t, ht, rfl⟩ := om hv
    refine wpAny_Compare1 (wpAny_mono ((J.1 l a ha).1 env ρ A s x E c hx) (fun lv s₁ q₁ => wpAny_mono ((J.1 r b hb).1 env ρ A s₁ y E (c.mono (keeps_heap q₁.1)) hy) (fun rv s₂ q₂ => ?_) fun _ _ x => x) fun _ _ x => x) (cmA_marks o r)
    have k2 := keeps_trans q₁.1 q₂.1
    refine wpAny_mono (cmp_ok (q₁.2.mono (keeps_heap q₂.1)) q₂.2 ht (units8 (c.mono (keeps_heap k2)).ok)) (fun v s₃ q₃ => ?_) fun _ _ x => x
    obtain ⟨rfl, k3⟩ := q₃
    exact ⟨keeps_trans k2 k3, .bool _⟩
  · intro env ρ A s t E c hv
    replace hv := ob hv
    obtain ⟨x, hx, hv⟩ := hv
    replace hv := ob hv
    obtain ⟨y, hy, hv⟩ := hv
    replace hv := om hv
    obtain ⟨t', ht, he⟩ := hv
    cases he
    refine wpAny_isTrue_Compare1 (wpAny_mono ((J.1 l a ha).1 env ρ A s x E c hx) (fun lv s₁ q₁ => wpAny_mono ((J.1 r b hb).1 env ρ A s₁ y E (c.mono (keeps_heap q₁.1)) hy) (fun rv s₂ q₂ => ?_) fun _ _ x => x) fun _ _ x => x) (cmA_marks o r)
    have k2 := keeps_trans q₁.1 q₂.1
    refine wpAny_mono (cmp_ok (q₁.2.mono (keeps_heap q₂.1)) q₂.2 ht (units8 (c.mono (keeps_heap k2)).ok)) (fun v s₃ q₃ => ?_) fun _ _ x => x
    obtain ⟨rfl, k3⟩ := q₃
    exact wpAny_truthy_bool ⟨rfl, keeps_trans k2 k3⟩

theorem sliced {s : Shared} {A : Around} {E : Value → Shared → Prop} {a : Value} {ds : List D} {vl vu : Value} {lo hi : Option Int} {value : Expr} {l u : Option Expr} {p : Pos} (h0 : V s.heap a (.tup ds)) (pl : IsPart vl lo) (pu : IsPart vu hi)
    (h1 : ∀ i, lo = some i → 0 ≤ i) (h2 : ∀ i, hi = some i → 0 ≤ i) :
    wpAny (model prog w) A (subscriptTail value (.Slice l u none p) a (.ref s.heap.objs.size)) (Post s (.tup (cut ds lo hi))) E { s with heap := s.heap.push { cls := .type "slice", data := .fields #[vl, vu, .none] } } := by
  have hk : Keeps s { s with heap := s.heap.push { cls := .type "slice", data := .fields #[vl, vu, .none] } } := keeps_push s _ s.toks
  have h0' := h0.mono (keeps_heap hk)
  obtain ⟨T, id, t1, t2⟩ := getitem_look h0' rfl
  refine tail_any t1 t2 (wpAny_mono (cut_ok h0' (Heap.IsSliceOf.new ..) pl pu h1 h2) (fun v s' q => ⟨keeps_trans hk q.1, q.2⟩) fun _ _ x => x) rfl

section
variable {sc : Sc} {f : Expr → Option Mine.E} (J : Judged prog w base Φ k sc f)

include J in
theorem unary_ok {op : UnaryOp} {x : Expr} {pos : Pos} {e' : Mine.E} (h : cUn op (f x) = some e') : EvOK prog w base Φ k sc (.UnaryOp op x pos) e' ∧ TrOK prog w base Φ k sc (.UnaryOp op x pos) e' := by
  cases op with
  | USub =>
    obtain ⟨a, ha, rfl⟩ := om (show (f x).map .neg = some e' from h)
    have : EvOK prog w base Φ k sc (.UnaryOp .USub x pos) (.neg a) := by
      intro env ρ A s d E c hv
      replace hv := ob hv
      obtain ⟨i, hi, hv⟩ := hv
      obtain ⟨j, hj, rfl⟩ := om hv
      have := intOf_some hj; subst this
      refine wpAny_UnaryOp (wpAny_mono ((J.1 x a ha).1 env ρ A s _ E c hi) (fun v s₁ q₁ => ?_) fun _ _ x => x)
      obtain ⟨k1, v1⟩ := q₁
      obtain ⟨t, rfl⟩ := v1.int_inv
      exact P.neg_int ⟨keeps_trans k1 (keeps_toks _ _), .int _ _⟩
    exact ⟨this, tr_plain this fun _ _ => rfl⟩
  | Not =>
    obtain ⟨a, ha, rfl⟩ := om (show (f x).map .not = some e' from h)
    constructor
    · intro env ρ A s d E c hv
      replace hv := ob hv
      obtain ⟨i, hi, hv⟩ := hv
      obtain ⟨b, hb, rfl⟩ := om hv
      have := isTrueD_some hb; subst this
      refine wpAny_UnaryOp (wpAny_mono ((J.1 x a ha).1 env ρ A s _ E c hi) (fun v s₁ q₁ => ?_) fun _ _ x => x)
      obtain ⟨k1, v1⟩ := q₁
      have := v1.bool_inv; subst this
      exact not_of (wpAny_truthy_bool ⟨k1, .bool _⟩)
    · intro env ρ A s b E c hv
      replace hv := ob hv
      obtain ⟨i, hi, hv⟩ := hv
      replace hv := om hv
      obtain ⟨b', hb, he⟩ := hv
      have := isTrueD_some hb; subst this
      cases he
      refine isTrue_not (wpAny_mono ((J.1 x a ha).2 env ρ A s _ E c hi) (fun v s₁ q₁ => ?_) fun _ _ x => x)
      obtain ⟨rfl, k1⟩ := q₁
      exact ⟨rfl, k1⟩
  | _ => exact nns h

include J in
theorem slice_ok {v : Expr} {lo hi : Option Expr} {p pos : Pos} {e' : Mine.E} (h : cSlice f v lo hi = some e') : EvOK prog w base Φ k sc (.Subscript v (.Slice lo hi none p) pos) e' := by
  replace h := oi' h
  obtain ⟨hh, h⟩ := h
  cases hi with
  | some => cases hh
  | none =>
  replace h := ob h
  obtain ⟨lo', hlo, h⟩ := h
  subst hlo
  replace h := ob h
  obtain ⟨a, ha, h⟩ := h
  replace h := om h
  obtain ⟨l', hl, rfl⟩ := h
  intro env ρ A s d E c hv
  replace hv := ob hv
  obtain ⟨x, hx, hv⟩ := hv
  replace hv := ob hv
  obtain ⟨y, hy, hv⟩ := hv
  replace hv := ob hv
  obtain ⟨ds, hds, hv⟩ := hv
  replace hv := ob hv
  obtain ⟨i, hi', hv⟩ := hv
  have := tupOf_some hds; subst this
  have := intOf_some hi'; subst this
  obtain ⟨hb, rfl⟩ := oi hv
  refine Subscript_ (wpAny_mono ((J.1 v a ha).1 env ρ A s _ E c hx) (fun o s₁ q₁ => wpAny_Slice ?_) fun _ _ x => x)
  rw [evalPart_some, evalPart_none]
  refine wpAny_mono ((J.1 _ l' hl).1 env ρ A s₁ _ E (c.mono (keeps_heap q₁.1)) hy) (fun lv s₂ q₂ => wpAny_pure (wpAny_pure ?_)) fun _ _ x => x
  obtain ⟨k1, v1⟩ := q₁; obtain ⟨k2, v2⟩ := q₂
  obtain ⟨t, rfl⟩ := v2.int_inv
  exact wpAny_mono (sliced (v1.mono (keeps_heap k2)) (.int i _) .none (fun _ e => by cases e; exact hb) (fun _ e => by cases e)) (fun r s₄ q₄ => ⟨keeps_trans (keeps_trans k1 k2) q₄.1, q₄.2⟩) fun _ _ x => x

theorem idxVar_some {sc : Sc} {x : Str} {i : Nat} (h : idxVar sc x = some i) : isVarK (sc.kd.lookup x) = true ∧ sc.ix.lookup x = some i := by
  replace h := oi' h
  obtain ⟨q, h⟩ := h
  exact ⟨(Bool.and_eq_true _ _ ▸ q).1, h⟩
theorem idxVar_dbg {sc : Sc} {x : Str} {i : Nat} (h : idxVar sc x = some i) : (x == ("__debug__" : Str)) = false := by
  replace h := oi' h
  obtain ⟨q, h⟩ := h
  have := (Bool.and_eq_true _ _ ▸ q).2
  exact Bool.not_eq_true' _ ▸ this
theorem Rho.dic?_some {ρ : Rho} {x : Nat} {kvs : List (Ky × D)} (h : ρ.dic? x = some kvs) : ρ.get x = some (.dic kvs) := by
  replace h := ob h
  obtain ⟨lo, h1, h2⟩ := h
  cases lo <;> cases h2
  exact h1
/-- a name that holds a dict -/
theorem load_dic {sc : Sc} {env : Env} {ρ : Rho} {A : Around} {s : Shared} {x : Str} {pos : Pos} {j : Nat} {kvs : List (Ky × D)} {Q : Value → Shared → Prop} {E : Value → Shared → Prop} (c : Cx prog w base k sc env ρ A s.heap) (hx : idxVar sc x = some j) (hd : ρ.dic? j = some kvs)
    (h : ∀ a, DicAt prog w s.heap a kvs → Q (.ref a) s) : wpAny (model prog w) A (eval (.Name x pos) env) Q E s := by
  obtain ⟨h1, h2⟩ := idxVar_some hx
  obtain ⟨v, ha, a, rfl, hD⟩ := c.binds x j _ h1 h2 (Rho.dic?_some hd)
  exact load_var (sc := sc) (ρ := ρ) c.kind ha (h a hD) (idxVar_dbg hx)

theorem in_marks (neg : Bool) (x : Str) (p : Pos) : behindInMarks (if neg = true then .NotIn else .In) (.Name x p) = false := by cases neg <;> rfl
include J in
theorem in_ok {l r : Expr} {neg : Bool} {pos : Pos} {e' : Mine.E} (h : cIn f sc neg l r = some e') :
    EvOK prog w base Φ k sc (.Compare l [if neg = true then .NotIn else .In] [r] pos) e' ∧ TrOK prog w base Φ k sc (.Compare l [if neg = true then .NotIn else .In] [r] pos) e' := by
  replace h := ob h
  obtain ⟨a, ha, h⟩ := h
  replace h := ob h
  obtain ⟨y, hy, h⟩ := h
  replace h := om h
  obtain ⟨j, hj, rfl⟩ := h
  obtain ⟨py, rfl⟩ := nameOf_some hy
  constructor
  · intro env ρ A s d E c hv
    replace hv := ob hv
    obtain ⟨x, hx, hv⟩ := hv
    replace hv := ob hv
    obtain ⟨kk, hk, hv⟩ := hv
    replace hv := ob hv
    obtain ⟨kvs, hkv, hv⟩ := hv
    replace hv := oi hv
    obtain ⟨ho, rfl⟩ := hv
    refine wpAny_Compare1 (wpAny_mono ((J.1 l a ha).1 env ρ A s x E c hx) (fun lv s₁ q₁ => ?_) fun _ _ x => x) (in_marks neg y py)
    have c1 := c.mono (keeps_heap q₁.1)
    refine load_dic c1 hj hkv fun b hD => wpAny_mono (dic_in (units8 c1.ok) hD q₁.2 hk ho) (fun v s₃ q₃ => ?_) fun _ _ x => x
    obtain ⟨rfl, k3⟩ := q₃
    exact ⟨keeps_trans q₁.1 k3, .bool _⟩
  · intro env ρ A s t E c hv
    replace hv := ob hv
    obtain ⟨x, hx, hv⟩ := hv
    replace hv := ob hv
    obtain ⟨kk, hk, hv⟩ := hv
    replace hv := ob hv
    obtain ⟨kvs, hkv, hv⟩ := hv
    replace hv := oi hv
    obtain ⟨ho, he⟩ := hv
    cases he
    refine wpAny_isTrue_Compare1 (wpAny_mono ((J.1 l a ha).1 env ρ A s x E c hx) (fun lv s₁ q₁ => ?_) fun _ _ x => x) (in_marks neg y py)
    have c1 := c.mono (keeps_heap q₁.1)
    refine load_dic c1 hj hkv fun b hD => wpAny_mono (dic_in (units8 c1.ok) hD q₁.2 hk ho) (fun v s₃ q₃ => ?_) fun _ _ x => x
    obtain ⟨rfl, k3⟩ := q₃
    exact wpAny_truthy_bool ⟨rfl, keeps_trans q₁.1 k3⟩

theorem inOf_some {op : CmpOp} {neg : Bool} (h : inOf op = some neg) : op = if neg = true then .NotIn else .In := by
  cases op <;> first | exact nns h | (cases h; rfl)
theorem dictVar_some {v : Expr} {j : Nat} (h : dictVar sc v = some j) : ∃ x p, v = .Name x p ∧ idxVar sc x = some j := by
  replace h := ob h
  obtain ⟨x, hx, h⟩ := h
  replace h := oi' h
  obtain ⟨_, h⟩ := h
  obtain ⟨p, rfl⟩ := nameOf_some hx
  exact ⟨x, p, rfl, h⟩

include J in
theorem compare_ok {l : Expr} {ops : List CmpOp} {rs : List Expr} {pos : Pos} {e' : Mine.E} (h : cCmpE f sc l ops rs = some e') : EvOK prog w base Φ k sc (.Compare l ops rs pos) e' ∧ TrOK prog w base Φ k sc (.Compare l ops rs pos) e' := by
  replace h := ob h
  obtain ⟨c, _, h⟩ := h
  cases c with
  | one op r =>
    cases hn : inOf op with
    | some neg =>
      have h : (match inOf op with | some neg => cIn f sc neg l r | none => (cCm op).bind fun o => (f l).bind fun a => (f r).map fun b => .cmp o a b) = some e' := h
      rw [hn] at h
      have := inOf_some hn; subst this
      exact in_ok J h
    | none =>
    have h : (match inOf op with | some neg => cIn f sc neg l r | none => (cCm op).bind fun o => (f l).bind fun a => (f r).map fun b => .cmp o a b) = some e' := h
    rw [hn] at h
    replace h := ob h
    obtain ⟨o, ho, h⟩ := h
    replace h := ob h
    obtain ⟨a, ha, h⟩ := h
    obtain ⟨b, hb, rfl⟩ := om h
    have := cmA_of ho; subst this
    exact cmp1_ok J ha hb
  | two op₁ op₂ r₁ r₂ =>
    replace h := ob h
    obtain ⟨o₁, ho₁, h⟩ := h
    replace h := ob h
    obtain ⟨o₂, ho₂, h⟩ := h
    replace h := ob h
    obtain ⟨a, ha, h⟩ := h
    replace h := ob h
    obtain ⟨b, hb, h⟩ := h
    replace h := om h
    obtain ⟨c, hc, rfl⟩ := h
    have := cmA_of ho₁; subst this
    have := cmA_of ho₂; subst this
    exact chain_eval J ha hb hc

include J in
theorem sub_ok {v sl : Expr} {pos : Pos} {e' : Mine.E} (h : cSubE f sc v sl = some e') : EvOK prog w base Φ k sc (.Subscript v sl pos) e' := by
  unfold cSubE at h
  by_cases hs : isSlice sl = true
  · rw [if_pos hs] at h
    cases sl <;> first | exact nns hs | exact nnb hs | skip
    rename_i lo hi st p
    obtain ⟨hst, h2⟩ := oi' (show (if st.isNone = true then cSlice f v lo hi else none) = some e' from h)
    cases st with
    | none => exact slice_ok J h2
    | some => cases hst
  · rw [if_neg hs] at h
    have hns : ∀ a b c d, sl ≠ .Slice a b c d := by rintro a b c d rfl; exact hs rfl
    cases hdv : dictVar sc v with
    | some j =>
      rw [hdv] at h
      replace h := om h
      obtain ⟨b, hb, rfl⟩ := h
      obtain ⟨x, px, rfl, hx⟩ := dictVar_some hdv
      intro env ρ A s d E c hv
      replace hv := ob hv
      obtain ⟨y, hy, hv⟩ := hv
      replace hv := ob hv
      obtain ⟨kk, hk, hv⟩ := hv
      replace hv := ob hv
      obtain ⟨kvs, hkv, hv⟩ := hv
      replace hv := oi' hv
      obtain ⟨ho, hl⟩ := hv
      refine Subscript_ (load_dic c hx hkv fun bd hD => wpAny_mono ((J.1 _ b hb).1 env ρ A s _ E c hy) (fun iv s₂ q₂ => ?_) fun _ _ x => x)
      have hD2 := hD.keeps (keeps_heap q₂.1)
      obtain ⟨o, es, ep, ho1, ho2, _⟩ := hD2.obj
      exact tail_any ⟨o, ho1, ho2.1⟩ slot_dict_getitem.lookup (wpAny_mono (dic_get (units8 (c.mono (keeps_heap q₂.1)).ok) hD2 q₂.2 hk ho hl) (fun r s₃ q₃ => ⟨keeps_trans q₂.1 q₃.1, q₃.2⟩) fun _ _ x => x) (sub_plain hns)
    | none =>
    rw [hdv] at h
    replace h := ob h
    obtain ⟨a, ha, h⟩ := h
    replace h := om h
    obtain ⟨b, hb, rfl⟩ := h
    intro env ρ A s d E c hv
    replace hv := ob hv
    obtain ⟨x, hx, hv⟩ := hv
    replace hv := ob hv
    obtain ⟨y, hy, hv⟩ := hv
    refine Subscript_ (wpAny_mono ((J.1 v a ha).1 env ρ A s _ E c hx) (fun o s₁ q₁ => wpAny_mono ((J.1 _ b hb).1 env ρ A s₁ _ E (c.mono (keeps_heap q₁.1)) hy) (fun iv s₂ q₂ => ?_) fun _ _ x => x) fun _ _ x => x)
    have v1 := q₁.2.mono (keeps_heap q₂.1)
    obtain ⟨ds, hds⟩ := evIdx_items hv
    obtain ⟨T, id, t1, t2⟩ := getitem_look v1 hds
    exact tail_any t1 t2 (wpAny_mono (idx_ok v1 q₂.2 hv) (fun r s₃ q₃ => ⟨keeps_trans (keeps_trans q₁.1 q₂.1) q₃.1, q₃.2⟩) fun _ _ x => x) (sub_plain hns)
end
end
end Mine

namespace Mine
open PySem PySem.Calls PyProof.Rows PySem.SeqAt

section
variable {prog : Program} {w : World} {base : Heap} {fns : List Str} {mg mb : Str → Option Value} {fa : Nat → Addr} {Φ : Fns} {k : Nat}

/-- what a comprehension is made of -/
theorem cComp_parts {g : Sc → Expr → Option Mine.E} {sc : Sc} {elt : Expr} {scope : Scope} {gens : List Comprehension} {e' : Mine.E} (h : cComp g sc elt scope gens = some e') :
    ∃ x px iter ifs it el cd, gens = [⟨.Name x px, iter, ifs, 0⟩] ∧ compOk sc scope x = true ∧ cIt (g sc) sc iter = some it ∧ g (compSc sc scope.names x) elt = some el ∧ e' = .comp el it cd ∧
      ((ifs = [] ∧ cd = .k (.bool true)) ∨ ∃ t, ifs = [t] ∧ g (compSc sc scope.names x) t = some cd) := by
  cases gens with
  | nil => cases h
  | cons c r =>
    obtain ⟨tg, iter, ifs, asy⟩ := c
    replace h := oi' h
    obtain ⟨⟨hr, ha⟩, h⟩ := h
    cases r with
    | cons => cases hr
    | nil =>
    have ha : asy = 0 := ha
    subst ha
    replace h := ob h
    obtain ⟨x, hx, h⟩ := h
    obtain ⟨px, hx'⟩ := nameOf_some hx
    have hx' : tg = .Name x px := hx'
    subst hx'
    replace h := oi' h
    obtain ⟨ho, h⟩ := h
    replace h := ob h
    obtain ⟨it, hit, h⟩ := h
    replace h := ob h
    obtain ⟨el, hel, h⟩ := h
    cases ifs with
    | nil => cases h; exact ⟨x, px, iter, [], it, el, _, rfl, ho, hit, hel, rfl, .inl ⟨rfl, rfl⟩⟩
    | cons t r =>
      obtain ⟨hr, h⟩ := oi' (show (if r.isEmpty = true then (g (compSc sc scope.names x) t).map fun cd => E.comp el it cd else none) = some e' from h)
      cases r with
      | cons => cases hr
      | nil =>
        replace h := om h
        obtain ⟨cd, hcd, rfl⟩ := h
        exact ⟨x, px, iter, [t], it, el, cd, rfl, ho, hit, hel, rfl, .inr ⟨t, rfl, hcd⟩⟩

theorem ev_comp_parts {ρ : Rho} {el cd : Mine.E} {it : It} {d : D} (hv : ev Φ ρ (.comp el it cd) = some d) : ∃ ds res, evIt Φ ρ it = some ds ∧ compO (fun d => (ev Φ (ρ ++ [some (.dat d)]) cd).bind isTrueD) (fun d => ev Φ (ρ ++ [some (.dat d)]) el) ds = some res ∧ D.pures res = true ∧ d = .lst res := by
  replace hv := ob hv
  obtain ⟨ds, hds, hv⟩ := hv
  replace hv := ob hv
  obtain ⟨res, hres, hv⟩ := hv
  replace hv := oi hv
  obtain ⟨hp, rfl⟩ := hv
  exact ⟨ds, res, hds, hres, hp, rfl⟩

theorem it_simple {A : Around} {s : Shared} {E : Value → Shared → Prop} {env : Env} {ρ : Rho} {iter : Expr} {it : It} {ds : List D}
    (h : wpAny (model prog w) A (eval iter env) (fun xv s₁ => wpAny (model prog w) A (pyIter xv) (ItPost prog w Φ ρ A it ds s xv s₁) E s₁) E s) :
    wpAny (model prog w) A (eval iter env) (fun xv s₁ => wpAny (model prog w) A (pyIter xv) (fun itv s₂ => ds.length ≤ lim ∧ ∃ I fp, itv = .ref I ∧ Keeps s s₁ ∧ Keeps s₁ s₂ ∧ Wk prog w A s₁.heap s₂ I fp ds ∧ True) E s₁) E s :=
  wpAny_mono h (fun xv s₁ h₁ => wpAny_mono h₁ (fun itv s₂ h₂ => let ⟨a, I, g, b, c, d, e, _⟩ := h₂; ⟨a, I, _, b, c, d, e, trivial⟩) fun _ _ x => x) fun _ _ x => x

theorem ev_sound (G : Gl fns base mg mb fa) (hΦ : FnsOk prog w base Φ fa k) : ∀ (n : Nat) (sc : Sc), Judged prog w base Φ k sc (cE fns n sc)
  | 0, sc => ⟨(fun e e' h => by cases h), (fun _ _ => rfl)⟩
  | n + 1, sc => by
    have J := ev_sound G hΦ n sc
    refine ⟨fun e e' h => ?_, fun _ _ => rfl⟩
    cases e with
    | Constant cn k' pos =>
      obtain ⟨d', hd, rfl⟩ := om (show (cConst cn).map .k = some e' from h)
      have : EvOK prog w base Φ k sc (.Constant cn k' pos) (.k d') := by
        intro env ρ A s d E c hv
        have hv : some d' = some d := hv
        cases hv
        cases cn <;> first | exact nns hd | exact nnb hd | skip
        · cases hd; exact wpAny_pure ⟨keeps_refl s, .none⟩
        · cases hd; exact wpAny_pure ⟨keeps_refl s, .bool _⟩
        · cases hd; exact wpAny_Constant_int post_int
        · cases hd; exact Constant_str ⟨keeps_toks s _, .str _ _⟩
      exact ⟨this, tr_plain this fun _ _ => rfl⟩
    | Name x pos =>
      obtain ⟨hvk, hx⟩ := oi' (show (if (isVarK (sc.kd.lookup x) && !(x == ("__debug__" : Str))) = true then (sc.ix.lookup x).map .v else none) = some e' from h)
      simp only [Bool.and_eq_true, Bool.not_eq_true'] at hvk
      obtain ⟨i, hi, rfl⟩ := om hx
      have : EvOK prog w base Φ k sc (.Name x pos) (.v i) := by
        intro env ρ A s d E c hv
        replace hv := ob hv
        obtain ⟨lo, hlo, hv⟩ := hv
        obtain ⟨v, ha, hV⟩ := c.binds x i lo hvk.1 hi hlo
        exact load_var (sc := sc) (ρ := ρ) c.kind ha ⟨keeps_refl s, hV.val hv⟩ hvk.2
      exact ⟨this, tr_plain this fun _ _ => rfl⟩
    | BinOp l op r pos =>
      obtain ⟨o, ho, h⟩ := ob (show ((cOp op).bind fun o => (cE fns n sc l).bind fun a => (cE fns n sc r).map fun b => .bin o a b) = some e' from h)
      replace h := ob h
      obtain ⟨a, ha, h⟩ := h
      obtain ⟨b, hb, rfl⟩ := om h
      have := opA_of ho; subst this
      have : EvOK prog w base Φ k sc (.BinOp l (opA o) r pos) (.bin o a b) := by
        intro env ρ A s d E c hv
        replace hv := ob hv
        obtain ⟨x, hx, hv⟩ := hv
        replace hv := ob hv
        obtain ⟨y, hy, hv⟩ := hv
        refine wpAny_BinOp (wpAny_mono ((J.1 l a ha).1 env ρ A s x E c hx) (fun lv s₁ q₁ => wpAny_mono ((J.1 r b hb).1 env ρ A s₁ y E (c.mono (keeps_heap q₁.1)) hy) (fun rv s₂ q₂ => ?_) fun _ _ x => x) fun _ _ x => x)
        exact wpAny_mono (bin_ok (q₁.2.mono (keeps_heap q₂.1)) q₂.2 hv) (fun v s₃ q₃ => ⟨keeps_trans (keeps_trans q₁.1 q₂.1) q₃.1, q₃.2⟩) fun _ _ x => x
      exact ⟨this, tr_plain this fun _ _ => rfl⟩
    | UnaryOp op x pos => exact unary_ok J h
    | BoolOp op vs pos =>
      cases vs with
      | nil => cases h
      | cons a r =>
        cases r with
        | nil => cases h
        | cons b r =>
          obtain ⟨h1, h2⟩ := bool_ok J op pos (b :: r) a e' h
          exact ⟨fun env ρ A s d E c hv => h1 env ρ A s d E c hv, fun env ρ A s b E c hv => h2 env ρ A s b E c hv⟩
    | Compare l ops rs pos => exact compare_ok J h
    | Subscript v sl pos =>
      have := sub_ok (pos := pos) J (show cSubE (cE fns n sc) sc v sl = some e' from h)
      exact ⟨this, tr_plain this fun _ _ => rfl⟩
    | Tuple es k' pos =>
      obtain ⟨x, hx, h⟩ := ob (show ((cEs (cE fns n sc) es).bind fun x => if x.size ≤ 1000 then some (.tup x) else none) = some e' from h)
      obtain ⟨hsz, rfl⟩ := oi h
      have : EvOK prog w base Φ k sc (.Tuple es k' pos) (.tup x) := by
        intro env ρ A s d E c hv
        obtain ⟨ds, hds, rfl⟩ := om hv
        refine Tuple_ (wpAny_mono (args_ok J es x hx env ρ A s ds E pos c hds) (fun vs s₁ q₁ => ?_) fun _ _ x => x)
        have hl := evs_size x ρ ds hds
        have hl2 := q₁.2.length
        have hlim : ds.length ≤ lim := small_lim (by omega)
        refine wpAny_newObj_type ?_ (by show vs.toArray.size ≤ sizeLine; rw [List.size_toArray]; have := lim_line; omega)
        have := new_tuple q₁.2 hlim
        exact ⟨keeps_trans q₁.1 this.1, this.2⟩
      exact ⟨this, tr_plain this fun _ _ => rfl⟩
    | List es pos =>
      obtain ⟨x, hx, h⟩ := ob (show ((cEs (cE fns n sc) es).bind fun x => if x.size ≤ 1000 then some (.lst x) else none) = some e' from h)
      obtain ⟨hsz, rfl⟩ := oi h
      have : EvOK prog w base Φ k sc (.List es pos) (.lst x) := by
        intro env ρ A s d E c hv
        obtain ⟨ds, hds, rfl⟩ := om hv
        refine List_ (wpAny_mono (args_ok J es x hx env ρ A s ds E pos c hds) (fun vs s₁ q₁ => ?_) fun _ _ x => x)
        have hl := evs_size x ρ ds hds
        have hl2 := q₁.2.length
        have hlim : ds.length ≤ lim := small_lim (by omega)
        refine wpAny_newObj_type ?_ (by show vs.toArray.size ≤ sizeLine; rw [List.size_toArray]; have := lim_line; omega)
        have := new_list q₁.2 hlim
        exact ⟨keeps_trans q₁.1 this.1, this.2⟩
      exact ⟨this, tr_plain this fun _ _ => rfl⟩
    | Call fn args kws pos =>
      obtain ⟨hk, h2⟩ := oi' (show (if kws.isEmpty = true then cCallE (cE fns n sc) fns sc args fn else none) = some e' from h)
      cases kws with
      | cons => cases hk
      | nil =>
        suffices hh : EvOK prog w base Φ k sc (.Call fn args [] pos) e' from ⟨hh, tr_plain hh fun _ _ => rfl⟩
        cases fn with
        | Name f p => exact call_ok G hΦ J h2
        | _ => cases h2
    | ListComp elt gens scope pos =>
      suffices hh : EvOK prog w base Φ k sc (.ListComp elt gens scope pos) e' from ⟨hh, tr_plain hh fun _ _ => rfl⟩
      obtain ⟨x, px, iter, ifs, it, el, cd, rfl, hco, hit, hel, rfl, hcd⟩ := cComp_parts h
      have o := compOk_of hco
      have J' := ev_sound G hΦ n (compSc sc scope.names x)
      intro env ρ A s d E c hv
      obtain ⟨ds, res, hds, hres, hp, rfl⟩ := ev_comp_parts hv
      obtain ⟨hs, hi⟩ := it_ok (prog := prog) (w := w) (E := E) G J hit c hds
      rw [eval_ListComp]
      refine comp_ok (use := none) c o hs (it_simple hi) ((J'.1 elt el hel).1) (hcd.imp id fun ⟨t, e, q⟩ => ⟨t, e, (J'.1 t cd q).2⟩) hres hp ?_
      intro Dd C s' m' ys hdl hk hD hC hDC hn hl hvs
      refine ⟨m', hn, fun h'' hs'' => ?_⟩
      have hlen : res.length ≤ lim := Nat.le_trans (compO_len hres) hdl
      have tk : ∀ a items, s'.heap.IsTuple a items → h''.IsTuple a items := tup_keep [C] (fun b o hb e => by
        simp only [List.mem_cons, List.not_mem_nil, or_false] at hb
        exact hs''.extBut b o hb e) (fun b hb => by rw [List.mem_singleton.mp hb]; exact badNs hn)
      obtain ⟨h₀, t₀, rfl, hk₀⟩ := hk
      exact ⟨⟨h'', t₀, rfl, fun b o e => hs''.extBut b o (fun q => by rw [q, hC] at e; cases e) (hk₀ b o e)⟩, .lst (hl.extBut hs''.extBut hDC) (hvs.pureKeep tk hp) hlen⟩
    | _ => exact nns h
end
end Mine

namespace Mine
open PySem PySem.Calls PyProof.Rows PySem.SeqAt

noncomputable def LoV (prog : Program) (w : World) (h₀ h : Heap) (a : Addr) (v : Value) : Lo → Prop
  | .dat d => V h v d ∧ d.pure = true
  | .arg d => V h₀ v d
  | .own ds => v = .ref a ∧ ∃ vs, h.PlainList a (List.toArray vs) ∧ Vs h vs ds ∧ D.pures ds = true ∧ ds.length ≤ lim
  | .dic kvs => v = .ref a ∧ DicAt prog w h a kvs
  | .ob b => v = .ref b
/-- an object of the frame's own, that may change -/
noncomputable def Lo.mine : Lo → Bool
  | .own _ => true
  | .dic _ => true
  | _ => false
noncomputable def MutAt (h : Heap) (L a : Addr) (lo : Lo) : Prop := a ≠ L ∧ match lo with
  | .own _ => ∃ xs, h.PlainList a xs
  | .dic _ => ∃ o es ep, h.get? a = some o ∧ o.ExactDict ∧ o.data = .dict es ep
  | .dat _ => True
  | .arg _ => True
  | .ob _ => True

theorem MutAt.at {h h' : Heap} {L a : Addr} {lo : Lo} (x : MutAt h L a lo) (k : ∀ o, h.get? a = some o → h'.get? a = some o) : MutAt h' L a lo := by
  obtain ⟨n, x⟩ := x
  refine ⟨n, ?_⟩
  cases lo with
  | own ds => obtain ⟨xs, p⟩ := x; exact ⟨xs, p.at k⟩
  | dic kvs => obtain ⟨o, es, ep, p, q⟩ := x; exact ⟨o, es, ep, k o p, q⟩
  | dat d => trivial
  | arg d => trivial
  | ob b => trivial
theorem MutAt.obj {h : Heap} {L a : Addr} {lo : Lo} (x : MutAt h L a lo) (m : lo.mine = true) : ∃ o, h.get? a = some o ∧ o.cls ≠ .type "tuple" ∧ (∀ v, o.data ≠ .cell v) ∧ ∀ vs, o.data ≠ .fields vs := by
  obtain ⟨n, x⟩ := x
  cases lo with
  | own ds =>
    obtain ⟨xs, m, ho⟩ := x
    exact ⟨_, ho, (fun q => by simp at q), (fun v q => by cases q), (fun v q => by cases q)⟩
  | dic kvs =>
    obtain ⟨o, es, ep, h1, h2, h3⟩ := x
    exact ⟨o, h1, (fun q => by rw [h2.1] at q; simp at q), (fun v q => by rw [h3] at q; cases q), (fun v q => by rw [h3] at q; cases q)⟩
  | dat d => cases m
  | arg d => cases m
  | ob b => cases m
theorem MutAt.notuple {h : Heap} {L a b : Addr} {lo : Lo} {items : Array Value} (x : MutAt h L a lo) (m : lo.mine = true) (y : h.IsTuple b items) : b ≠ a := by
  rintro rfl
  obtain ⟨o, ho, hc, _⟩ := x.obj m
  obtain ⟨o', ho', hc', _⟩ := y
  rw [ho] at ho'; cases ho'
  exact hc hc'
theorem MutAt.nocell {h : Heap} {L a b : Addr} {lo : Lo} {v : Option Value} (x : MutAt h L a lo) (m : lo.mine = true) (y : h.IsCell b v) : a ≠ b := by
  rintro rfl
  obtain ⟨o, ho, _, hc, _⟩ := x.obj m
  obtain ⟨o', ho', hd⟩ := y
  rw [ho] at ho'; cases ho'
  exact hc _ hd
theorem LoV.change {prog : Program} {w : World} {h₀ h h' : Heap} {a : Addr} {v : Value} {lo : Lo} (x : LoV prog w h₀ h a v lo) (kt : ∀ a items, h.IsTuple a items → h'.IsTuple a items) (kl : lo.mine = true → ∀ o, h.get? a = some o → h'.get? a = some o) : LoV prog w h₀ h' a v lo := by
  cases lo with
  | dat d => exact ⟨x.1.pureKeep kt x.2, x.2⟩
  | arg d => exact x
  | own ds =>
    obtain ⟨e, vs, p, q, r, l⟩ := x
    exact ⟨e, vs, p.at (kl rfl), q.pureKeep kt r, r, l⟩
  | dic kvs => exact ⟨x.1, x.2.change (kl rfl) kt⟩
  | ob b => exact x
theorem LoV.c {prog : Program} {w : World} {h₀ h : Heap} {a : Addr} {v : Value} {lo : Lo} (x : LoV prog w h₀ h a v lo) (k : ∀ b o, h₀.get? b = some o → h.get? b = some o) : LoC prog w h v lo := by
  cases lo with
  | dat d => exact x.1
  | arg d => exact V.mono k x
  | own ds =>
    obtain ⟨rfl, vs, p, q, r, l⟩ := x
    exact .lst p q l
  | dic kvs => exact ⟨a, x.1, x.2⟩
  | ob b => exact x
theorem LoV.mut {prog : Program} {w : World} {h₀ h : Heap} {L a : Addr} {v : Value} {lo : Lo} (x : LoV prog w h₀ h a v lo) (n : a ≠ L) : MutAt h L a lo := by
  refine ⟨n, ?_⟩
  cases lo with
  | dat d => trivial
  | arg d => trivial
  | ob b => trivial
  | own ds => obtain ⟨_, vs, p, _⟩ := x; exact ⟨_, p⟩
  | dic kvs => exact x.2.obj

/-- tuples stay -/
noncomputable def Tk (h h' : Heap) : Prop := ∀ a items, h.IsTuple a items → h'.IsTuple a items

/-- a frame -/
structure Inv (prog : Program) (w : World) (base h₀ : Heap) (k : Nat) (sc : Sc) (env : Env) (T : List (Addr × Obj)) (ρ : Rho) (A : Around) (h : Heap) : Prop where
  names : env.scope.names = sc.kd
  kind : env.scope.kind = .function
  glob : env.globals = mainGlobals
  blt : env.builtins = builtinsNs
  cells : ∀ x, sc.kd.lookup x = some .cell → (env.cells.lookup x).isSome = true
  len : ρ.length = sc.n
  inj : ∀ x y i, sc.ix.lookup x = some i → sc.ix.lookup y = some i → x = y
  lt : ∀ x i, sc.ix.lookup x = some i → i < sc.n
  keep : ∀ b o, h₀.get? b = some o → h.get? b = some o
  newL : h₀.get? env.locals = none
  ns : ∃ m, h.Ns env.locals m
  cel : ∀ x c, env.cells.lookup x = some c → h₀.get? c = none ∧ c ≠ env.locals ∧ (∃ v, h.IsCell c v) ∧ ∀ y, env.cells.lookup y = some c → y = x
  own : ∃ α : Nat → Addr,
    (∀ x i lo, isVarK (sc.kd.lookup x) = true → sc.ix.lookup x = some i → ρ.get i = some lo → ∃ v, At h env x v ∧ LoV prog w h₀ h (α i) v lo) ∧
    (∀ i lo, ρ.get i = some lo → lo.mine = true → h₀.get? (α i) = none ∧ (∀ p ∈ T, p.1 ≠ α i) ∧ MutAt h env.locals (α i) lo) ∧
    (∀ i j lo lo', ρ.get i = some lo → ρ.get j = some lo' → lo.mine = true → lo'.mine = true → i ≠ j → α i ≠ α j)
  prot : ∀ p ∈ T, h.get? p.1 = some p.2 ∧ p.1 ≠ env.locals ∧ ∀ x, env.cells.lookup x ≠ some p.1
  ok : Ok base k A h
  frame : env.frame = some env.locals
  stk : ∃ l, A.frames = some (env :: l)
  above : h₀.objs.size ≤ env.locals
  bse : ∀ b o, base.get? b = some o → h₀.get? b = some o

section
variable {prog : Program} {w : World} {base h₀ h h' : Heap} {k : Nat} {sc : Sc} {env : Env} {T : List (Addr × Obj)} {ρ : Rho} {A : Around}

theorem Inv.cx (I : Inv prog w base h₀ k sc env T ρ A h) : Cx prog w base k sc env ρ A h :=
  ⟨I.names, I.kind, I.glob, I.blt, I.cells, I.len, fun x i lo h1 h2 h3 => let ⟨α, a, _, _⟩ := I.own; let ⟨v, p, q⟩ := a x i lo h1 h2 h3; ⟨v, p, q.c I.keep⟩, I.ok⟩
theorem Inv.kindOf (I : Inv prog w base h₀ k sc env T ρ A h) (x : Str) : env.kindOf x = sc.kd.lookup x := I.cx.kindOf x

theorem Inv.mono (I : Inv prog w base h₀ k sc env T ρ A h) (e : ∀ b o, h.get? b = some o → h'.get? b = some o) : Inv prog w base h₀ k sc env T ρ A h' := by
  obtain ⟨α, a1, a2, a3⟩ := I.own
  refine ⟨I.names, I.kind, I.glob, I.blt, I.cells, I.len, I.inj, I.lt, fun b o q => e b o (I.keep b o q), I.newL, let ⟨m, hm⟩ := I.ns; ⟨m, hm.keeps e⟩, fun x c hc => ?_, ⟨α, fun x i lo h1 h2 h3 => ?_, fun i lo hi hm => ?_, a3⟩, fun p hp => ?_, I.ok.mono e, I.frame, I.stk, I.above, I.bse⟩
  · obtain ⟨p, q, ⟨v, r⟩, t⟩ := I.cel x c hc
    exact ⟨p, q, ⟨v, r.keeps e⟩, t⟩
  · obtain ⟨v, p, q⟩ := a1 x i lo h1 h2 h3
    exact ⟨v, p.mono e, q.change (fun a items t => IsTuple_keep t e) fun _ o => e _ o⟩
  · obtain ⟨p, q, r⟩ := a2 i lo hi hm
    exact ⟨p, q, r.at fun o => e _ o⟩
  · obtain ⟨p, q⟩ := I.prot p hp
    exact ⟨e _ _ p, q⟩

theorem rho_set {ρ : Rho} {i j : Nat} {v : Option Lo} (hi : i < ρ.length) : Rho.get (ρ.set i v) j = if i = j then v else Rho.get ρ j := by
  unfold Rho.get
  by_cases h : i = j
  · subst h; simp [hi]
  · simp [h, List.getElem?_set_ne h]

theorem ns_fun {a : Addr} {m m' : Str → Option Value} (x : h.Ns a m) (y : h.Ns a m') : m = m' := by
  obtain ⟨o, es, ep, ho, hd, _, hm⟩ := x
  obtain ⟨o', es', ep', ho', hd', _, hm'⟩ := y
  rw [ho] at ho'; cases ho'
  rw [hd] at hd'; cases hd'
  funext n; rw [← hm, ← hm']

theorem ns_notuple {a b : Addr} {m : Str → Option Value} {items : Array Value} (x : h.Ns a m) (y : h.IsTuple b items) : b ≠ a := by
  rintro rfl
  obtain ⟨o, es, ep, ho, hd, _⟩ := x
  obtain ⟨o', ho', _, n, hd'⟩ := y
  rw [ho] at ho'; cases ho'
  rw [hd] at hd'; cases hd'
theorem ns_nolist {a b : Addr} {m : Str → Option Value} {items : Array Value} (x : h.Ns a m) (y : h.PlainList b items) : b ≠ a := by
  rintro rfl
  obtain ⟨o, es, ep, ho, hd, _⟩ := x
  obtain ⟨n, ho'⟩ := y
  rw [ho] at ho'; cases ho'
  cases hd
theorem cell_notuple {a b : Addr} {v : Option Value} {items : Array Value} (x : h.IsCell a v) (y : h.IsTuple b items) : b ≠ a := by
  rintro rfl
  obtain ⟨o, ho, hd⟩ := x
  obtain ⟨o', ho', _, n, hd'⟩ := y
  rw [ho] at ho'; cases ho'
  rw [hd] at hd'; cases hd'
theorem cell_nolist {a b : Addr} {v : Option Value} {items : Array Value} (x : h.IsCell a v) (y : h.PlainList b items) : b ≠ a := by
  rintro rfl
  obtain ⟨o, ho, hd⟩ := x
  obtain ⟨n, ho'⟩ := y
  rw [ho] at ho'; cases ho'
  cases hd
theorem list_notuple {a b : Addr} {xs items : Array Value} (x : h.PlainList a xs) (y : h.IsTuple b items) : b ≠ a := by
  rintro rfl
  obtain ⟨n, ho⟩ := x
  obtain ⟨o', ho', hc, _⟩ := y
  rw [ho] at ho'; cases ho'
  simp at hc
theorem tuple_but {a : Addr} (hs : Heap.SameBut a h h') (hn : ∀ b items, h.IsTuple b items → b ≠ a) : ∀ b items, h.IsTuple b items → h'.IsTuple b items :=
  fun b items x => x.extBut hs.extBut (hn b items x)

theorem funFrames_any {h h' base : Heap} (k : ∀ b o, h.get? b = some o → (∀ vs, o.data ≠ .fields vs) → ∃ o', h'.get? b = some o' ∧ ∀ vs, o'.data ≠ .fields vs) {l : List Env} (hl : h.FunFrames base l) : h'.FunFrames base l := by
  induction l with
  | nil => trivial
  | cons env rest ih =>
    obtain ⟨hk, ⟨L, o, hf, hn, ho, hd⟩, hr⟩ := hl
    obtain ⟨o', ho', hd'⟩ := k L o ho hd
    exact ⟨hk, ⟨L, o', hf, hn, ho', hd'⟩, ih hr⟩

/-- one object that is none of the base's is changed -/
theorem Ok.change {a : Addr} {o' : Obj} (x : Ok base k A h) (hs : Heap.SameBut a h h') (ha : base.get? a = none) (ho : h'.get? a = some o') (hf : ∀ vs, o'.data ≠ .fields vs) : Ok base k A h' := by
  obtain ⟨a1, a2, a3, l, L⟩ := x
  refine ⟨a1, a2, a3, l, L.stack, fun b o q => hs.extBut b o (fun e => by rw [e, ha] at q; cases q) (L.stays b o q), funFrames_any (fun b o hb hn => ?_) L.frames⟩
  by_cases e : b = a
  · subst e; exact ⟨o', ho, hf⟩
  · exact ⟨o, hs.extBut b o e hb, hn⟩

theorem base_none {a : Addr} (I : Inv prog w base h₀ k sc env T ρ A h) (ha : h₀.get? a = none) : base.get? a = none := by
  cases q : base.get? a with
  | none => rfl
  | some o => rw [I.bse _ _ q] at ha; cases ha

/-- an object of the frame's own is changed; x at i holds anew -/
theorem Inv.change {a : Addr} {o' : Obj} {x : Str} {i : Nat} {lo' : Lo} {v : Value} {a' : Addr} (I : Inv prog w base h₀ k sc env T ρ A h)
    (hx : isVarK (sc.kd.lookup x) = true) (hi : sc.ix.lookup x = some i)
    (hs : Heap.SameBut a h h') (ha : h₀.get? a = none) (hT : ∀ p ∈ T, p.1 ≠ a) (ho : h'.get? a = some o') (hf : ∀ vs, o'.data ≠ .fields vs) (htup : ∀ b items, h.IsTuple b items → b ≠ a)
    (hns : ∃ m, h'.Ns env.locals m) (hcel : ∀ y c, env.cells.lookup y = some c → ∃ v, h'.IsCell c v)
    (hAt : ∀ y w, y ≠ x → At h env y w → At h' env y w) (hAx : At h' env x v)
    (α : Nat → Addr) (h1 : ∀ x i lo, isVarK (sc.kd.lookup x) = true → sc.ix.lookup x = some i → ρ.get i = some lo → ∃ v, At h env x v ∧ LoV prog w h₀ h (α i) v lo)
    (h2 : ∀ i lo, ρ.get i = some lo → lo.mine = true → h₀.get? (α i) = none ∧ (∀ p ∈ T, p.1 ≠ α i) ∧ MutAt h env.locals (α i) lo) (h3 : ∀ i j lo lo', ρ.get i = some lo → ρ.get j = some lo' → lo.mine = true → lo'.mine = true → i ≠ j → α i ≠ α j)
    (hoth : ∀ j lo, j ≠ i → ρ.get j = some lo → lo.mine = true → α j ≠ a)
    (hlo : LoV prog w h₀ h' a' v lo') (hnew : lo'.mine = true → h₀.get? a' = none ∧ (∀ p ∈ T, p.1 ≠ a') ∧ a' ≠ env.locals ∧ ∀ j lo, j ≠ i → ρ.get j = some lo → lo.mine = true → α j ≠ a') :
    Inv prog w base h₀ k sc env T (ρ.set i (some lo')) A h' := by
  have kt := tuple_but hs htup
  have hlt : i < ρ.length := by rw [I.len]; exact I.lt x i hi
  refine ⟨I.names, I.kind, I.glob, I.blt, I.cells, by simp [I.len], I.inj, I.lt, fun b o q => hs.extBut b o (fun e => by rw [e, ha] at q; cases q) (I.keep b o q), I.newL, hns, fun y c hc => ?_, ⟨fun j => if j = i then a' else α j, fun y j lo q1 q2 q3 => ?_, fun j lo q qm => ?_, fun j j' lo1 lo2 q1 q2 m1 m2 q3 => ?_⟩, fun p hp => ?_, I.ok.change hs (base_none I ha) ho hf, I.frame, I.stk, I.above, I.bse⟩
  · obtain ⟨p, q, _, t⟩ := I.cel y c hc
    exact ⟨p, q, hcel y c hc, t⟩
  · rw [rho_set hlt] at q3
    by_cases e : i = j
    · subst e
      rw [if_pos rfl] at q3
      cases q3
      have := I.inj x y i hi q2; subst this
      exact ⟨v, hAx, by dsimp only; rw [if_pos rfl]; exact hlo⟩
    · rw [if_neg e] at q3
      have hxy : y ≠ x := by rintro rfl; rw [hi] at q2; cases q2; exact e rfl
      obtain ⟨w, p, q⟩ := h1 y j lo q1 q2 q3
      refine ⟨w, hAt y w hxy p, ?_⟩
      dsimp only
      rw [if_neg (Ne.symm e)]
      exact q.change kt fun hm o ho => hs.extBut _ o (hoth j lo (Ne.symm e) q3 hm) ho
  · rw [rho_set hlt] at q
    by_cases e : i = j
    · subst e
      rw [if_pos rfl] at q
      cases q
      obtain ⟨p1, p2, p3, _⟩ := hnew qm
      dsimp only
      rw [if_pos rfl]
      exact ⟨p1, p2, hlo.mut p3⟩
    · rw [if_neg e] at q
      dsimp only
      rw [if_neg (Ne.symm e)]
      obtain ⟨p1, p2, p3⟩ := h2 j lo q qm
      exact ⟨p1, p2, p3.at fun o ho => hs.extBut _ o (hoth j lo (Ne.symm e) q qm) ho⟩
  · rw [rho_set hlt] at q1 q2
    by_cases e : i = j
    · subst e
      rw [if_pos rfl] at q1
      cases q1
      rw [if_neg q3] at q2
      dsimp only
      rw [if_pos rfl, if_neg (Ne.symm q3)]
      exact Ne.symm ((hnew m1).2.2.2 j' lo2 (Ne.symm q3) q2 m2)
    · rw [if_neg e] at q1
      by_cases e' : i = j'
      · subst e'
        rw [if_pos rfl] at q2
        cases q2
        dsimp only
        rw [if_pos rfl, if_neg (Ne.symm e)]
        exact (hnew m2).2.2.2 j lo1 (Ne.symm e) q1 m1
      · rw [if_neg e'] at q2
        dsimp only
        rw [if_neg (Ne.symm e), if_neg (Ne.symm e')]
        exact h3 j j' lo1 lo2 q1 q2 m1 m2 q3
  · obtain ⟨p1, p2⟩ := I.prot p hp
    exact ⟨hs.extBut _ _ (hT p hp) p1, p2⟩
theorem Inv.tl_ne (I : Inv prog w base h₀ k sc env T ρ A h) (b : Addr) (hb : h.get? b = none) : ∀ p ∈ T, p.1 ≠ b := by
  rintro p hp rfl
  rw [(I.prot p hp).1] at hb; cases hb
theorem Inv.h0_none (I : Inv prog w base h₀ k sc env T ρ A h) {b : Addr} (hb : h.get? b = none) : h₀.get? b = none := by
  cases q : h₀.get? b with
  | none => rfl
  | some o => rw [I.keep _ _ q] at hb; cases hb
end

section
variable {prog : Program} {w : World} {base h₀ h h' : Heap} {k : Nat} {sc : Sc} {env : Env} {T : List (Addr × Obj)} {ρ : Rho} {A : Around}
/-- what is guarded may be less -/
theorem Inv.less {T' : List (Addr × Obj)} (I : Inv prog w base h₀ k sc env T ρ A h) (hT : ∀ p ∈ T', p ∈ T) : Inv prog w base h₀ k sc env T' ρ A h := by
  obtain ⟨α, a1, a2, a3⟩ := I.own
  exact ⟨I.names, I.kind, I.glob, I.blt, I.cells, I.len, I.inj, I.lt, I.keep, I.newL, I.ns, I.cel, ⟨α, a1, fun i lo q qm => let ⟨p1, p2, p3⟩ := a2 i lo q qm; ⟨p1, fun p hp => p2 p (hT p hp), p3⟩, a3⟩, fun p hp => I.prot p (hT p hp), I.ok, I.frame, I.stk, I.above, I.bse⟩

/-- one object more is guarded -/
theorem Inv.guard {b : Addr} {o : Obj} (I : Inv prog w base h₀ k sc env T ρ A h) (hb : h.get? b = some o) (hd : ∀ es n, o.data ≠ .dict es n) (hc : ∀ v, o.data ≠ .cell v)
    (ho : (∀ xs, ¬ h.PlainList b xs) ∨ (h₀.get? b ≠ none) ∨ ∀ i ds, ρ.get i ≠ some (.own ds)) : Inv prog w base h₀ k sc env ((b, o) :: T) ρ A h := by
  obtain ⟨α, a1, a2, a3⟩ := I.own
  refine ⟨I.names, I.kind, I.glob, I.blt, I.cells, I.len, I.inj, I.lt, I.keep, I.newL, I.ns, I.cel, ⟨α, a1, fun i lo q qm => ?_, a3⟩, fun p hp => ?_, I.ok, I.frame, I.stk, I.above, I.bse⟩
  · obtain ⟨p1, p2, p3⟩ := a2 i lo q qm
    refine ⟨p1, fun p hp => ?_, p3⟩
    rcases List.mem_cons.mp hp with rfl | hp
    · rintro rfl
      cases lo with
      | own ds =>
        rcases ho with e | e | e
        · obtain ⟨xs, p3⟩ := p3.2
          exact e xs p3
        · exact e p1
        · exact e i ds q
      | dic kvs =>
        obtain ⟨o', es, ep, q1, _, q2⟩ := p3.2
        have hb : h.get? (α i) = some o := hb
        rw [hb] at q1; cases q1
        exact hd _ _ q2
      | dat d => cases qm
      | arg d => cases qm
      | ob b => cases qm
    · exact p2 p hp
  · rcases List.mem_cons.mp hp with rfl | hp
    · refine ⟨hb, ?_, fun x q => ?_⟩
      · rintro rfl
        obtain ⟨m, o', es, ep, ho', hd', _⟩ := I.ns
        have hb' : h.get? env.locals = some o := hb
        rw [hb'] at ho'; cases ho'
        exact hd _ _ hd'
      · obtain ⟨_, _, ⟨v, o', ho', hd'⟩, _⟩ := I.cel x b q
        rw [hb] at ho'; cases ho'
        exact hc _ hd'
    · exact I.prot p hp

/-- an object that the frame does not look at is changed -/
theorem Inv.other {b : Addr} {o o' : Obj} {fs fs' : Array Value} (I : Inv prog w base h₀ k sc env T ρ A h) (hb : h.get? b = some o) (hd : o.data = .fields fs) (h0 : h₀.get? b = none) (hT : ∀ p ∈ T, p.1 ≠ b)
    (hk : ∀ a q, a ≠ b → h.get? a = some q → h'.get? a = some q) : Inv prog w base h₀ k sc env T ρ A h' := by
  have neL : env.locals ≠ b := by
    rintro e
    obtain ⟨m, o'', es, ep, ho', hd', _⟩ := I.ns
    rw [e, hb] at ho'; cases ho'
    rw [hd] at hd'; cases hd'
  have neC : ∀ x c, env.cells.lookup x = some c → c ≠ b := by
    rintro x c hx rfl
    obtain ⟨_, _, ⟨v, o'', ho', hd'⟩, _⟩ := I.cel x c hx
    rw [hb] at ho'; cases ho'
    rw [hd] at hd'; cases hd'
  have kt : ∀ a items, h.IsTuple a items → h'.IsTuple a items := by
    rintro a items ⟨o'', ho', hc, n, hd'⟩
    exact ⟨o'', hk a o'' (by rintro rfl; rw [hb] at ho'; cases ho'; rw [hd] at hd'; cases hd') ho', hc, n, hd'⟩
  have kl : ∀ a lo, MutAt h env.locals a lo → lo.mine = true → a ≠ b := by
    rintro a lo hM hm rfl
    obtain ⟨o', ho', _, _, hf⟩ := hM.obj hm
    rw [hb] at ho'; cases ho'; exact hf _ hd
  obtain ⟨α, a1, a2, a3⟩ := I.own
  refine ⟨I.names, I.kind, I.glob, I.blt, I.cells, I.len, I.inj, I.lt, fun a q e => hk a q (by rintro rfl; rw [h0] at e; cases e) (I.keep a q e), I.newL, let ⟨m, hm⟩ := I.ns; ⟨m, hm.at' fun o e => hk _ o neL e⟩, fun x c hx => ?_, ⟨α, fun x i lo q1 q2 q3 => ?_, fun i lo q qm => ?_, a3⟩, fun p hp => ?_, ?_, I.frame, I.stk, I.above, I.bse⟩
  · obtain ⟨p1, p2, ⟨v, o'', ho', hd'⟩, p4⟩ := I.cel x c hx
    exact ⟨p1, p2, ⟨v, o'', hk c o'' (neC x c hx) ho', hd'⟩, p4⟩
  · obtain ⟨v, p, q⟩ := a1 x i lo q1 q2 q3
    refine ⟨v, ?_, q.change kt fun hm o ho => hk _ o (kl _ _ (a2 i lo q3 hm).2.2 hm) ho⟩
    · cases p with
      | loc m e1 e2 e3 => exact .loc m e1 (e2.at' fun o e => hk _ o neL e) e3
      | cell c e1 e2 e3 => obtain ⟨o'', ho', hd'⟩ := e3; exact .cell c e1 e2 ⟨o'', hk c o'' (neC x c e2) ho', hd'⟩
  · obtain ⟨p1, p2, p3⟩ := a2 i lo q qm
    exact ⟨p1, p2, p3.at fun o e => hk _ o (kl _ _ p3 qm) e⟩
  · obtain ⟨p1, p2⟩ := I.prot p hp
    exact ⟨hk _ _ (hT p hp) p1, p2⟩
  · obtain ⟨x1, x2, x3, l, L⟩ := I.ok
    refine ⟨x1, x2, x3, l, L.stack, fun a q e => hk a q (by rintro rfl; have := I.bse _ _ e; rw [h0] at this; cases this) (L.stays a q e), funFrames_any (fun a q ha hn => ⟨q, hk a q (by rintro rfl; rw [hb] at ha; cases ha; exact hn _ hd) ha, hn⟩) L.frames⟩
end

section
variable {prog : Program} {w : World} {base h₀ : Heap} {k : Nat} {sc : Sc} {env : Env} {T : List (Addr × Obj)} {ρ : Rho} {A : Around} {E : Value → Shared → Prop} {s : Shared}

/-- a name is stored: data, or a list that was not there at hb -/
theorem store_ok {A' : Around} {hb : Heap} {x : Str} {i : Nat} {v : Value} {lo' : Lo} {a' : Addr} {Q : Unit → Shared → Prop} (I : Inv prog w base h₀ k sc env T ρ A hb)
    (K : ∀ b o, hb.get? b = some o → s.heap.get? b = some o)
    (hx : isVarK (sc.kd.lookup x) = true) (hi : sc.ix.lookup x = some i) (hlo : LoV prog w h₀ s.heap a' v lo') (hnew : lo'.mine = true → hb.get? a' = none)
    (hQ : ∀ h' tk, Inv prog w base h₀ k sc env T (ρ.set i (some lo')) A h' → Tk s.heap h' → (∃ a, Heap.SameBut a s.heap h' ∧ (a = env.locals ∨ ∃ y, env.cells.lookup y = some a)) → Q () { s with heap := h', toks := tk }) : wpAny (model prog w) A' (storeName env x v) Q E s := by
  have I' := I.mono K
  obtain ⟨α, a1, a2, a3⟩ := I.own
  have b1 : ∀ x i lo, isVarK (sc.kd.lookup x) = true → sc.ix.lookup x = some i → ρ.get i = some lo → ∃ v, At s.heap env x v ∧ LoV prog w h₀ s.heap (α i) v lo := fun x i lo q1 q2 q3 =>
    let ⟨v, p, q⟩ := a1 x i lo q1 q2 q3; ⟨v, p.mono K, q.change (fun a items t => IsTuple_keep t K) fun _ o => K _ o⟩
  have b2 : ∀ i lo, ρ.get i = some lo → lo.mine = true → h₀.get? (α i) = none ∧ (∀ p ∈ T, p.1 ≠ α i) ∧ MutAt s.heap env.locals (α i) lo := fun i lo q qm =>
    let ⟨p1, p2, p3⟩ := a2 i lo q qm; ⟨p1, p2, p3.at fun o => K _ o⟩
  have new : lo'.mine = true → h₀.get? a' = none ∧ (∀ p ∈ T, p.1 ≠ a') ∧ a' ≠ env.locals ∧ ∀ j lo, j ≠ i → ρ.get j = some lo → lo.mine = true → α j ≠ a' := fun e => by
    have hn := hnew e
    refine ⟨I.h0_none hn, I.tl_ne a' hn, ?_, fun j lo _ q qm e' => ?_⟩
    · rintro rfl
      obtain ⟨m, o', _, _, ho', _⟩ := I.ns
      rw [hn] at ho'; cases ho'
    obtain ⟨_, _, p3⟩ := a2 j lo q qm
    obtain ⟨o, ho, _⟩ := p3.obj qm
    rw [e', hn] at ho; cases ho
  obtain ⟨m, hm⟩ := I'.ns
  have hkx := I'.kindOf x
  have cases' : sc.kd.lookup x = some .local ∨ sc.kd.lookup x = some .cell := by
    revert hx
    cases sc.kd.lookup x with
    | none => intro h; cases h
    | some q => cases q <;> intro h <;> first | exact .inl rfl | exact .inr rfl | cases h
  rcases cases' with hl | hc
  · refine wpAny_storeName_local (hkx.trans hl) hm (fun h' hn hs => hQ h' _ ?_ (tuple_but hs fun b items t => ns_notuple hm t) ⟨_, hs, .inl rfl⟩) (by rw [I'.kind]; rfl)
    obtain ⟨oL, es, ep, hoL, hdL, _⟩ := id hn
    have kt : ∀ b items, s.heap.IsTuple b items → b ≠ env.locals := fun b items t => ns_notuple hm t
    refine I'.change hx hi hs I.newL (fun p hp => (I'.prot p hp).2.1) hoL (fun vs q => by rw [hdL] at q; cases q) kt ⟨_, hn⟩ (fun y c hc => ?_) (fun y w' hy ha => ?_) (.loc _ (hkx.trans hl) hn (if_pos rfl)) α b1 b2 a3 (fun j lo _ q qm => ?_) ?_ new
    · obtain ⟨_, q, ⟨v', r⟩, _⟩ := I'.cel y c hc
      exact ⟨v', r.sameBut hs q⟩
    · cases ha with
      | loc m' e1 e2 e3 =>
        have := ns_fun e2 hm; subst this
        exact .loc _ e1 hn (by rw [if_neg hy]; exact e3)
      | cell c e1 e2 e3 => exact .cell c e1 e2 (e3.sameBut hs (I'.cel y c e2).2.1)
    · exact (b2 j lo q qm).2.2.1
    · exact hlo.change (tuple_but hs kt) fun e o q => hs.extBut _ o (new e).2.2.1 q
  · obtain ⟨c, hcl⟩ := Option.isSome_iff_exists.mp (I'.cells x hc)
    obtain ⟨q1, q2, ⟨v₀, q3⟩, q4⟩ := I'.cel x c hcl
    refine wpAny_storeName_cell I'.kind (hkx.trans hc) hcl q3 fun h' hn hs => hQ h' s.toks ?_ (tuple_but hs fun b items t => cell_notuple q3 t) ⟨_, hs, .inr ⟨x, hcl⟩⟩
    obtain ⟨oc, hoc, hdc⟩ := id hn
    have kt : ∀ b items, s.heap.IsTuple b items → b ≠ c := fun b items t => cell_notuple q3 t
    refine I'.change hx hi hs q1 (fun p hp e => (I'.prot p hp).2.2 x (by rw [e]; exact hcl)) hoc (fun vs q => by rw [hdc] at q; cases q) kt ⟨m, hm.sameBut hs (Ne.symm q2)⟩ (fun y c' hc' => ?_) (fun y w' hy ha => ?_) (.cell c (hkx.trans hc) hcl hn) α b1 b2 a3 (fun j lo _ q qm => ?_) ?_ new
    · by_cases e : c' = c
      · subst e; exact ⟨_, hn⟩
      · obtain ⟨_, _, ⟨v', r⟩, _⟩ := I'.cel y c' hc'
        exact ⟨v', r.sameBut hs e⟩
    · cases ha with
      | loc m' e1 e2 e3 => exact .loc m' e1 (e2.sameBut hs (Ne.symm q2)) e3
      | cell c' e1 e2 e3 => exact .cell c' e1 e2 (e3.sameBut hs fun e => hy (q4 y (e ▸ e2)))
    · exact (b2 j lo q qm).2.2.nocell qm q3
    · exact hlo.change (tuple_but hs kt) fun e o q => hs.extBut _ o ((hlo.mut (new e).2.2.1).nocell e q3) q
end
end Mine

namespace Mine
open PySem PySem.Calls PyProof.Rows PySem.SeqAt

/-- where a called function's result goes -/
inductive Tg where
  | drop
  | var (x : Nat)
  | item (x : Nat) (j : Nat)
  | unp (xs : List Nat)

set_option genSizeOf false in
set_option genInjectivity false in
mutual
inductive S where
  | asg (x : Nat) (e : E)
  | ownD (x : Nat) (es : Es)
  | ownC (x : Nat) (e : E)
  | ownL (x : Nat) (e : E)
  | unp (xs : List Nat) (e : E)
  | seti (x : Nat) (i e : E)
  | app (x : Nat) (e : E)
  | iff (c : E) (a b : Ss)
  | for1 (x : Nat) (it : It) (body : Ss)
  | forV (x y : Nat) (body : Ss)
  | newD (x : Nat)
  | setd (x : Nat) (i e : E)
  | whl (c : E) (body : Ss)
  | ret (e : E)
  | cont
  | rais (c : Nat)
  | callS (t : Tg) (f : Nat) (es : Es)
inductive Ss where
  | nil
  | cons (s : S) (r : Ss)
end

/-- what a statement ends in -/
inductive R where
  | next (ρ : Rho)
  | cont (ρ : Rho)
  | ret (d : D)
  | err (c : Nat)

/-- a turn of a loop is done -/
noncomputable def afterR (f : Rho → Option R) (r : R) : Option R := match r with
  | .next ρ => f ρ
  | .cont ρ => f ρ
  | .ret d => some (.ret d)
  | .err c => some (.err c)
/-- a statement is done -/
noncomputable def thenR (f : Rho → Option R) (r : R) : Option R := match r with
  | .next ρ => f ρ
  | .cont ρ => some (.cont ρ)
  | .ret d => some (.ret d)
  | .err c => some (.err c)

noncomputable def loopO {α : Type} (body : α → Rho → Option R) : List α → Rho → Option R
  | [], ρ => some (.next ρ)
  | d :: ds, ρ => (body d ρ).bind (afterR fun ρ' => loopO body ds ρ')

/-- a while loop, so many turns at most -/
noncomputable def loopW (cond : Rho → Option Bool) (body : Rho → Option R) : Nat → Rho → Option R
  | 0, _ => none
  | n + 1, ρ => (cond ρ).bind fun t => if t = true then (body ρ).bind (afterR fun ρ' => loopW cond body n ρ') else some (.next ρ)

noncomputable def setAll (ρ : Rho) : List Nat → List D → Rho
  | x :: xs, d :: ds => setAll (ρ.set x (some (.dat d))) xs ds
  | _, _ => ρ

noncomputable def Lo.own? : Lo → Option (List D)
  | .own ds => some ds
  | _ => none
theorem own?_some {lo : Lo} {ds : List D} (h : lo.own? = some ds) : lo = .own ds := by cases lo <;> cases h; rfl
noncomputable def Rho.own? (ρ : Rho) (x : Nat) : Option (List D) := (ρ.get x).bind Lo.own?
theorem Rho.own?_some {ρ : Rho} {x : Nat} {ds : List D} (h : ρ.own? x = some ds) : ρ.get x = some (.own ds) := by
  replace h := ob h
  obtain ⟨lo, h1, h2⟩ := h
  rw [h1, Mine.own?_some h2]
noncomputable def Rho.noOwn (ρ : Rho) : Bool := ρ.all fun o => (o.bind Lo.own?).isNone

/-- may the iterable be walked while the frame's own lists are changed -/
noncomputable def itOk (Φ : Fns) (ρ : Rho) : It → Bool
  | .seq e => ρ.noOwn || ((ev Φ ρ e).bind tupOf).isSome
  | _ => true

noncomputable def putD (ρ : Rho) (x : Nat) (d : D) : Option R := if d.pure = true then some (.next (ρ.set x (some (.dat d)))) else none
noncomputable def putO (ρ : Rho) (x : Nat) (ds : List D) : Option R := if D.pures ds = true then some (.next (ρ.set x (some (.own ds)))) else none
noncomputable def putU (ρ : Rho) (xs : List Nat) (d : D) : Option R := (tupOf d).bind fun ds => if ds.length = xs.length ∧ D.pures ds = true then some (.next (setAll ρ xs ds)) else none
noncomputable def putT (ρ : Rho) (d : D) : Tg → Option R
  | .drop => some (.next ρ)
  | .var x => putD ρ x d
  | .item x j => (tupOf d).bind fun ds => (ds[j]?).bind fun d' => putD ρ x d'
  | .unp xs => putU ρ xs d
noncomputable def outT (ρ : Rho) (t : Tg) (o : Out) : Option R := match o with
  | .ok d => putT ρ d t
  | .err c => some (.err c)
noncomputable def ifT {α : Type} (d : D) (x y : Option α) : Option α := (isTrueD d).bind fun t => if t = true then x else y

mutual
noncomputable def ex (Φ : Fns) (ρ : Rho) : S → Option R
  | .asg x e => (ev Φ ρ e).bind fun d => putD ρ x d
  | .ownD x es => (evs Φ ρ es).bind fun ds => putO ρ x ds
  | .ownC x e => (ev Φ ρ e).bind fun d => (lstOf d).bind fun ds => putO ρ x ds
  | .ownL x e => (ev Φ ρ e).bind fun d => (items d).bind fun ds => putO ρ x ds
  | .unp xs e => (ev Φ ρ e).bind fun d => putU ρ xs d
  | .seti x i e => (ρ.own? x).bind fun ds => (ev Φ ρ i).bind fun y => (ev Φ ρ e).bind fun d => (intOf y).bind fun j => if 0 ≤ j ∧ j < ds.length ∧ d.pure = true then some (.next (ρ.set x (some (.own (ds.set j.toNat d))))) else none
  | .app x e => (ρ.own? x).bind fun ds => (ev Φ ρ e).bind fun d => if d.pure = true ∧ ds.length < lim then some (.next (ρ.set x (some (.own (ds ++ [d]))))) else none
  | .iff c a b => (ev Φ ρ c).bind fun d => ifT d (exs Φ ρ a) (exs Φ ρ b)
  | .for1 x it body => (evIt Φ ρ it).bind fun ds => if itOk Φ ρ it = true then loopO (fun d ρ => exs Φ (ρ.set x (some (.dat d))) body) ds ρ else none
  | .forV x y body => (ρ.get y).bind fun lo => (items lo.val).bind fun ds => if lo.own?.isNone = true ∧ D.pures ds = true then loopO (fun d ρ => exs Φ (ρ.set x (some (.dat d))) body) ds ρ else none
  | .newD x => some (.next (ρ.set x (some (.dic []))))
  | .setd x i e => (ev Φ ρ e).bind fun d => (ρ.dic? x).bind fun kvs => (ev Φ ρ i).bind fun y => (keyD y).bind fun k => if kindOk kvs k = true ∧ flat d = true ∧ kvs.length < lim then some (.next (ρ.set x (some (.dic (putK kvs k d))))) else none
  | .whl c body => loopW (fun ρ => (ev Φ ρ c).bind isTrueD) (fun ρ => exs Φ ρ body) lim ρ
  | .ret e => (ev Φ ρ e).map .ret
  | .cont => some (.cont ρ)
  | .rais _ => none
  | .callS t f es => (evs Φ ρ es).bind fun ds => (Φ f ds).bind fun o => outT ρ t o
noncomputable def exs (Φ : Fns) (ρ : Rho) : Ss → Option R
  | .nil => some (.next ρ)
  | .cons s r => (ex Φ ρ s).bind (thenR fun ρ' => exs Φ ρ' r)
end

/-! views of the program's text -/
noncomputable def idxVars (sc : Sc) : List Expr → Option (List Nat)
  | [] => some []
  | e :: r => (nameOf e).bind fun x => (idxVar sc x).bind fun i => (idxVars sc r).map fun is => i :: is
noncomputable def callOf : Expr → Option (Expr × List Expr × Pos)
  | .Call fn args kws pos => if kws.isEmpty = true then some (fn, args, pos) else none
  | _ => none
theorem callOf_some {e : Expr} {p : Expr × List Expr × Pos} (h : callOf e = some p) : e = .Call p.1 p.2.1 [] p.2.2 := by
  cases e <;> first | exact nns h | exact nnb h | skip
  rename_i fn args kws pos
  replace h := oi h
  obtain ⟨h, rfl⟩ := h
  cases kws with
  | nil => rfl
  | cons => cases h
noncomputable def one {α : Type} : List α → Option α
  | [] => none
  | a :: r => if r.isEmpty = true then some a else none
theorem one_some {α : Type} {l : List α} {a : α} (h : one l = some a) : l = [a] := by
  cases l with
  | nil => cases h
  | cons b r =>
    replace h := oi h
    obtain ⟨h, rfl⟩ := h
    cases r with
    | nil => rfl
    | cons => cases h
noncomputable def two {α : Type} : List α → Option (α × α)
  | [] => none
  | a :: r => (one r).map fun b => (a, b)
theorem two_some {α : Type} {l : List α} {p : α × α} (h : two l = some p) : l = [p.1, p.2] := by
  cases l with
  | nil => cases h
  | cons b r =>
    replace h := om h
    obtain ⟨c, hc, rfl⟩ := h
    rw [one_some hc]
noncomputable def constOf : Expr → Option Const
  | .Constant c _ _ => some c
  | _ => none
theorem constOf_some {e : Expr} {c : Const} (h : constOf e = some c) : ∃ k p, e = .Constant c k p := by
  cases e <;> first | exact nns h | exact nnb h | skip
  cases h; exact ⟨_, _, rfl⟩
noncomputable def cStr : Const → Option Str
  | .str m => some m
  | _ => none
theorem cStr_some {c : Const} {m : Str} (h : cStr c = some m) : c = .str m := by cases c <;> first | (cases h; rfl) | cases h
noncomputable def cNat : Const → Option Nat
  | .int i => if 0 ≤ i then some i.toNat else none
  | _ => none
theorem cNat_some {c : Const} {m : Nat} (h : cNat c = some m) : c = .int m := by
  cases c <;> first | exact nns h | exact nnb h | skip
  rename_i i
  obtain ⟨h0, rfl⟩ := oi (show (if 0 ≤ i then some i.toNat else none) = some m from h)
  rw [Int.toNat_of_nonneg h0]
noncomputable def subOf : Expr → Option (Expr × Expr)
  | .Subscript v i _ => some (v, i)
  | _ => none
theorem subOf_some {e : Expr} {q : Expr × Expr} (h : subOf e = some q) : ∃ p, e = .Subscript q.1 q.2 p := by
  cases e <;> first | exact nns h | exact nnb h | skip
  cases h; exact ⟨_, rfl⟩
noncomputable def listOf : Expr → Option (List Expr)
  | .List es _ => some es
  | _ => none
theorem listOf_some {e : Expr} {q : List Expr} (h : listOf e = some q) : ∃ p, e = .List q p := by
  cases e <;> first | exact nns h | exact nnb h | skip
  cases h; exact ⟨_, rfl⟩
noncomputable def attrOf : Expr → Option (Expr × Str × Pos)
  | .Attribute o m p => some (o, m, p)
  | _ => none
theorem attrOf_some {e : Expr} {q : Expr × Str × Pos} (h : attrOf e = some q) : e = .Attribute q.1 q.2.1 q.2.2 := by
  cases e <;> first | exact nns h | exact nnb h | skip
  cases h; rfl
/-- no comprehension: its value is stored in the plain way -/
noncomputable def plainE : Expr → Bool
  | .Constant .. => true
  | .Name .. => true
  | .BinOp .. => true
  | .UnaryOp .. => true
  | .BoolOp .. => true
  | .Compare .. => true
  | .Tuple .. => true
  | .Subscript .. => true
  | .Call .. => true
  | _ => false
noncomputable def isEmptyDict : Expr → Bool
  | .Dict ks vs _ => ks.isEmpty && vs.isEmpty
  | _ => false
noncomputable def isNS : Expr → Bool
  | .Name .. => true
  | .Subscript .. => true
  | _ => false
/-- a comprehension whose list goes into the name x -/
noncomputable def compFor (sc : Sc) (x : Str) (px : Pos) : Expr → Bool
  | .ListComp _ _ scope cpos => sc.kd.lookup x == some .local && px.line == cpos.line && !(scope.names.any fun y => y.1 == x && (y.2 == .local || y.2 == .cell))
  | _ => false

noncomputable def asCall (fns : List Str) (n : Nat) (sc : Sc) (v : Expr) : Option (Nat × Es) :=
  (callOf v).bind fun c => (nameOf c.1).bind fun f => if glob sc f = true ∧ c.2.1.isEmpty = false then (fns.idxOf? f).bind fun i => (cEs (cE fns n sc) c.2.1).map fun es => (i, es) else none
noncomputable def asItem (fns : List Str) (n : Nat) (sc : Sc) (v : Expr) : Option (Nat × Nat × Es) :=
  (subOf v).bind fun p => (constOf p.2).bind fun c => (cNat c).bind fun j => (asCall fns n sc p.1).map fun q => (j, q)
noncomputable def asList (sc : Sc) (v : Expr) : Option Expr :=
  (callOf v).bind fun c => if nameIs "list" c.1 = true ∧ glob sc "list" = true then one c.2.1 else none
noncomputable def cAsg (fns : List Str) (n : Nat) (sc : Sc) (x : Str) (px : Pos) (i : Nat) (v : Expr) : Option S :=
  match asCall fns n sc v with
  | some q => some (.callS (.var i) q.1 q.2)
  | none => match listOf v with
    | some es => (cEs (cE fns n sc) es).bind fun es' => if es'.size ≤ 1000 then some (.ownD i es') else none
    | none => match asItem fns n sc v with
      | some q => some (.callS (.item i q.1) q.2.1 q.2.2)
      | none => match asList sc v with
        | some a => (cE fns n sc a).map (.ownL i)
        | none => if isEmptyDict v = true then some (.newD i) else (cE fns n sc v).bind fun e => if plainE v = true then some (.asg i e) else if compFor sc x px v = true then some (.ownC i e) else none
noncomputable def cUnp (fns : List Str) (n : Nat) (sc : Sc) (is : List Nat) (v : Expr) : Option S :=
  match asCall fns n sc v with
  | some q => some (.callS (.unp is) q.1 q.2)
  | none => if isNS v = true then (cE fns n sc v).map (.unp is) else none
noncomputable def cTgt (fns : List Str) (n : Nat) (sc : Sc) (v : Expr) : Expr → Option S
  | .Name x px => (idxVar sc x).bind fun i => cAsg fns n sc x px i v
  | .Tuple es _ _ => (idxVars sc es).bind fun is => cUnp fns n sc is v
  | .Subscript o i _ => if plainE v = true then (nameOf o).bind fun x => (idxVar sc x).bind fun ix => (cE fns n sc i).bind fun i' => (cE fns n sc v).map fun v' => if dictNames.contains x = true then .setd ix i' v' else .seti ix i' v' else none
  | _ => none
noncomputable def cFor (fns : List Str) (n : Nat) (sc : Sc) (it : Expr) (b : Ss) : Expr → Option S
  | .Name x _ => (idxVar sc x).bind fun i => match nameOf it with
    | some y => (idxVar sc y).map fun j => .forV i j b
    | none => (cIt (cE fns n sc) sc it).map fun it' => .for1 i it' b
  | _ => none
noncomputable def cApp (fns : List Str) (n : Nat) (sc : Sc) (v : Expr) : Option S :=
  (callOf v).bind fun c => (attrOf c.1).bind fun q => if q.2.1 = ("append" : Str) ∧ (q.2.2.endLine == c.2.2.line) = true then (nameOf q.1).bind fun x => (idxVar sc x).bind fun i => (one c.2.1).bind fun a => (cE fns n sc a).map fun e => .app i e else none
noncomputable def cExp (fns : List Str) (n : Nat) (sc : Sc) (v : Expr) : Option S :=
  match asCall fns n sc v with
  | some q => some (.callS .drop q.1 q.2)
  | none => cApp fns n sc v

mutual
noncomputable def cS (fns excs : List Str) (n : Nat) (sc : Sc) : Stmt → Option S
  | .Return e _ => e.bind fun e => (cE fns n sc e).map .ret
  | .Continue _ => some .cont
  | .If t a b _ => (cE fns n sc t).bind fun c => (cSs fns excs n sc a).bind fun x => (cSs fns excs n sc b).map fun y => .iff c x y
  | .Assign ts v _ => (one ts).bind fun t => cTgt fns n sc v t
  | .For t it body orelse _ => if orelse.isEmpty = true then (cSs fns excs n sc body).bind fun b => cFor fns n sc it b t else none
  | .While t body orelse _ => if orelse.isEmpty = true then (cE fns n sc t).bind fun c => (cSs fns excs n sc body).map fun b => .whl c b else none
  | .Expr v _ => cExp fns n sc v
  | .Raise _ _ _ => some (.rais 0)
  | _ => none
noncomputable def cSs (fns excs : List Str) (n : Nat) (sc : Sc) : List Stmt → Option Ss
  | [] => some .nil
  | s :: r => (cS fns excs n sc s).bind fun a => (cSs fns excs n sc r).map fun b => .cons a b
end

noncomputable def scOf (scope : Scope) : Sc := { kd := scope.names, ix := scope.names.zipIdx.map fun p => (p.1.1, p.2), n := scope.names.length }
end Mine

namespace Mine
open PySem

noncomputable def rhoL (names : List (Str × NameKind)) (ps : List Str) (los : List Lo) : Rho := names.map fun p => (ps.zip los).lookup p.1
noncomputable abbrev rho0 (names : List (Str × NameKind)) (ps : List Str) (ds : List D) : Rho := rhoL names ps (ds.map Lo.arg)

/-- a compiled def, or one that is given whole -/
structure Fn where
  ps : List Str
  names : List (Str × NameKind)
  body : Ss
  ext : Option (Nat → Fns → List D → Option Out)
abbrev Prg := List Fn

/-- what a def's body gives back -/
noncomputable def retR (keep : Bool) (r : R) : Option Out := match r with
  | .ret d => some (.ok d)
  | .next _ => some (.ok .none)
  | .err c => if keep = true then some (.err c) else none
  | .cont _ => none
noncomputable def fnRun (keep : Bool) (Φ : Fns) (f : Fn) (ds : List D) : Option Out :=
  if ds.length = f.ps.length then (exs Φ (rho0 f.names f.ps ds) f.body).bind (retR keep) else none
noncomputable def run (keep : Bool) (P : Prg) : Nat → Fns
  | 0 => fun _ _ => none
  | n + 1 => fun f ds => (P[f]?).bind fun g => match g.ext with
    | none => fnRun keep (run keep P n) g ds
    | some X => X n (run keep P n) ds
end Mine

namespace Mine
open PySem PySem.Calls PyProof.Rows PySem.SeqAt

noncomputable def Same (s s' : Shared) : Prop := ∃ h tk, s' = { s with heap := h, toks := tk }
theorem Same.refl (s : Shared) : Same s s := ⟨s.heap, s.toks, rfl⟩
theorem Same.trans {s s' s'' : Shared} (x : Same s s') (y : Same s' s'') : Same s s'' := by
  obtain ⟨h, t, rfl⟩ := x; obtain ⟨h', t', rfl⟩ := y; exact ⟨h', t', rfl⟩
theorem Same.keeps {s s' : Shared} (x : Keeps s s') : Same s s' := by
  obtain ⟨h, t, rfl, _⟩ := x; exact ⟨h, t, rfl⟩
theorem Same.mk' (s : Shared) (h : Heap) (tk : Nat) : Same s { s with heap := h, toks := tk } := ⟨h, tk, rfl⟩
theorem Tk.refl (h : Heap) : Tk h h := fun _ _ x => x
theorem Tk.trans {h h' h'' : Heap} (x : Tk h h') (y : Tk h' h'') : Tk h h'' := fun a i t => y a i (x a i t)
theorem Tk.mono {h h' : Heap} (e : ∀ b o, h.get? b = some o → h'.get? b = some o) : Tk h h' := fun a i t => IsTuple_keep t e

section
variable {prog : Program} {w : World} {A : Around} {E : Value → Shared → Prop} {s : Shared}
theorem mapSeq_set_plain (its : Array Value) (n j : Nat) (x : Value) :
    ∃ n', Obj.mapSeq (·.setIfInBounds j x) { cls := .type "list", data := .seq its n } = { cls := .type "list", data := .seq (its.setIfInBounds j x) n' } := by
  exact ⟨_, by simp only [Obj.mapSeq]; rfl⟩

theorem setItem_plain {l : Addr} {items : Array Value} {k : Int} {t : Tok} {v : Value} {Q : Unit → Shared → Prop} (hl : s.heap.PlainList l items)
    (h0 : 0 ≤ k) (hfit : k < 2 ^ 63) (hn : k < items.size)
    (hQ : ∀ h', h'.PlainList l (items.setIfInBounds k.toNat v) → Heap.SameBut l s.heap h' → Q () { s with heap := h' }) :
    wpAny (model prog w) A (setItem (.ref l) (.int k t) v) Q E s := by
  obtain ⟨ne, ho⟩ := id hl
  unfold setItem
  try with_reducible refine wpAny_holding ?_
  first | refine wpAny_bind (wpAny_pure ?_) | skip
  refine wpAny_bind (wpAny_sequenceKey hl.isList.typeIs (by decide) ?_)
  refine wpAny_bind (wpAny_callSpecial?_slot (name := Str.ofString "__setitem__") hl.isList.typeIs slot_list_setitem
    (wpAny_call_entry slot_list_setitem hl.isList.typeIs entry_list_setitem ?_ (args_list_setitem _ _ _)))
  show wpAny _ _ (Builtin.List.listSubscript? (.int k t) >>= _) _ _ s
  refine wpAny_bind (wpAny_listSubscript_int (fitsIndex_of h0 hfit) ?_)
  clear hfit
  obtain ⟨j, rfl⟩ := Int.eq_ofNat_of_zero_le h0
  have hj : j < items.size := by omega
  have hx' : items[j]? = some items[j] := Array.getElem?_eq_getElem hj
  show wpAny _ _ ((seqItemAt l j >>= fun r => pure (r.map (j, ·))) >>= _) _ _ s
  refine wpAny_bind (wpAny_bind (wpAny_seqItemAt ho rfl (wpAny_pure ?_)))
  rw [hx']
  show wpAny _ _ (setSeqItemAt l j v >>= _) _ _ s
  obtain ⟨n', hd'⟩ := mapSeq_set_plain items ne j v
  have hfin : (s.heap.update l (Obj.mapSeq (·.setIfInBounds j v))).PlainList l (items.setIfInBounds j v) :=
    ⟨n', by rw [Heap.get?_update_self _ ho (by rw [hd']; rfl), hd']⟩
  refine wpAny_bind (wpAny_setSeqItemAt ho rfl ?_)
  first
    | exact wpAny_bind (wpAny_pure (wpAny_pure ⟨.none, rfl, wpAny_pure (hQ _ hfin (Heap.SameBut.update ..))⟩))
    | exact wpAny_pure ⟨.none, rfl, wpAny_pure (hQ _ hfin (Heap.SameBut.update ..))⟩
end

section
variable {prog : Program} {w : World} {base h₀ h h' : Heap} {k : Nat} {sc : Sc} {env : Env} {T : List (Addr × Obj)} {ρ : Rho} {A : Around}

/-- an object of the frame's own may be changed -/
theorem mine_at (I : Inv prog w base h₀ k sc env T ρ A h) {x : Str} {i : Nat} {lo : Lo} (hx : isVarK (sc.kd.lookup x) = true) (hi : sc.ix.lookup x = some i) (hρ : ρ.get i = some lo) (hm : lo.mine = true) :
    ∃ a, At h env x (.ref a) ∧ LoV prog w h₀ h a (.ref a) lo ∧ MutAt h env.locals a lo ∧
      ∀ h₂ h' lo' o', (∀ b o, h.get? b = some o → h₂.get? b = some o) → Heap.SameBut a h₂ h' → h'.get? a = some o' → (∀ vs, o'.data ≠ .fields vs) → ((∀ b items, h₂.IsTuple b items → h'.IsTuple b items) → LoV prog w h₀ h' a (.ref a) lo') →
        Inv prog w base h₀ k sc env T (ρ.set i (some lo')) A h' ∧ Tk h₂ h' := by
  obtain ⟨α, a1, a2, a3⟩ := I.own
  obtain ⟨v, p, q⟩ := a1 x i _ hx hi hρ
  have hv : v = .ref (α i) := by
    cases lo with
    | own ds => exact q.1
    | dic kvs => exact q.1
    | dat d => cases hm
    | arg d => cases hm
    | ob b => cases hm
  subst hv
  obtain ⟨e1, e2, eM⟩ := a2 i lo hρ hm
  refine ⟨α i, p, q, eM, fun h₂ h' lo' o' K hs ho' hf hlo => ?_⟩
  have I₂ := I.mono K
  have b1 : ∀ x i lo, isVarK (sc.kd.lookup x) = true → sc.ix.lookup x = some i → ρ.get i = some lo → ∃ v, At h₂ env x v ∧ LoV prog w h₀ h₂ (α i) v lo := fun x i lo q1 q2 q3 =>
    let ⟨v, p, q⟩ := a1 x i lo q1 q2 q3; ⟨v, p.mono K, q.change (fun a items t => IsTuple_keep t K) fun _ o => K _ o⟩
  have b2 : ∀ i lo, ρ.get i = some lo → lo.mine = true → h₀.get? (α i) = none ∧ (∀ p ∈ T, p.1 ≠ α i) ∧ MutAt h₂ env.locals (α i) lo := fun i lo q qm =>
    let ⟨p1, p2, p3⟩ := a2 i lo q qm; ⟨p1, p2, p3.at fun o => K _ o⟩
  have eM₂ : MutAt h₂ env.locals (α i) lo := eM.at fun o => K _ o
  have kt : ∀ b items, h₂.IsTuple b items → b ≠ α i := fun b items t => eM₂.notuple hm t
  obtain ⟨m, hns⟩ := I₂.ns
  have hLa : env.locals ≠ α i := Ne.symm eM.1
  have hCa : ∀ y c, env.cells.lookup y = some c → c ≠ α i := fun y c hc => by
    obtain ⟨_, _, ⟨v', r⟩, _⟩ := I₂.cel y c hc
    exact Ne.symm (eM₂.nocell hm r)
  have atk : ∀ y w, At h₂ env y w → At h' env y w := by
    intro y w ha
    cases ha with
    | loc m' e1 e2 e3 => exact .loc m' e1 (e2.sameBut hs hLa) e3
    | cell c e1 e2 e3 => exact .cell c e1 e2 (e3.sameBut hs (hCa y c e2))
  refine ⟨I₂.change hx hi hs e1 e2 ho' hf kt ⟨m, hns.sameBut hs hLa⟩ (fun y c hc => ?_) (fun y w _ ha => atk y w ha) (atk x _ (p.mono K)) α b1 b2 a3 (fun j l2 hj q qm => a3 j i l2 lo q hρ qm hm hj) (hlo (tuple_but hs kt)) ?_, tuple_but hs kt⟩
  · obtain ⟨_, _, ⟨v', r⟩, _⟩ := I₂.cel y c hc
    exact ⟨v', r.sameBut hs (hCa y c hc)⟩
  · intro _
    exact ⟨e1, e2, eM.1, fun j l2 hj q qm => a3 j i l2 lo q hρ qm hm hj⟩

/-- an own list may be written anew -/
theorem own_at (I : Inv prog w base h₀ k sc env T ρ A h) {x : Str} {i : Nat} {ds : List D} (hx : isVarK (sc.kd.lookup x) = true) (hi : sc.ix.lookup x = some i) (hρ : ρ.get i = some (.own ds)) :
    ∃ a vs, At h env x (.ref a) ∧ h.PlainList a (List.toArray vs) ∧ Vs h vs ds ∧ D.pures ds = true ∧ ds.length ≤ lim ∧
      ∀ h₂ h' vs' ds', (∀ b o, h.get? b = some o → h₂.get? b = some o) → Heap.SameBut a h₂ h' → h'.PlainList a (List.toArray vs') → Vs h₂ vs' ds' → D.pures ds' = true → ds'.length ≤ lim →
        Inv prog w base h₀ k sc env T (ρ.set i (some (.own ds'))) A h' ∧ Tk h₂ h' := by
  obtain ⟨a, p, ⟨_, vs, q1, q2, q3, q4⟩, _, chg⟩ := mine_at I hx hi hρ rfl
  refine ⟨a, vs, p, q1, q2, q3, q4, fun h₂ h' vs' ds' K hs hl hv hp hle => ?_⟩
  obtain ⟨n', ho'⟩ := id hl
  exact chg h₂ h' (.own ds') _ K hs ho' (fun vs q => by cases q) fun kt => ⟨rfl, vs', hl, hv.pureKeep kt hp, hp, hle⟩
/-- an own dict may be written anew -/
theorem dic_at (I : Inv prog w base h₀ k sc env T ρ A h) {x : Str} {i : Nat} {kvs : List (Ky × D)} (hx : isVarK (sc.kd.lookup x) = true) (hi : sc.ix.lookup x = some i) (hρ : ρ.get i = some (.dic kvs)) :
    ∃ a, At h env x (.ref a) ∧ DicAt prog w h a kvs ∧
      ∀ h₂ h' kvs', (∀ b o, h.get? b = some o → h₂.get? b = some o) → Heap.SameBut a h₂ h' → DicAt prog w h' a kvs' →
        Inv prog w base h₀ k sc env T (ρ.set i (some (.dic kvs'))) A h' ∧ Tk h₂ h' := by
  obtain ⟨a, p, ⟨_, q⟩, _, chg⟩ := mine_at I hx hi hρ rfl
  refine ⟨a, p, q, fun h₂ h' kvs' K hs hD => ?_⟩
  obtain ⟨o', es, ep, ho', _, hd'⟩ := hD.obj
  exact chg h₂ h' (.dic kvs') o' K hs ho' (fun vs q => by rw [hd'] at q; cases q) fun _ => ⟨rfl, hD⟩

theorem funFrames_ne {C : Addr} (hk : ∀ a q, a ≠ C → h.get? a = some q → h'.get? a = some q) : ∀ {l : List Env}, h.FunFrames base l → (∀ e ∈ l, e.frame ≠ some C) → h'.FunFrames base l
  | [], _, _ => trivial
  | env :: _, ⟨hf, ⟨L, o, e1, e2, e3, e4⟩, hr⟩, hn => ⟨hf, ⟨L, o, e1, e2, hk L o (fun q => hn env (.head _) (q ▸ e1)) e3, e4⟩, funFrames_ne hk hr fun e he => hn e (.tail _ he)⟩

/-- an object that is none of the frame's is changed -/
theorem Inv.aside {C : Addr} {oC : Obj} (I : Inv prog w base h₀ k sc env ((C, oC) :: T) ρ A h) (hk : ∀ a q, a ≠ C → h.get? a = some q → h'.get? a = some q) (h0 : h₀.get? C = none) (hT : ∀ p ∈ T, p.1 ≠ C)
    (htup : ∀ a items, h.IsTuple a items → a ≠ C) (hfr : ∀ l, A.frames = some l → ∀ e ∈ l, e.frame ≠ some C) : Inv prog w base h₀ k sc env T ρ A h' ∧ Tk h h' := by
  have kt : ∀ a items, h.IsTuple a items → h'.IsTuple a items := by
    rintro a items t
    have := htup a items t
    obtain ⟨o'', ho', hc, n, hd'⟩ := t
    exact ⟨o'', hk a o'' this ho', hc, n, hd'⟩
  refine ⟨?_, kt⟩
  have neL : env.locals ≠ C := Ne.symm (I.prot _ (.head _)).2.1
  have neC : ∀ x c, env.cells.lookup x = some c → c ≠ C := fun x c hx e => (I.prot _ (.head _)).2.2 x (e ▸ hx)
  obtain ⟨α, a1, a2, a3⟩ := I.own
  refine ⟨I.names, I.kind, I.glob, I.blt, I.cells, I.len, I.inj, I.lt, fun a q e => hk a q (by rintro rfl; rw [h0] at e; cases e) (I.keep a q e), I.newL, let ⟨m, hm⟩ := I.ns; ⟨m, hm.at' fun o e => hk _ o neL e⟩, fun x c hx => ?_, ⟨α, fun x i lo q1 q2 q3 => ?_, fun i lo q qm => ?_, a3⟩, fun p hp => ?_, ?_, I.frame, I.stk, I.above, I.bse⟩
  · obtain ⟨p1, p2, ⟨v, o'', ho', hd'⟩, p4⟩ := I.cel x c hx
    exact ⟨p1, p2, ⟨v, o'', hk c o'' (neC x c hx) ho', hd'⟩, p4⟩
  · obtain ⟨v, p, q⟩ := a1 x i lo q1 q2 q3
    refine ⟨v, ?_, q.change kt fun hm o ho => hk _ o (Ne.symm ((a2 i lo q3 hm).2.1 _ (.head _))) ho⟩
    · cases p with
      | loc m e1 e2 e3 => exact .loc m e1 (e2.at' fun o e => hk _ o neL e) e3
      | cell c e1 e2 e3 => obtain ⟨o'', ho', hd'⟩ := e3; exact .cell c e1 e2 ⟨o'', hk c o'' (neC x c e2) ho', hd'⟩
  · obtain ⟨p1, p2, p3⟩ := a2 i lo q qm
    exact ⟨p1, fun p hp => p2 p (.tail _ hp), p3.at fun o e => hk _ o (Ne.symm (p2 _ (.head _))) e⟩
  · obtain ⟨p1, p2⟩ := I.prot p (.tail _ hp)
    exact ⟨hk _ _ (hT p hp) p1, p2⟩
  · obtain ⟨x1, x2, x3, l, L⟩ := I.ok
    exact ⟨x1, x2, x3, l, L.stack, fun a q e => hk a q (by rintro rfl; have := I.bse _ _ e; rw [h0] at this; cases this) (L.stays a q e), funFrames_ne hk L.frames (hfr l L.stack)⟩

/-- objects that are new are guarded -/
theorem Inv.guardN {Cs : List (Addr × Obj)} (I : Inv prog w base h₀ k sc env T ρ A h) (K : ∀ b o, h.get? b = some o → h'.get? b = some o) (hC : ∀ p ∈ Cs, h.get? p.1 = none) (ho : ∀ p ∈ Cs, h'.get? p.1 = some p.2) : Inv prog w base h₀ k sc env (Cs ++ T) ρ A h' := by
  have I' := I.mono K
  obtain ⟨α, a1, a2, a3⟩ := I.own
  refine ⟨I'.names, I'.kind, I'.glob, I'.blt, I'.cells, I'.len, I'.inj, I'.lt, I'.keep, I'.newL, I'.ns, I'.cel, ⟨α, fun x i lo q1 q2 q3 => ?_, fun i lo q qm => ?_, a3⟩, fun p hp => ?_, I'.ok, I'.frame, I'.stk, I'.above, I'.bse⟩
  · obtain ⟨v, p, q⟩ := a1 x i lo q1 q2 q3
    exact ⟨v, p.mono K, q.change (fun a items t => IsTuple_keep t K) fun _ o => K _ o⟩
  · obtain ⟨p1, p2, p3⟩ := a2 i lo q qm
    refine ⟨p1, fun p hp => ?_, p3.at fun o => K _ o⟩
    rcases List.mem_append.mp hp with hp | hp
    · intro e
      obtain ⟨o', ho', _⟩ := p3.obj qm
      rw [← e, hC p hp] at ho'; cases ho'
    · exact p2 p hp
  · rcases List.mem_append.mp hp with hp | hp
    · refine ⟨ho p hp, fun q => ?_, fun x q => ?_⟩
      · obtain ⟨m, o', _, _, ho', _⟩ := I.ns
        rw [← q, hC p hp] at ho'; cases ho'
      · obtain ⟨_, _, ⟨v, o', ho', _⟩, _⟩ := I.cel x p.1 q
        rw [hC p hp] at ho'; cases ho'
    · exact I'.prot p hp
theorem Inv.guardNew {C : Addr} {o : Obj} (I : Inv prog w base h₀ k sc env T ρ A h) (K : ∀ b o, h.get? b = some o → h'.get? b = some o) (hC : h.get? C = none) (ho : h'.get? C = some o) : Inv prog w base h₀ k sc env ((C, o) :: T) ρ A h' :=
  I.guardN (Cs := [(C, o)]) K (fun p hp => by rw [List.mem_singleton.mp hp]; exact hC) (fun p hp => by rw [List.mem_singleton.mp hp]; exact ho)
/-- what is guarded has changed, by hand -/
theorem Inv.moved {Cs Cs' : List (Addr × Obj)} (I : Inv prog w base h₀ k sc env (Cs ++ T) ρ A h) (hf : ∀ p ∈ Cs', ∃ q ∈ Cs, q.1 = p.1) (hk : ∀ b o, (∀ p ∈ Cs, b ≠ p.1) → h.get? b = some o → h'.get? b = some o) (ho : ∀ p ∈ Cs', h'.get? p.1 = some p.2)
    (h0 : ∀ p ∈ Cs, h₀.get? p.1 = none) (hT : ∀ p ∈ T, ∀ q ∈ Cs, p.1 ≠ q.1) (kt : Tk h h') (ok : Ok base k A h') : Inv prog w base h₀ k sc env (Cs' ++ T) ρ A h' := by
  have neL : ∀ p ∈ Cs, env.locals ≠ p.1 := fun p hp => Ne.symm (I.prot p (List.mem_append_left _ hp)).2.1
  have neC : ∀ x c, env.cells.lookup x = some c → ∀ p ∈ Cs, c ≠ p.1 := fun x c hx p hp e => (I.prot p (List.mem_append_left _ hp)).2.2 x (e ▸ hx)
  obtain ⟨α, a1, a2, a3⟩ := I.own
  refine ⟨I.names, I.kind, I.glob, I.blt, I.cells, I.len, I.inj, I.lt, fun a q e => hk a q (fun p hp r => by rw [r, h0 p hp] at e; cases e) (I.keep a q e), I.newL, let ⟨m, hm⟩ := I.ns; ⟨m, hm.at' fun o e => hk _ o neL e⟩, fun x c hx => ?_, ⟨α, fun x i lo q1 q2 q3 => ?_, fun i lo q qm => ?_, a3⟩, fun p hp => ?_, ok, I.frame, I.stk, I.above, I.bse⟩
  · obtain ⟨p1, p2, ⟨v, o'', ho', hd'⟩, p4⟩ := I.cel x c hx
    exact ⟨p1, p2, ⟨v, o'', hk c o'' (neC x c hx) ho', hd'⟩, p4⟩
  · obtain ⟨v, p, q⟩ := a1 x i lo q1 q2 q3
    refine ⟨v, ?_, q.change kt fun hm o ho => hk _ o (fun p hp => Ne.symm ((a2 i lo q3 hm).2.1 p (List.mem_append_left _ hp))) ho⟩
    cases p with
    | loc m e1 e2 e3 => exact .loc m e1 (e2.at' fun o e => hk _ o neL e) e3
    | cell c e1 e2 e3 => obtain ⟨o'', ho', hd'⟩ := e3; exact .cell c e1 e2 ⟨o'', hk c o'' (neC x c e2) ho', hd'⟩
  · obtain ⟨p1, p2, p3⟩ := a2 i lo q qm
    refine ⟨p1, fun p hp => ?_, p3.at fun o e => hk _ o (fun p hp => Ne.symm (p2 p (List.mem_append_left _ hp))) e⟩
    rcases List.mem_append.mp hp with hp | hp
    · obtain ⟨r, hr, e⟩ := hf p hp
      rw [← e]; exact p2 r (List.mem_append_left _ hr)
    · exact p2 p (List.mem_append_right _ hp)
  · rcases List.mem_append.mp hp with hp | hp
    · obtain ⟨r, hr, e⟩ := hf p hp
      rw [← e]
      exact ⟨e ▸ ho p hp, (I.prot r (List.mem_append_left _ hr)).2⟩
    · obtain ⟨p1, p2⟩ := I.prot p (List.mem_append_right _ hp)
      exact ⟨hk _ _ (hT p hp) p1, p2⟩

theorem Inv.frames_ne (I : Inv prog w base h₀ k sc env T ρ A h) {C : Addr} (hC : h.get? C = none) : ∀ l, A.frames = some l → ∀ e ∈ l, e.frame ≠ some C := by
  obtain ⟨x1, x2, x3, l, L⟩ := I.ok
  intro l' hl e he hf
  rw [L.stack] at hl; cases hl
  have := (L.frames.mem (List.mem_filterMap.mpr ⟨e, he, hf⟩)).2
  obtain ⟨o, ho, _⟩ := this
  rw [hC] at ho; cases ho
end

section
variable {prog : Program} {w : World} {base : Heap} {fns : List Str} {mg mb : Str → Option Value} {fa : Nat → Addr} {Φ : Fns} {k : Nat}

noncomputable def FinR (prog : Program) (w : World) (base h₀ : Heap) (k : Nat) (sc : Sc) (env : Env) (T : List (Addr × Obj)) (A : Around) (s : Shared) (r : R) (fl : Flow) (s' : Shared) : Prop :=
  Same s s' ∧ Tk s.heap s'.heap ∧ match r with
    | .next ρ => fl = .next ∧ Inv prog w base h₀ k sc env T ρ A s'.heap
    | .cont ρ => fl = .cont ∧ Inv prog w base h₀ k sc env T ρ A s'.heap
    | .ret d => ∃ v ρ, fl = .ret v ∧ V s'.heap v d ∧ Inv prog w base h₀ k sc env T ρ A s'.heap
    | .err _ => False

theorem FinR.after {h₀ : Heap} {sc : Sc} {env : Env} {T : List (Addr × Obj)} {A : Around} {s s₁ s' : Shared} {r : R} {fl : Flow} (h : Same s s₁) (t : Tk s.heap s₁.heap) (x : FinR prog w base h₀ k sc env T A s₁ r fl s') : FinR prog w base h₀ k sc env T A s r fl s' :=
  ⟨h.trans x.1, t.trans x.2.1, x.2.2⟩

abbrev RZt := Heap → Env → Around → Nat → Value → Heap → Prop

noncomputable def XOK (prog : Program) (w : World) (base : Heap) (Φ : Fns) (k : Nat) (RZ : RZt) (sc : Sc) (st : Stmt) (st' : S) : Prop :=
  ∀ h₀ env T ρ A s r Q E, Inv prog w base h₀ k sc env T ρ A s.heap → PassesOwn (model prog w) A env E → ex Φ ρ st' = some r → (∀ fl s', FinR prog w base h₀ k sc env T A s r fl s' → Q fl s') →
    (∀ c e s', r = .err c → Same s s' → RZ h₀ env A c e s'.heap → E e s') → wpAny (model prog w) A (exec st env) Q E s
noncomputable def XsOK (prog : Program) (w : World) (base : Heap) (Φ : Fns) (k : Nat) (RZ : RZt) (sc : Sc) (st : List Stmt) (st' : Ss) : Prop :=
  ∀ h₀ env T ρ A s r Q E, Inv prog w base h₀ k sc env T ρ A s.heap → PassesOwn (model prog w) A env E → exs Φ ρ st' = some r → (∀ fl s', FinR prog w base h₀ k sc env T A s r fl s' → Q fl s') →
    (∀ c e s', r = .err c → Same s s' → RZ h₀ env A c e s'.heap → E e s') → wpAny (model prog w) A (execs st env) Q E s

structure Errs (prog : Program) (w : World) (base : Heap) (Φ : Fns) (fa : Nat → Addr) (k : Nat) (excs : List Str) (RZ : RZt) : Prop where
  call : ∀ (sc : Sc) f ds c h₀ env T ρ A s vs, Φ f ds = some (.err c) → Inv prog w base h₀ k sc env T ρ A s.heap → Vs s.heap vs ds →
    wpAny (model prog w) A (call (.ref (fa f)) vs) (fun _ _ => False) (fun e s' => Same s s' ∧ RZ h₀ env A c e s'.heap) s
end
end Mine

namespace Mine
open PySem PySem.Calls PyProof.Rows PySem.SeqAt

theorem idxVars_cons {sc : Sc} {e : Expr} {r : List Expr} {is : List Nat} (h : idxVars sc (e :: r) = some is) : ∃ x p i is', e = .Name x p ∧ idxVar sc x = some i ∧ idxVars sc r = some is' ∧ is = i :: is' := by
  replace h := ob h
  obtain ⟨x, hx, h1⟩ := h
  replace h1 := ob h1
  obtain ⟨i, hi, h2⟩ := h1
  replace h2 := om h2
  obtain ⟨is', hs, rfl⟩ := h2
  obtain ⟨p, rfl⟩ := nameOf_some hx
  exact ⟨x, p, i, is', rfl, hi, hs, rfl⟩

section
variable {prog : Program} {w : World} {base h₀ : Heap} {fns : List Str} {mg mb : Str → Option Value} {fa : Nat → Addr} {Φ : Fns} {k : Nat} {sc : Sc} {env : Env} {T : List (Addr × Obj)} {ρ : Rho} {A : Around} {E : Value → Shared → Prop} {s : Shared}

/-- a name gets data -/
theorem put_ok {A' : Around} {s₁ : Shared} {x : Str} {i : Nat} {v : Value} {d : D} {Q : Unit → Shared → Prop} (I : Inv prog w base h₀ k sc env T ρ A s.heap) (hx : idxVar sc x = some i) (K : Keeps s s₁) (hv : V s₁.heap v d) (hp : d.pure = true)
    (hQ : ∀ s', FinR prog w base h₀ k sc env T A s (.next (ρ.set i (some (.dat d)))) .next s' → Q () s') : wpAny (model prog w) A' (storeName env x v) Q E s₁ := by
  obtain ⟨h1, h2⟩ := idxVar_some hx
  refine store_ok (lo' := .dat d) (a' := 0) I (keeps_heap K) h1 h2 ⟨hv, hp⟩ (fun e => by cases e) fun h' tk I' t _ => hQ _ ⟨(Same.keeps K).trans (Same.mk' _ _ _), (Tk.mono (keeps_heap K)).trans t, rfl, I'⟩

theorem asg_ok {x : Str} {px pos : Pos} {value : Expr} {i : Nat} {d : D} {Q : Flow → Shared → Prop} (I : Inv prog w base h₀ k sc env T ρ A s.heap) (hx : idxVar sc x = some i) (hs : swapsWith value (some (.Name x px)) pos.line env = pure false)
    (he : wpAny (model prog w) A (eval value env) (Post s d) E s) (hp : d.pure = true) (hQ : ∀ fl s', FinR prog w base h₀ k sc env T A s (.next (ρ.set i (some (.dat d)))) fl s' → Q fl s') :
    wpAny (model prog w) A (exec (.Assign [.Name x px] value pos) env) Q E s :=
  wpAny_Assign_Name (wpAny_mono he (fun v s₁ q => put_ok I hx q.1 q.2 hp fun s' f => hQ _ _ f) fun _ _ x => x) hs

/-- a name gets a fresh list -/
theorem putL_ok {hb : Heap} {s₁ : Shared} {x : Str} {i : Nat} {a : Addr} {vs : List Value} {ds : List D} {Q : Unit → Shared → Prop} (I : Inv prog w base h₀ k sc env T ρ A hb) (hx : idxVar sc x = some i) (K : ∀ b o, hb.get? b = some o → s₁.heap.get? b = some o) (hn : hb.get? a = none)
    (hl : s₁.heap.PlainList a (List.toArray vs)) (hv : Vs s₁.heap vs ds) (hp : D.pures ds = true) (hle : ds.length ≤ lim)
    (hQ : ∀ h' tk, Inv prog w base h₀ k sc env T (ρ.set i (some (.own ds))) A h' → Tk s₁.heap h' → (∃ a, Heap.SameBut a s₁.heap h' ∧ (a = env.locals ∨ ∃ y, env.cells.lookup y = some a)) → Q () { s₁ with heap := h', toks := tk }) : wpAny (model prog w) A (storeName env x (.ref a)) Q E s₁ := by
  obtain ⟨h1, h2⟩ := idxVar_some hx
  exact store_ok (lo' := .own ds) (a' := a) I K h1 h2 ⟨rfl, vs, hl, hv, hp, hle⟩ (fun _ => hn) hQ

theorem asgL_ok {x : Str} {px pos : Pos} {value : Expr} {i : Nat} {ds : List D} {Q : Flow → Shared → Prop} (I : Inv prog w base h₀ k sc env T ρ A s.heap) (hx : idxVar sc x = some i) (hs : swapsWith value (some (.Name x px)) pos.line env = pure false)
    (he : wpAny (model prog w) A (eval value env) (fun v s₁ => ∃ a vs, v = .ref a ∧ Keeps s s₁ ∧ s.heap.get? a = none ∧ s₁.heap.PlainList a (List.toArray vs) ∧ Vs s₁.heap vs ds ∧ ds.length ≤ lim) E s) (hp : D.pures ds = true)
    (hQ : ∀ fl s', FinR prog w base h₀ k sc env T A s (.next (ρ.set i (some (.own ds)))) fl s' → Q fl s') :
    wpAny (model prog w) A (exec (.Assign [.Name x px] value pos) env) Q E s := by
  refine wpAny_Assign_Name (wpAny_mono he (fun v s₁ q => ?_) fun _ _ x => x) hs
  obtain ⟨a, vs, rfl, K, hn, hl, hv, hle⟩ := q
  exact putL_ok I hx (keeps_heap K) hn hl hv hp hle fun h' tk I' t _ => hQ _ _ ⟨(Same.keeps K).trans (Same.mk' _ _ _), (Tk.mono (keeps_heap K)).trans t, rfl, I'⟩

theorem idxVars_each : ∀ {es : List Expr} {is : List Nat}, idxVars sc es = some is → (assignEach es env).length = is.length ∧ (assignEach es env).findIdx? (·.1) = none
  | [], is, h => by cases h; exact ⟨rfl, rfl⟩
  | e :: r, is, h => by
    obtain ⟨x, p, i, is', rfl, _, h2, rfl⟩ := idxVars_cons h
    obtain ⟨a, b⟩ := idxVars_each h2
    refine ⟨congrArg (· + 1) a, ?_⟩
    show List.findIdx? _ ((false, _) :: assignEach r env) = none
    rw [List.findIdx?_cons, b]; rfl

/-- names get a tuple's items -/
theorem puts_ok {Q : Unit → Shared → Prop} : ∀ {es : List Expr} {is : List Nat} {vs : List Value} {ds : List D} {ρ : Rho} {s₁ : Shared}, idxVars sc es = some is → Inv prog w base h₀ k sc env T ρ A s₁.heap → Vs s₁.heap vs ds → ds.length = is.length → D.pures ds = true →
    (∀ s', FinR prog w base h₀ k sc env T A s₁ (.next (setAll ρ is ds)) .next s' → Q () s') → wpAny (model prog w) A (assignInOrder ((assignEach es env).map (·.2)) vs) Q E s₁
  | [], is, vs, ds, ρ, s₁, h, I, hv, hl, hp, hQ => by
    cases h
    cases ds with
    | nil => exact assignInOrder_nil (hQ _ ⟨Same.refl _, Tk.refl _, rfl, I⟩)
    | cons d ds => cases hl
  | e :: r, is, vs, ds, ρ, s₁, h, I, hv, hl, hp, hQ => by
    obtain ⟨x, p, i, is', rfl, h1, h2, rfl⟩ := idxVars_cons h
    cases hv with
    | nil => cases hl
    | cons a b =>
      have hp := Bool.and_eq_true _ _ ▸ hp
      refine assignInOrder_cons (wpAny_assign_Name (put_ok I h1 (keeps_refl _) a hp.1 fun s' f => ?_))
      exact puts_ok h2 f.2.2.2 (b.pureKeep f.2.1 hp.2) (Nat.succ.inj hl) hp.2 fun s'' g => hQ _ (g.after f.1 f.2.1)

theorem Inv.tup (I : Inv prog w base h₀ k sc env T ρ A s.heap) : A.handled = none := I.ok.hand

theorem unp_ok {es : List Expr} {is : List Nat} {kk : Nat} {tp pos : Pos} {value : Expr} {ds : List D} {Q : Flow → Shared → Prop} {x1} (I : Inv prog w base h₀ k sc env T ρ A s.heap) (hx : idxVars sc es = some is)
    (hs : swapsWithSole [.Tuple es x1 tp] value pos.line env = pure false) (hw : swappedStores [.Tuple es x1 tp] value env = pure none)
    (he : wpAny (model prog w) A (eval value env) (Post s (.tup ds)) E s) (hp : D.pures ds = true) (hl : ds.length = is.length) (hQ : ∀ fl s', FinR prog w base h₀ k sc env T A s (.next (setAll ρ is ds)) fl s' → Q fl s') :
    wpAny (model prog w) A (exec (.Assign [.Tuple es x1 tp] value pos) env) Q E s := by
  refine Assign_Tuple (wpAny_mono he (fun v s₁ q => ?_) fun _ _ x => x) hs hw
  obtain ⟨K, hv⟩ := q
  cases hv with
  | tup ht hvs hle =>
    rename_i a vs
    have hlen := hvs.length
    obtain ⟨q1, q2⟩ := idxVars_each (env := env) hx
    refine wpAny_assign_Tuple I.ok.hand ht (by rw [q1, List.size_toArray]; omega) q2 fun h' he' => ?_
    have K' : ∀ b o, s₁.heap.get? b = some o → h'.get? b = some o := fun b o e => he' b o (Nat.ne_of_lt (Heap.lt_size e)) e
    refine puts_ok (s₁ := { s₁ with heap := h' }) hx ((I.mono (keeps_heap K)).mono K') (hvs.mono K') hl hp fun s' f => hQ _ _ (f.after ((Same.keeps K).trans ⟨h', s₁.toks, rfl⟩) ((Tk.mono (keeps_heap K)).trans (Tk.mono K')))
end

section
variable {prog : Program} {w : World} {base h₀ : Heap} {fns excs : List Str} {mg mb : Str → Option Value} {fa : Nat → Addr} {Φ : Fns} {k n : Nat} {sc : Sc} {env : Env} {T : List (Addr × Obj)} {ρ : Rho} {A : Around} {s : Shared} {RZ : RZt}

theorem asCall_parts {v : Expr} {q : Nat × Es} (h : asCall fns n sc v = some q) : ∃ g p a r pos, v = .Call (.Name g p) (a :: r) [] pos ∧ glob sc g = true ∧ fns.idxOf? g = some q.1 ∧ cEs (cE fns n sc) (a :: r) = some q.2 := by
  replace h := ob h
  obtain ⟨⟨fn, args, pos⟩, hc, h3⟩ := h
  replace h3 := ob h3
  obtain ⟨g, hg, h4⟩ := h3
  replace h4 := oi' h4
  obtain ⟨⟨h1, h2⟩, h5⟩ := h4
  replace h5 := ob h5
  obtain ⟨i, hi, h6⟩ := h5
  replace h6 := om h6
  obtain ⟨es, hes, rfl⟩ := h6
  have := callOf_some hc; subst this
  obtain ⟨p, hp⟩ := nameOf_some hg
  have hp : fn = .Name g p := hp
  subst hp
  cases args with
  | nil => cases h2
  | cons a r => exact ⟨g, p, a, r, pos, rfl, h1, hi, hes⟩

theorem asCall_ok (G : Gl fns base mg mb fa) (hΦ : FnsOk prog w base Φ fa k) (ER : Errs prog w base Φ fa k excs RZ) {v : Expr} {q : Nat × Es} (h : asCall fns n sc v = some q) (I : Inv prog w base h₀ k sc env T ρ A s.heap)
    {ds : List D} {out : Out} (hds : evs Φ ρ q.2 = some ds) (ho : Φ q.1 ds = some out) :
    wpAny (model prog w) A (eval v env) (fun r s' => ∃ d, out = .ok d ∧ Post s d r s') (fun e s' => ∃ c, out = .err c ∧ Same s s' ∧ RZ h₀ env A c e s'.heap) s := by
  obtain ⟨g, p, a, r, pos, rfl, hg, hi, hes⟩ := asCall_parts h
  have J := ev_sound (prog := prog) (w := w) (k := k) G hΦ n sc
  have hn := idxOf?_get hi
  obtain ⟨o, fd, h1, h2, h3⟩ := G.fn q.1 g hn
  obtain ⟨a', ha, _⟩ := ob (show ((cE fns n sc a).bind _) = some q.2 from hes)
  refine Call_ (load_fn G I.cx hg hn (callWith_def h3 ?_ (starEach_plain (J.plain ha) _ _)))
  refine wpAny_mono (args_ok J (a :: r) q.2 hes env ρ A s ds _ pos I.cx hds) (fun vs s₁ h₁ => ?_) fun _ _ x => x
  have I₁ := I.mono (keeps_heap h₁.1)
  refine ⟨I₁.ok.stays _ _ h2, ?_⟩
  cases out with
  | ok d => exact wpAny_mono (hΦ q.1 ds d A s₁ vs _ ho I₁.ok h₁.2) (fun r s₂ h₂ => ⟨d, rfl, keeps_trans h₁.1 h₂.1, h₂.2⟩) fun _ _ x => x
  | err c => exact wpAny_mono (ER.call sc q.1 ds c h₀ env T ρ A s₁ vs ho I₁ h₁.2) (fun r s₂ h₂ => h₂.elim) fun e s₂ h₂ => ⟨c, rfl, (Same.keeps h₁.1).trans h₂.1, h₂.2⟩

theorem asCall_swaps {v : Expr} {q : Nat × Es} (h : asCall fns n sc v = some q) (t : Option Expr) (l : Nat) (env : Env) : swapsWith v t l env = pure false := by
  obtain ⟨g, p, a, r, pos, rfl, _⟩ := asCall_parts h; rfl
theorem asCall_stores {v : Expr} {q : Nat × Es} (h : asCall fns n sc v = some q) (ts : List Expr) {x1} {tp : Pos} (env : Env) : swappedStores [.Tuple ts x1 tp] v env = pure none := by
  obtain ⟨g, p, a, r, pos, rfl, _⟩ := asCall_parts h; rfl
end
end Mine

namespace Mine
open PySem PySem.Calls PyProof.Rows PySem.SeqAt

theorem loopO_drop {α : Type} {body : α → Rho → Option R} {as : List α} {i : Nat} {a : α} {ρ : Rho} (h : as[i]? = some a) : loopO body (as.drop i) ρ = (body a ρ).bind (afterR fun ρ' => loopO body (as.drop (i + 1)) ρ') := by
  obtain ⟨hi, rfl⟩ := List.getElem?_eq_some_iff.mp h
  rw [List.drop_eq_getElem_cons hi]; rfl

theorem noOwn_get {ρ : Rho} (h : ρ.noOwn = true) (i : Nat) (ds : List D) : ρ.get i ≠ some (.own ds) := by
  intro hq
  cases hg : ρ[i]? with
  | none => rw [Rho.get, hg] at hq; cases hq
  | some lo =>
    rw [Rho.get, hg] at hq
    have hq : lo = some (.own ds) := hq
    have := List.all_eq_true.mp h _ (List.mem_of_getElem? hg)
    rw [hq] at this; cases this

section
variable {prog : Program} {w : World} {base h₀ : Heap} {fns excs : List Str} {mg mb : Str → Option Value} {fa : Nat → Addr} {Φ : Fns} {k n : Nat} {sc : Sc} {env : Env} {T : List (Addr × Obj)} {ρ : Rho} {A : Around} {s : Shared} {RZ : RZt} {E : Value → Shared → Prop}

theorem guard_seq {h : Heap} {ax : Addr} {d : D} (I : Inv prog w base h₀ k sc env T ρ A h) (hV : V h (.ref ax) d) (alt : (∃ q, d = .tup q) ∨ h₀.get? ax ≠ none ∨ ∀ i ds, ρ.get i ≠ some (.own ds)) : ∃ o, Inv prog w base h₀ k sc env ((ax, o) :: T) ρ A h := by
  cases hV with
  | tup hp _ _ =>
    obtain ⟨o, ho1, hc, nn, hd⟩ := id hp
    exact ⟨o, I.guard ho1 (fun es n q => by rw [hd] at q; cases q) (fun v q => by rw [hd] at q; cases q) (.inl fun xs hq => list_notuple hq hp rfl)⟩
  | lst hp _ _ =>
    obtain ⟨nn, ho1⟩ := id hp
    exact ⟨_, I.guard ho1 (fun es n q => by cases q) (fun v q => by cases q) (.inr (alt.resolve_left fun ⟨q, e⟩ => by cases e))⟩

/-- a loop may begin: what is walked is guarded -/
noncomputable def LoopAt (prog : Program) (w : World) (base h₀ : Heap) (k : Nat) (sc : Sc) (env : Env) (T : List (Addr × Obj)) (ρ : Rho) (A : Around) (s : Shared) (ds : List D) (s₁ : Shared) (itv : Value) (s₂ : Shared) : Prop :=
  ∃ I' g, itv = .ref I' ∧ Keeps s s₁ ∧ Keeps s₁ s₂ ∧ Wk prog w A s₁.heap s₂ I' (I' :: g.map (·.1)) ds ∧ Inv prog w base h₀ k sc env (g ++ T) ρ A s₁.heap

theorem itS_ok {f : Expr → Option Mine.E} (G : Gl fns base mg mb fa) (J : Judged prog w base Φ k sc f) {iter : Expr} {it : It} (h : cIt f sc iter = some it) {ds : List D}
    (I : Inv prog w base h₀ k sc env T ρ A s.heap) (hv : evIt Φ ρ it = some ds) (ho : itOk Φ ρ it = true) :
    (∀ x, foldedSetIterable iter env x = pure x) ∧ wpAny (model prog w) A (eval iter env) (fun xv s₁ => wpAny (model prog w) A (pyIter xv) (LoopAt prog w base h₀ k sc env T ρ A s ds s₁) E s₁) E s := by
  have b := it_ok (prog := prog) (w := w) (E := E) G J h I.cx hv
  refine ⟨b.1, wpAny_mono b.2 (fun xv s₁ h₁ => wpAny_mono h₁ (fun itv s₂ h₂ => ?_) fun _ _ x => x) fun _ _ x => x⟩
  obtain ⟨_, I', g, e1, K1, K2, W, S⟩ := h₂
  have I₁ := I.mono (keeps_heap K1)
  rcases S with ⟨_, rfl⟩ | ⟨e', d, ax, rfl, hd, rfl, hV, rfl⟩
  · exact ⟨I', [], e1, K1, K2, W, I₁⟩
  · have alt : (∃ q, d = .tup q) ∨ h₀.get? ax ≠ none ∨ ∀ i ds, ρ.get i ≠ some (.own ds) := by
      have ho : (ρ.noOwn || ((ev Φ ρ e').bind tupOf).isSome) = true := ho
      rcases Bool.or_eq_true _ _ ▸ ho with q | q
      · exact .inr (.inr (noOwn_get q))
      · rw [hd] at q
        obtain ⟨z, hz⟩ := Option.isSome_iff_exists.mp q
        exact .inl ⟨z, tupOf_some hz⟩
    obtain ⟨o, Ig⟩ := guard_seq I₁ hV alt
    exact ⟨I', [(ax, o)], e1, K1, K2, W, Ig⟩

theorem itV_ok {y : Str} {p : Pos} {j : Nat} {lo : Lo} {ds : List D} (hy : idxVar sc y = some j) (I : Inv prog w base h₀ k sc env T ρ A s.heap) (hlo : ρ.get j = some lo) (hi : items lo.val = some ds) (ho : lo.own?.isNone = true) :
    wpAny (model prog w) A (eval (.Name y p) env) (fun xv s₁ => wpAny (model prog w) A (pyIter xv) (LoopAt prog w base h₀ k sc env T ρ A s ds s₁) E s₁) E s := by
  obtain ⟨h1, h2⟩ := idxVar_some hy
  obtain ⟨α, a1, a2, a3⟩ := I.own
  obtain ⟨v, hat, hL⟩ := a1 y j lo h1 h2 hlo
  have hV : V s.heap v lo.val := (hL.c I.keep).val (by cases lo <;> first | rfl | (cases hi; done))
  refine load_var (ρ := ρ) (sc := sc) I.kind hat (wpAny_mono (iter_seq I.ok.hand hV hi) (fun itv s₂ h₂ => ?_) fun _ _ x => x) (idxVar_dbg hy)
  obtain ⟨I', ax, e1, rfl, e2, e3⟩ := h₂
  have alt : (∃ q, lo.val = .tup q) ∨ h₀.get? ax ≠ none ∨ ∀ i ds, ρ.get i ≠ some (.own ds) := by
    cases lo with
    | own ds => cases ho
    | dic kvs => cases hi
    | ob b => cases hi
    | dat d =>
      refine .inl ?_
      have hp := hL.2
      cases d <;> first | (cases hi; done) | skip
      · exact ⟨_, rfl⟩
      · rw [D.pure, D.okN_lst] at hp; cases hp
    | arg d =>
      refine .inr (.inl ?_)
      have hL' : V h₀ (.ref ax) d := hL
      cases hL' with
      | tup hp _ _ => obtain ⟨o, ho1, _⟩ := hp; rw [ho1]; exact fun q => by cases q
      | lst hp _ _ => obtain ⟨nn, ho1⟩ := hp; rw [ho1]; exact fun q => by cases q
  obtain ⟨o, Ig⟩ := guard_seq I hV alt
  exact ⟨I', [(ax, o)], e1, keeps_refl s, e2, e3, Ig⟩
end
end Mine

namespace Mine
open PySem PySem.Calls PyProof.Rows PySem.SeqAt

theorem rangeD_pures (a b : Int) : D.pures (rangeD a b) = true := by
  simp only [D.pures, rangeD, List.all_map, List.all_eq_true]
  intro x _; rfl

theorem evIt_pures {Φ : Fns} {ρ : Rho} {it : It} {ds : List D} (h : evIt Φ ρ it = some ds) : D.pures ds = true := by
  cases it with
  | range a =>
    replace h := ob h
    obtain ⟨x, _, h⟩ := h
    replace h := ob h
    obtain ⟨n, _, h⟩ := h
    obtain ⟨_, rfl⟩ := oi h
    exact rangeD_pures _ _
  | range2 a b =>
    replace h := ob h
    obtain ⟨x, _, h⟩ := h
    replace h := ob h
    obtain ⟨y, _, h⟩ := h
    obtain ⟨m, n, _, _, h⟩ := i2_some h
    obtain ⟨_, rfl⟩ := oi h
    exact rangeD_pures _ _
  | seq e =>
    replace h := ob h
    obtain ⟨x, _, h⟩ := h
    replace h := ob h
    obtain ⟨n, _, h⟩ := h
    replace h := oi h
    obtain ⟨q, rfl⟩ := h
    exact q
theorem pures_get {ds : List D} {i : Nat} {d : D} (h : D.pures ds = true) (e : ds[i]? = some d) : d.pure = true := by
  simp only [D.pures, List.all_eq_true] at h
  exact h d (List.mem_of_getElem? e)

theorem Tk.but {H h' : Heap} {I : Addr} (hI : ∃ o, H.get? I = some o ∧ ∃ fs, o.data = .fields fs) (hk : ∀ b o, b ≠ I → H.get? b = some o → h'.get? b = some o) : Tk H h' :=
  tup_keep [I] (fun b o hb e => by
    simp only [List.mem_cons, List.not_mem_nil, or_false] at hb
    exact hk b o hb e) (bad0 hI)

section
variable {prog : Program} {w : World} {base : Heap} {fns excs : List Str} {mg mb : Str → Option Value} {fa : Nat → Addr} {Φ : Fns} {k n : Nat} {sc : Sc} {RZ : RZt}

theorem ofFields {base h₀ h : Heap} {env : Env} {T : List (Addr × Obj)} {ρ : Rho} {A : Around} {b : Addr} {o : Obj} {fs : Array Value} (I : Inv prog w base h₀ k sc env T ρ A h) (ho : h.get? b = some o) (hf : o.data = .fields fs) : Inv prog w base h₀ k sc env ((b, o) :: T) ρ A h :=
  I.guard ho (fun es n q => by rw [hf] at q; cases q) (fun v q => by rw [hf] at q; cases q) (.inl (fun xs q => by obtain ⟨nn, e⟩ := q; rw [ho] at e; cases e; cases hf))

/-- what is known when a turn begins -/
structure Turn (prog : Program) (w : World) (base h₀ : Heap) (k : Nat) (sc : Sc) (env : Env) (T : List (Addr × Obj)) (A : Around) (s s₁ : Shared) (St : Nat → Heap → Prop) (len : Nat) (cont : Nat → Rho → Option R) (r : R) (m : Nat) (s' : Shared) (j : Nat) (ρ' : Rho) : Prop where
  same : Same s s'
  tk : Tk s₁.heap s'.heap
  inv : Inv prog w base h₀ k sc env T ρ' A s'.heap
  st : St j s'.heap
  run : cont j ρ' = some r
  left : m = len + 1 - j
  le : j ≤ len

/-- the body of a turn is done -/
theorem turn_done {base h₀ : Heap} {env : Env} {T T' T₀ : List (Addr × Obj)} {A : Around} {s s₁ s₃ s₄ : Shared} {St : Nat → Heap → Prop} {len : Nat} {cont : Nat → Rho → Option R} {r rb : R} {j : Nat} {fl : Flow} {Q : Flow → Shared → Prop}
    (hlt : j < len) (h01 : Tk s.heap s₁.heap) (s3 : Same s s₃) (t3 : Tk s₁.heap s₃.heap) (hl : afterR (cont (j + 1)) rb = some r) (sub : ∀ p ∈ T, p ∈ T') (sub₀ : ∀ p ∈ T₀, p ∈ T')
    (stk : ∀ (ρ'' : Rho) (s₄ : Shared), Inv prog w base h₀ k sc env T' ρ'' A s₄.heap → St (j + 1) s₄.heap)
    (hQ : ∀ fl s', FinR prog w base h₀ k sc env T₀ A s r fl s' → Q fl s') (F : FinR prog w base h₀ k sc env T' A s₃ rb fl s₄) :
    ((fl = .next ∨ fl = .cont) ∧ ∃ m, m < len + 1 - j ∧ ∃ j' ρ', Turn prog w base h₀ k sc env T A s s₁ St len cont r m s₄ j' ρ') ∨ ∃ v, fl = .ret v ∧ Q (.ret v) s₄ := by
  obtain ⟨F1, F2, F3⟩ := F
  have go : ∀ ρ'', Inv prog w base h₀ k sc env T' ρ'' A s₄.heap → cont (j + 1) ρ'' = some r → ∃ m, m < len + 1 - j ∧ ∃ j' ρ', Turn prog w base h₀ k sc env T A s s₁ St len cont r m s₄ j' ρ' := fun ρ'' K4 hl =>
    ⟨len + 1 - (j + 1), by omega, j + 1, ρ'', s3.trans F1, t3.trans F2, K4.less sub, stk ρ'' s₄ K4, hl, rfl, hlt⟩
  cases rb with
  | next ρ'' => exact .inl ⟨.inl F3.1, go ρ'' F3.2 hl⟩
  | cont ρ'' => exact .inl ⟨.inr F3.1, go ρ'' F3.2 hl⟩
  | ret d' =>
    obtain ⟨v', ρ'', e, hV', K4⟩ := F3
    cases hl
    exact .inr ⟨v', e, hQ _ _ ⟨s3.trans F1, h01.trans (t3.trans F2), v', ρ'', rfl, hV', K4.less sub₀⟩⟩
  | err c => exact F3.elim

theorem loop_ok {base h₀ : Heap} {env : Env} {T : List (Addr × Obj)} {ρ : Rho} {A : Around} {s : Shared} {Q : Flow → Shared → Prop} {E : Value → Shared → Prop} {r : R} {ds : List D}
    {x : Str} {px pos : Pos} {iter : Expr} {body : List Stmt} {b : Ss} {i : Nat} (hx : idxVar sc x = some i) (hb : XsOK prog w base Φ k RZ sc body b) (hpu : D.pures ds = true) (hs : ∀ x, foldedSetIterable iter env x = pure x)
    (hi : wpAny (model prog w) A (eval iter env) (fun xv s₁ => wpAny (model prog w) A (pyIter xv) (LoopAt prog w base h₀ k sc env T ρ A s ds s₁) E s₁) E s)
    (hE : PassesOwn (model prog w) A env E) (hex : loopO (fun d ρ => exs Φ (ρ.set i (some (.dat d))) b) ds ρ = some r) (hQ : ∀ fl s', FinR prog w base h₀ k sc env T A s r fl s' → Q fl s')
    (hErr : ∀ c e s', r = .err c → Same s s' → RZ h₀ env A c e s'.heap → E e s') : wpAny (model prog w) A (exec (.For (.Name x px) iter body [] pos) env) Q E s := by
  refine wpAny_For (wpAny_mono hi (fun xv s₁ h₁ => wpAny_mono h₁ (fun itv s₂ h₂ => ?_) fun _ _ x => x) fun _ _ x => x) hs
  obtain ⟨I', g, rfl, K1, K2, ⟨P, St, W, hst, hfp, hIn, hk12, hP, hSt⟩, Ig⟩ := h₂
  have I'0 : h₀.get? I' = none := Ig.h0_none hIn
  have I'T : ∀ p ∈ g ++ T, p.1 ≠ I' := Ig.tl_ne I' hIn
  refine codeAny_forLoop (fun m s' => ∃ j ρ', Turn prog w base h₀ k sc env (g ++ T) A s s₁ St ds.length (fun j ρ' => loopO (fun d ρ => exs Φ (ρ.set i (some (.dat d))) b) (ds.drop j) ρ') r m s' j ρ') ?_ (ds.length + 1)
    ⟨0, ρ, (Same.keeps K1).trans (Same.keeps K2), Tk.mono hk12, Ig.mono hk12, hst, hex, rfl, Nat.zero_le _⟩
  rintro m s' ⟨j, ρ', U⟩
  have hfo := hSt j _ U.st
  have I'k : ∀ h₂ : Heap, (∀ b o, b ∉ [I'] → s'.heap.get? b = some o → h₂.get? b = some o) → Inv prog w base h₀ k sc env (g ++ T) ρ' A h₂ ∧ Tk s'.heap h₂ := by
    intro h₂ hk
    have hk' : ∀ b o, b ≠ I' → s'.heap.get? b = some o → h₂.get? b = some o := fun b o hb e => hk b o (fun q => hb (List.mem_singleton.mp q)) e
    obtain ⟨o, ho1, fs, hfs⟩ := id hfo
    exact ⟨U.inv.other (o' := o) (fs' := fs) ho1 hfs I'0 I'T hk', Tk.but hfo hk'⟩
  have hm := U.left; subst hm
  by_cases hlt : j < ds.length
  · refine W.item j s' _ _ hlt U.st fun v h₂ tk₂ hPv hst₂ hk₂ => ?_
    obtain ⟨d, hd, hVd⟩ := hP j v hPv
    obtain ⟨J2, tk2⟩ := I'k h₂ hk₂
    have hl := U.run
    rw [loopO_drop hd] at hl
    replace hl := ob hl
    obtain ⟨rb, hbd, hl⟩ := hl
    have hdp := pures_get hpu hd
    obtain ⟨o₂, ho₂, fs₂, hfs₂⟩ := hSt (j + 1) _ hst₂
    have J3 := ofFields J2 ho₂ hfs₂
    have t2 := U.tk.trans tk2
    refine wpAny_assign_Name (put_ok (s := { s' with heap := h₂, toks := tk₂ }) J3 hx (keeps_refl _) (hVd.pureKeep t2 hdp) hdp fun s₃ f => ?_)
    have s3 : Same s s₃ := U.same.trans ((Same.mk' s' h₂ tk₂).trans f.1)
    have stk : ∀ (ρ'' : Rho) (s₄ : Shared), Inv prog w base h₀ k sc env ((I', o₂) :: (g ++ T)) ρ'' A s₄.heap → St (j + 1) s₄.heap := by
      intro ρ'' s₄ K4
      refine W.frame (j + 1) h₂ s₄.heap hst₂ fun b hb o e => ?_
      rcases List.mem_cons.mp hb with rfl | hb
      · rw [ho₂] at e; cases e
        exact (K4.prot _ (.head _)).1
      · obtain ⟨p, hp, rfl⟩ := List.mem_map.mp hb
        have hp' : p ∈ g ++ T := List.mem_append_left _ hp
        have e1 := (J2.prot p hp').1
        rw [e1] at e; cases e
        exact (K4.prot p (.tail _ hp')).1
    refine wpAny_passesOwn hE (hb h₀ env _ _ A s₃ rb _ E f.2.2.2 hE hbd (fun fl s₄ F => ?_) (fun c e s₄ hc sm4 z => ?_))
    · rcases turn_done (T := g ++ T) (cont := fun j ρ' => loopO (fun d ρ => exs Φ (ρ.set i (some (.dat d))) b) (ds.drop j) ρ') hlt (Tk.mono (keeps_heap K1)) s3 (t2.trans f.2.1) hl (fun p hp => .tail _ hp) (fun p hp => .tail _ (List.mem_append_right _ hp)) stk hQ F with ⟨rfl | rfl, X⟩ | ⟨v, rfl, X⟩
      · exact X
      · exact X
      · exact X
    · subst hc; cases hl
      exact hErr c e s₄ rfl (s3.trans sm4) z
  · have hin : j = ds.length := Nat.le_antisymm U.le (Nat.le_of_not_lt hlt)
    subst hin
    have hl := U.run
    rw [List.drop_length] at hl
    cases hl
    refine W.done s' _ _ U.st fun h₂ tk₂ hk₂ => wpAny_execs_nil ?_
    obtain ⟨J2, tk2⟩ := I'k h₂ hk₂
    exact hQ _ _ ⟨U.same.trans (Same.mk' s' h₂ tk₂), (Tk.mono (keeps_heap K1)).trans (U.tk.trans tk2), rfl, J2.less fun p hp => List.mem_append_right _ hp⟩

theorem for1_ok {f : Expr → Option Mine.E} (G : Gl fns base mg mb fa) (J : Judged prog w base Φ k sc f)
    {x : Str} {px pos : Pos} {iter : Expr} {it : It} {body : List Stmt} {b : Ss} {i : Nat} (hx : idxVar sc x = some i) (h : cIt f sc iter = some it) (hb : XsOK prog w base Φ k RZ sc body b) :
    XOK prog w base Φ k RZ sc (.For (.Name x px) iter body [] pos) (.for1 i it b) := by
  intro h₀ env T ρ A s r Q E I hE hex hQ hErr
  replace hex := ob hex
  obtain ⟨ds, hv, hex⟩ := hex
  replace hex := oi' hex
  obtain ⟨ho, hex⟩ := hex
  obtain ⟨hs, hi⟩ := itS_ok (E := E) G J h I hv ho
  exact loop_ok hx hb (evIt_pures hv) hs hi hE hex hQ hErr

theorem forV_ok {x y : Str} {px py pos : Pos} {body : List Stmt} {b : Ss} {i j : Nat} (hx : idxVar sc x = some i) (hy : idxVar sc y = some j) (hb : XsOK prog w base Φ k RZ sc body b) :
    XOK prog w base Φ k RZ sc (.For (.Name x px) (.Name y py) body [] pos) (.forV i j b) := by
  intro h₀ env T ρ A s r Q E I hE hex hQ hErr
  replace hex := ob hex
  obtain ⟨lo, hlo, hex⟩ := hex
  replace hex := ob hex
  obtain ⟨ds, hds, hex⟩ := hex
  replace hex := oi' hex
  obtain ⟨⟨ho, hp⟩, hex⟩ := hex
  exact loop_ok hx hb hp (fun _ => rfl) (itV_ok hy I hlo hds ho) hE hex hQ hErr
end
end Mine

namespace Mine
open PySem PySem.Calls PyProof.Rows PySem.SeqAt

section
variable {prog : Program} {w : World} {base : Heap} {fns excs : List Str} {mg mb : Str → Option Value} {fa : Nat → Addr} {Φ : Fns} {k n : Nat} {sc : Sc} {RZ : RZt}

theorem ret_ok (G : Gl fns base mg mb fa) (hΦ : FnsOk prog w base Φ fa k) {e : Expr} {e' : Mine.E} {pos : Pos} (h : cE fns n sc e = some e') : XOK prog w base Φ k RZ sc (.Return (some e) pos) (.ret e') := by
  intro h₀ env T ρ A s r Q E I hE hex hQ hErr
  replace hex := om hex
  obtain ⟨d, hd, rfl⟩ := hex
  refine wpAny_Return_some (wpAny_mono (((ev_sound G hΦ n sc).1 e e' h).1 env ρ A s d E I.cx hd) (fun v s₁ q => ?_) fun _ _ x => x)
  exact hQ _ _ ⟨Same.keeps q.1, Tk.mono (keeps_heap q.1), v, ρ, rfl, q.2, I.mono (keeps_heap q.1)⟩

theorem cont_ok {pos : Pos} : XOK prog w base Φ k RZ sc (.Continue pos) .cont := by
  intro h₀ env T ρ A s r Q E I hE hex hQ hErr
  cases hex
  exact wpAny_Continue (hQ _ _ ⟨Same.refl s, Tk.refl _, rfl, I⟩)

theorem XsOK.after {a : List Stmt} {x : Ss} (ha : XsOK prog w base Φ k RZ sc a x) {h₀ : Heap} {env : Env} {T : List (Addr × Obj)} {ρ : Rho} {A : Around} {s s₁ : Shared} {r : R} {Q : Flow → Shared → Prop} {E : Value → Shared → Prop}
    (sm : Same s s₁) (tk : Tk s.heap s₁.heap) (I : Inv prog w base h₀ k sc env T ρ A s₁.heap) (hE : PassesOwn (model prog w) A env E) (hex : exs Φ ρ x = some r) (hQ : ∀ fl s', FinR prog w base h₀ k sc env T A s r fl s' → Q fl s')
    (hErr : ∀ c e s', r = .err c → Same s s' → RZ h₀ env A c e s'.heap → E e s') : wpAny (model prog w) A (execs a env) Q E s₁ :=
  ha h₀ env T ρ A s₁ r Q E I hE hex (fun fl s' f => hQ fl s' (f.after sm tk)) fun c e s' hc sm' z => hErr c e s' hc (sm.trans sm') z

theorem iff_ok (G : Gl fns base mg mb fa) (hΦ : FnsOk prog w base Φ fa k) {t : Expr} {c : Mine.E} {a b : List Stmt} {x y : Ss} {pos : Pos} (h : cE fns n sc t = some c) (ha : XsOK prog w base Φ k RZ sc a x) (hb : XsOK prog w base Φ k RZ sc b y) :
    XOK prog w base Φ k RZ sc (.If t a b pos) (.iff c x y) := by
  intro h₀ env T ρ A s r Q E I hE hex hQ hErr
  replace hex := ob hex
  obtain ⟨d, hc, hex1⟩ := hex
  replace hex1 := ob hex1
  obtain ⟨bb, hbb, hex2⟩ := hex1
  rw [isTrueD_some hbb] at hc
  refine wpAny_If (wpAny_mono (((ev_sound G hΦ n sc).1 t c h).2 env ρ A s bb E I.cx hc) (fun q s₁ hq => ?_) fun _ _ x => x)
  obtain ⟨rfl, K⟩ := hq
  have I₁ := I.mono (keeps_heap K)
  cases q with
  | true => exact ha.after (Same.keeps K) (Tk.mono (keeps_heap K)) I₁ hE hex2 hQ hErr
  | false => exact hb.after (Same.keeps K) (Tk.mono (keeps_heap K)) I₁ hE hex2 hQ hErr

theorem seq_nil : XsOK prog w base Φ k RZ sc [] .nil := by
  intro h₀ env T ρ A s r Q E I hE hex hQ hErr
  cases hex
  exact wpAny_execs_nil (hQ _ _ ⟨Same.refl s, Tk.refl _, rfl, I⟩)

theorem seq_cons {st : Stmt} {a : S} {r : List Stmt} {b : Ss} (ha : XOK prog w base Φ k RZ sc st a) (hb : XsOK prog w base Φ k RZ sc r b) : XsOK prog w base Φ k RZ sc (st :: r) (.cons a b) := by
  intro h₀ env T ρ A s r' Q E I hE hex hQ hErr
  replace hex := ob hex
  obtain ⟨ra, hx, hex1⟩ := hex
  refine wpAny_execs_cons (ha h₀ env T ρ A s ra _ E I hE hx (fun fl s' F => ?_) fun c e s' hc sm z => ?_)
  · obtain ⟨F1, F2, F3⟩ := F
    cases ra with
    | next ρ' =>
      obtain ⟨rfl, I'⟩ := F3
      exact hb.after F1 F2 I' hE hex1 hQ hErr
    | cont ρ' =>
      cases hex1
      obtain ⟨rfl, I'⟩ := F3
      exact hQ _ _ ⟨F1, F2, rfl, I'⟩
    | ret d =>
      cases hex1
      obtain ⟨v, ρ', rfl, q⟩ := F3
      exact hQ _ _ ⟨F1, F2, v, ρ', rfl, q⟩
    | err c => exact F3.elim
  · subst hc
    cases hex1
    exact hErr c e s' rfl sm z

theorem asgE (G : Gl fns base mg mb fa) (hΦ : FnsOk prog w base Φ fa k) {x : Str} {px pos : Pos} {v : Expr} {i : Nat} {e : Mine.E} (hx : idxVar sc x = some i) (h : cE fns n sc v = some e) (hs : ∀ env, swapsWith v (some (.Name x px)) pos.line env = pure false) :
    XOK prog w base Φ k RZ sc (.Assign [.Name x px] v pos) (.asg i e) := by
  intro h₀ env T ρ A s r Q E I hE hex hQ hErr
  replace hex := ob hex
  obtain ⟨d, hd, hex1⟩ := hex
  replace hex1 := oi hex1
  obtain ⟨hp, rfl⟩ := hex1
  exact asg_ok I hx (hs env) (((ev_sound G hΦ n sc).1 v e h).1 env ρ A s d E I.cx hd) hp hQ

theorem callS_parts {ρ : Rho} {t : Tg} {f : Nat} {es : Es} {r : R} (h : ex Φ ρ (.callS t f es) = some r) : ∃ ds out, evs Φ ρ es = some ds ∧ Φ f ds = some out ∧ outT ρ t out = some r := by
  replace h := ob h
  obtain ⟨ds, hds, h⟩ := h
  replace h := ob h
  obtain ⟨out, ho, h⟩ := h
  exact ⟨ds, out, hds, ho, h⟩

theorem asgCall (G : Gl fns base mg mb fa) (hΦ : FnsOk prog w base Φ fa k) (ER : Errs prog w base Φ fa k excs RZ) {x : Str} {px pos : Pos} {v : Expr} {i : Nat} {q : Nat × Es} (hx : idxVar sc x = some i) (h : asCall fns n sc v = some q) :
    XOK prog w base Φ k RZ sc (.Assign [.Name x px] v pos) (.callS (.var i) q.1 q.2) := by
  intro h₀ env T ρ A s r Q E I hE hex hQ hErr
  obtain ⟨ds, out, hds, ho, h2⟩ := callS_parts hex
  refine wpAny_Assign_Name (wpAny_mono (asCall_ok G hΦ ER h I hds ho) (fun v s₁ q => ?_) fun e s' q => ?_) (asCall_swaps h _ _ _)
  · obtain ⟨d, rfl, K, hV⟩ := q
    obtain ⟨hp, rfl⟩ := oi h2
    exact put_ok I hx K hV hp fun s' F => hQ _ _ F
  · obtain ⟨c, rfl, sm, z⟩ := q
    cases h2
    exact hErr c e s' rfl sm z

theorem idx_nat {dd : List D} {j : Nat} {d' : D} (h : dd[j]? = some d') : evIdx (.tup dd) (.int j) = some d' := by
  show (if 0 ≤ (j : Int) then dd[(j : Int).toNat]? else none) = some d'
  rw [if_pos (Int.natCast_nonneg j)]; exact h

theorem asgItem (G : Gl fns base mg mb fa) (hΦ : FnsOk prog w base Φ fa k) (ER : Errs prog w base Φ fa k excs RZ) {x : Str} {px pos p1 p2 : Pos} {u} {v : Expr} {i j : Nat} {q : Nat × Es} (hx : idxVar sc x = some i) (h : asCall fns n sc v = some q) :
    XOK prog w base Φ k RZ sc (.Assign [.Name x px] (.Subscript v (.Constant (.int j) u p1) p2) pos) (.callS (.item i j) q.1 q.2) := by
  intro h₀ env T ρ A s r Q E I hE hex hQ hErr
  obtain ⟨ds, out, hds, ho, h2⟩ := callS_parts hex
  refine wpAny_Assign_Name (Subscript_ (wpAny_mono (asCall_ok G hΦ ER h I hds ho) (fun v s₁ q => ?_) fun e s' q => ?_)) rfl
  · obtain ⟨d, rfl, K, hV⟩ := q
    obtain ⟨dd, hdd, h3⟩ := ob h2
    replace h3 := ob h3
    obtain ⟨d', hd', h4⟩ := h3
    replace h4 := oi h4
    obtain ⟨hp, rfl⟩ := h4
    have := tupOf_some hdd; subst this
    have hc := ((ev_sound (prog := prog) (w := w) G hΦ 1 sc).1 (.Constant (.int j) u p1) (.k (.int j)) rfl).1 env ρ A s₁ (.int j) E (I.mono (keeps_heap K)).cx rfl
    refine wpAny_mono hc (fun iv s₂ q₂ => ?_) fun _ _ x => x
    have v1 := hV.mono (keeps_heap q₂.1)
    have hix : evIdx (.tup dd) (.int j) = some d' := idx_nat hd'
    obtain ⟨T', id, t1, t2⟩ := getitem_look v1 (by rfl : items (.tup dd) = some dd)
    refine tail_any t1 t2 (wpAny_mono (idx_ok v1 q₂.2 hix) (fun rv s₃ q₃ => ?_) fun _ _ x => x) (sub_plain (by intro a b c d e; cases e))
    exact put_ok I hx (keeps_trans (keeps_trans K q₂.1) q₃.1) q₃.2 hp fun s' F => hQ _ _ F
  · obtain ⟨c, rfl, sm, z⟩ := q
    cases h2
    exact hErr c e s' rfl sm z

theorem asgUnp (G : Gl fns base mg mb fa) (hΦ : FnsOk prog w base Φ fa k) (ER : Errs prog w base Φ fa k excs RZ) {ts : List Expr} {x1} {tp pos : Pos} {v : Expr} {is : List Nat} {q : Nat × Es} (hx : idxVars sc ts = some is) (h : asCall fns n sc v = some q) :
    XOK prog w base Φ k RZ sc (.Assign [.Tuple ts x1 tp] v pos) (.callS (.unp is) q.1 q.2) := by
  intro h₀ env T ρ A s r Q E I hE hex hQ hErr
  obtain ⟨ds, out, hds, ho, h2⟩ := callS_parts hex
  have hsw : swapsWithSole [.Tuple ts x1 tp] v pos.line env = pure false := asCall_swaps h (some (.Tuple ts x1 tp)) pos.line env
  cases out with
  | err c =>
    refine Assign_Tuple (wpAny_mono (asCall_ok G hΦ ER h I hds ho) (fun v s₁ q => ?_) fun e s' q => ?_) hsw (asCall_stores h ts env)
    · obtain ⟨d, e, _⟩ := q; cases e
    · obtain ⟨c', e', sm, z⟩ := q
      cases e'; cases h2
      exact hErr c e s' rfl sm z
  | ok d =>
    replace h2 := ob h2
    obtain ⟨dd, hdd, h3⟩ := h2
    replace h3 := oi h3
    obtain ⟨hp, rfl⟩ := h3
    rw [tupOf_some hdd] at ho
    refine unp_ok (kk := 0) I hx hsw (asCall_stores h ts env) (wpAny_mono (asCall_ok G hΦ ER h I hds ho) (fun v s₁ q => ?_) fun e s' q => ?_) hp.2 hp.1 hQ
    · obtain ⟨d, e, q⟩ := q; cases e; exact q
    · obtain ⟨c', e', _⟩ := q; cases e'

theorem exprCall (G : Gl fns base mg mb fa) (hΦ : FnsOk prog w base Φ fa k) (ER : Errs prog w base Φ fa k excs RZ) {pos : Pos} {v : Expr} {q : Nat × Es} (h : asCall fns n sc v = some q) :
    XOK prog w base Φ k RZ sc (.Expr v pos) (.callS .drop q.1 q.2) := by
  intro h₀ env T ρ A s r Q E I hE hex hQ hErr
  obtain ⟨ds, out, hds, ho, h2⟩ := callS_parts hex
  refine wpAny_Expr_any (wpAny_mono (asCall_ok G hΦ ER h I hds ho) (fun v s₁ q => ?_) fun e s' q => ?_) (by simp [interactive, I.kind]) (asCall_swaps h _ _ _)
  · obtain ⟨d, rfl, K, hV⟩ := q
    cases h2
    exact hQ _ _ ⟨Same.keeps K, Tk.mono (keeps_heap K), rfl, I.mono (keeps_heap K)⟩
  · obtain ⟨c, rfl, sm, z⟩ := q
    cases h2
    exact hErr c e s' rfl sm z

theorem unpE (G : Gl fns base mg mb fa) (hΦ : FnsOk prog w base Φ fa k) {ts : List Expr} {x1} {tp pos : Pos} {v : Expr} {is : List Nat} {e : Mine.E} (hx : idxVars sc ts = some is) (h : cE fns n sc v = some e)
    (hs : ∀ env, swapsWithSole [.Tuple ts x1 tp] v pos.line env = pure false) (hw : ∀ env, swappedStores [.Tuple ts x1 tp] v env = pure none) :
    XOK prog w base Φ k RZ sc (.Assign [.Tuple ts x1 tp] v pos) (.unp is e) := by
  intro h₀ env T ρ A s r Q E I hE hex hQ hErr
  replace hex := ob hex
  obtain ⟨d, hd, hex1⟩ := hex
  replace hex1 := ob hex1
  obtain ⟨dd, hdd, hex2⟩ := hex1
  replace hex2 := oi hex2
  obtain ⟨hp, rfl⟩ := hex2
  rw [tupOf_some hdd] at hd
  exact unp_ok (kk := 0) I hx (hs env) (hw env) (((ev_sound G hΦ n sc).1 v e h).1 env ρ A s _ E I.cx hd) hp.2 hp.1 hQ

theorem fresh_at {s s₁ : Shared} (K : Keeps s s₁) : s.heap.get? s₁.heap.objs.size = none := by
  cases q : s.heap.get? s₁.heap.objs.size with
  | none => rfl
  | some o => have := keeps_heap K _ _ q; rw [size_none] at this; cases this

theorem ownD_ok (G : Gl fns base mg mb fa) (hΦ : FnsOk prog w base Φ fa k) {x : Str} {px pos lp : Pos} {es : List Expr} {i : Nat} {es' : Es} (hx : idxVar sc x = some i) (h : cEs (cE fns n sc) es = some es') (hsz : es'.size ≤ 1000) :
    XOK prog w base Φ k RZ sc (.Assign [.Name x px] (.List es lp) pos) (.ownD i es') := by
  intro h₀ env T ρ A s r Q E I hE hex hQ hErr
  replace hex := ob hex
  obtain ⟨ds, hds, hex1⟩ := hex
  replace hex1 := oi hex1
  obtain ⟨hp, rfl⟩ := hex1
  refine asgL_ok I hx rfl (List_ (wpAny_mono (args_ok (ev_sound G hΦ n sc) es es' h env ρ A s ds E lp I.cx hds) (fun vs s₁ q₁ => ?_) fun _ _ x => x)) hp hQ
  have hl2 := q₁.2.length
  have hlim : ds.length ≤ lim := small_lim (Nat.le_trans (Nat.le_of_eq (evs_size es' ρ ds hds)) hsz)
  refine wpAny_newObj_type ?_ (by show vs.toArray.size ≤ sizeLine; rw [List.size_toArray, hl2]; exact Nat.le_trans hlim lim_line)
  exact ⟨_, vs, rfl, keeps_trans q₁.1 (keeps_push _ _ _), fresh_at q₁.1, ⟨_, Heap.get?_push_size _ rfl⟩, q₁.2.mono fun _ _ e => Heap.get?_push_of_some _ e, hlim⟩

theorem ownL_ok (G : Gl fns base mg mb fa) (hΦ : FnsOk prog w base Φ fa k) {x : Str} {px pos lp pf : Pos} {a : Expr} {i : Nat} {e : Mine.E} (hx : idxVar sc x = some i) (hg : glob sc "list" = true) (h : cE fns n sc a = some e) :
    XOK prog w base Φ k RZ sc (.Assign [.Name x px] (.Call (.Name "list" pf) [a] [] lp) pos) (.ownL i e) := by
  intro h₀ env T ρ A s r Q E I hE hex hQ hErr
  replace hex := ob hex
  obtain ⟨d, hd, hex1⟩ := hex
  replace hex1 := ob hex1
  obtain ⟨ds, hit, hex2⟩ := hex1
  replace hex2 := oi hex2
  obtain ⟨hp, rfl⟩ := hex2
  have J := ev_sound (prog := prog) (w := w) (k := k) G hΦ n sc
  refine asgL_ok I hx rfl (Call_ (load_builtin G I.cx hg (by decide +kernel) boot_list (callWith_type1 (args_cons ?_ (starEach_plain (J.plain h) _ _)) (starEach_plain (J.plain h) _ _)))) hp hQ
  refine wpAny_mono ((J.1 a e h).1 env ρ A s d E I.cx hd) (fun v s₁ h₁ => args_nil ?_) fun _ _ x => x
  obtain ⟨K, hV⟩ := h₁
  have key : ∀ (p : Addr) (vs : List Value) (T : String) (o : Obj) (n : Nat), (T = "list" ∨ T = "tuple") → s₁.heap.get? p = some o → o.cls = .type T → o.data = .seq vs.toArray n → Vs s₁.heap vs ds → ds.length ≤ lim →
      wpAny (model prog w) A (call (.type "list") [.ref p]) (fun v s₂ => ∃ a vs, v = .ref a ∧ Keeps s s₂ ∧ s.heap.get? a = none ∧ s₂.heap.PlainList a (List.toArray vs) ∧ Vs s₂.heap vs ds ∧ ds.length ≤ lim) E s₁ := by
    intro p vs T o n hT ho hc hd hv hl
    refine call_list_seq p hT ho hc hd (fun h' c' hk hD => ?_) (by rw [List.size_toArray, hv.length]; exact Nat.le_trans hl lim_line)
    exact ⟨_, vs, rfl, keeps_trans K ⟨_, _, rfl, hk⟩, fresh_at K, ⟨_, hD⟩, hv.mono hk, hl⟩
  cases hV <;> first | (cases hit; done) | skip
  · rename_i p vs ds1 hpp hv hl
    cases hit
    obtain ⟨o, ho, hc, n, hd⟩ := hpp
    exact key _ vs _ o n (.inr rfl) ho hc hd hv hl
  · rename_i p vs ds1 hpp hv hl
    cases hit
    obtain ⟨o, ho, hc, n, hd⟩ := hpp.isList
    exact key _ vs _ o n (.inl rfl) ho hc hd hv hl

theorem pures_set {ds : List D} {j : Nat} {d : D} (h : D.pures ds = true) (hd : d.pure = true) : D.pures (ds.set j d) = true :=
  List.all_eq_true.mpr fun y hy => (List.mem_or_eq_of_mem_set hy).elim (List.all_eq_true.mp h y) fun q => q ▸ hd
theorem pures_snoc {ds : List D} {d : D} (h : D.pures ds = true) (hd : d.pure = true) : D.pures (ds ++ [d]) = true := by
  have h : ds.all D.pure = true := h
  rw [D.pures, List.all_append, h, List.all_cons, hd]; rfl

theorem seti_ok (G : Gl fns base mg mb fa) (hΦ : FnsOk prog w base Φ fa k) {x : Str} {px pos sp : Pos} {i v : Expr} {ix : Nat} {i' v' : Mine.E} (hx : idxVar sc x = some ix) (hi : cE fns n sc i = some i') (hv : cE fns n sc v = some v')
    (hs : ∀ env, swapsWith v (some (.Subscript (.Name x px) i sp)) pos.line env = pure false) :
    XOK prog w base Φ k RZ sc (.Assign [.Subscript (.Name x px) i sp] v pos) (.seti ix i' v') := by
  intro h₀ env T ρ A s r Q E I hE hex hQ hErr
  replace hex := ob hex
  obtain ⟨ds, hρ, hex1⟩ := hex
  replace hex1 := ob hex1
  obtain ⟨jd, hj, hex2⟩ := hex1
  replace hex2 := ob hex2
  obtain ⟨d, hdv, hex3⟩ := hex2
  replace hex3 := ob hex3
  obtain ⟨j, hjd, hex4⟩ := hex3
  replace hex4 := oi hex4
  obtain ⟨⟨hb1, hb2, hb3⟩, rfl⟩ := hex4
  have := intOf_some hjd; subst this
  have J := ev_sound (prog := prog) (w := w) (k := k) G hΦ n sc
  obtain ⟨h1, h2⟩ := idxVar_some hx
  refine wpAny_Assign_Subscript (wpAny_mono ((J.1 v v' hv).1 env ρ A s d E I.cx hdv) (fun vv s₁ q₁ => ?_) fun _ _ x => x) (hs env)
  have I₁ := I.mono (keeps_heap q₁.1)
  obtain ⟨a, vs, hat, hl, hvs, hpu, hle, chg⟩ := own_at I₁ h1 h2 (Rho.own?_some hρ)
  refine load_var (ρ := ρ) (sc := sc) I.kind hat (wpAny_mono ((J.1 i i' hi).1 env ρ A s₁ _ E I₁.cx hj) (fun iv s₂ q₂ => ?_) fun _ _ x => x) (idxVar_dbg hx)
  obtain ⟨K2, hiv⟩ := q₂
  obtain ⟨t, rfl⟩ := hiv.int_inv
  have hlen := hvs.length
  have l63 : j < 2 ^ 63 := Int.lt_trans (Int.lt_of_lt_of_le hb2 (Int.ofNat_le.mpr hle)) lim_63
  refine setItem_plain (hl.at fun o => keeps_heap K2 _ o) hb1 l63 (by rw [List.size_toArray, hlen]; exact hb2) fun h' hl' hs' => ?_
  obtain ⟨I', tk⟩ := chg s₂.heap h' (vs.set j.toNat vv) (ds.set j.toNat d) (keeps_heap K2) hs' (by simpa using hl') ((hvs.mono (keeps_heap K2)).set _ (q₁.2.mono (keeps_heap K2))) (pures_set hpu hb3) (by rw [List.length_set]; exact hle)
  exact hQ _ _ ⟨((Same.keeps q₁.1).trans (Same.keeps K2)).trans ⟨h', s₂.toks, rfl⟩, (Tk.mono (keeps_heap q₁.1)).trans ((Tk.mono (keeps_heap K2)).trans tk), rfl, I'⟩

theorem app_ok (G : Gl fns base mg mb fa) (hΦ : FnsOk prog w base Φ fa k) {x : Str} {px pos ap cp : Pos} {v : Expr} {ix : Nat} {v' : Mine.E} (hx : idxVar sc x = some ix) (hv : cE fns n sc v = some v') (hline : (ap.endLine == cp.line) = true) :
    XOK prog w base Φ k RZ sc (.Expr (.Call (.Attribute (.Name x px) "append" ap) [v] [] cp) pos) (.app ix v') := by
  intro h₀ env T ρ A s r Q E I hE hex hQ hErr
  replace hex := ob hex
  obtain ⟨ds, hρ, hex1⟩ := hex
  replace hex1 := ob hex1
  obtain ⟨d, hdv, hex2⟩ := hex1
  replace hex2 := oi hex2
  obtain ⟨⟨hb1, hb2⟩, rfl⟩ := hex2
  have J := ev_sound (prog := prog) (w := w) (k := k) G hΦ n sc
  obtain ⟨h1, h2⟩ := idxVar_some hx
  obtain ⟨a, vs, hat, hl, hvs, hpu, hle, chg⟩ := own_at I h1 h2 (Rho.own?_some hρ)
  refine wpAny_Expr_any (Call_method1 rfl (by rw [starEach_plain (J.plain hv)]; rfl) hline (load_var (ρ := ρ) (sc := sc) I.kind hat ?_ (idxVar_dbg hx))) (by simp [interactive, I.kind]) rfl
  refine ⟨"list", "list.append", PySem.F.plainAttrs_list, slot_list_append, type_list_append, hl.isList.typeIs, ?_, ?_⟩
  · intro b e
    cases e
    obtain ⟨n, ho⟩ := hl
    exact ⟨_, ho, rfl⟩
  · refine callWith_builtin (by rfl) (evalArgs_plain (spliced_cons ?_))
    refine wpAny_mono ((J.1 v v' hv).1 env ρ A s _ E I.cx hdv) (fun vv s₂ q₂ => spliced_nil ?_) fun _ _ x => x
    obtain ⟨K2, hV⟩ := q₂
    have hlen := hvs.length
    refine wpAny_list_append_plain (hl.at fun o => keeps_heap K2 _ o) (fun h' hl' hs' => ?_) (by rw [List.size_toArray, hlen]; exact Nat.le_trans (Nat.le_of_lt hb2) lim_line)
    obtain ⟨I', tk⟩ := chg s₂.heap h' (vs ++ [vv]) (ds ++ [d]) (keeps_heap K2) hs' (by simpa using hl') ((hvs.mono (keeps_heap K2)).append (.one hV)) (pures_snoc hpu hb1) (by rw [List.length_append]; exact hb2)
    exact hQ _ _ ⟨(Same.keeps K2).trans ⟨h', s₂.toks, rfl⟩, (Tk.mono (keeps_heap K2)).trans tk, rfl, I'⟩


theorem size_sys (G : Gl fns base mg mb fa) {h : Heap} {A : Around} (o : Ok base k A h) : (h.objs.size == sysModules) = false := by
  obtain ⟨ob, _, _, ho, _⟩ := G.g
  have := Heap.lt_size (o.stays _ _ ho)
  have e : mainGlobals = 3 := rfl
  have e' : sysModules = 1 := rfl
  rw [beq_eq_false_iff_ne, e']
  rw [e] at this
  intro q; rw [q] at this; exact absurd this (by decide)

theorem newD_ok (G : Gl fns base mg mb fa) {x : Str} {px pos dp : Pos} {i : Nat} (hx : idxVar sc x = some i) : XOK prog w base Φ k RZ sc (.Assign [.Name x px] (.Dict [] [] dp) pos) (.newD i) := by
  intro h₀ env T ρ A s r Q E I hE hex hQ hErr
  cases hex
  obtain ⟨h1, h2⟩ := idxVar_some hx
  have hD : DicAt prog w (s.heap.push { cls := .type "dict", data := .dict #[] }) s.heap.objs.size [] := .new (size_sys G I.ok)
  refine wpAny_Assign_Name (wpAny_Dict_empty (store_ok (lo' := .dic []) (a' := s.heap.objs.size) (hb := s.heap) I (fun b o e => Heap.get?_push_of_some _ e) h1 h2 ⟨rfl, hD⟩ (fun _ => size_none _) fun h' tk I' t _ => ?_)) rfl
  exact hQ _ _ ⟨⟨h', tk, rfl⟩, (Tk.mono fun b o e => Heap.get?_push_of_some _ e).trans t, rfl, I'⟩

theorem setd_ok (G : Gl fns base mg mb fa) (hΦ : FnsOk prog w base Φ fa k) {x : Str} {px pos sp : Pos} {i v : Expr} {ix : Nat} {i' v' : Mine.E} (hx : idxVar sc x = some ix) (hi : cE fns n sc i = some i') (hv : cE fns n sc v = some v')
    (hs : ∀ env, swapsWith v (some (.Subscript (.Name x px) i sp)) pos.line env = pure false) :
    XOK prog w base Φ k RZ sc (.Assign [.Subscript (.Name x px) i sp] v pos) (.setd ix i' v') := by
  intro h₀ env T ρ A s r Q E I hE hex hQ hErr
  replace hex := ob hex
  obtain ⟨d, hdv, hex1⟩ := hex
  replace hex1 := ob hex1
  obtain ⟨kvs, hρ, hex2⟩ := hex1
  replace hex2 := ob hex2
  obtain ⟨y, hy, hex3⟩ := hex2
  replace hex3 := ob hex3
  obtain ⟨kk, hk, hex4⟩ := hex3
  replace hex4 := oi hex4
  obtain ⟨⟨hb1, hb2, hb3⟩, rfl⟩ := hex4
  have J := ev_sound (prog := prog) (w := w) (k := k) G hΦ n sc
  obtain ⟨h1, h2⟩ := idxVar_some hx
  refine wpAny_Assign_Subscript (wpAny_mono ((J.1 v v' hv).1 env ρ A s d E I.cx hdv) (fun vv s₁ q₁ => ?_) fun _ _ x => x) (hs env)
  have I₁ := I.mono (keeps_heap q₁.1)
  obtain ⟨a, hat, hD, chg⟩ := dic_at I₁ h1 h2 (Rho.dic?_some hρ)
  refine load_var (ρ := ρ) (sc := sc) I.kind hat (wpAny_mono ((J.1 i i' hi).1 env ρ A s₁ _ E I₁.cx hy) (fun iv s₂ q₂ => ?_) fun _ _ x => x) (idxVar_dbg hx)
  obtain ⟨K2, hiv⟩ := q₂
  refine dic_set (units8 (I₁.mono (keeps_heap K2)).ok) (hD.keeps (keeps_heap K2)) hiv hk hb1 hb2 (q₁.2.mono (keeps_heap K2)) hb3 fun h' tk' hD' hs' => ?_
  obtain ⟨I', tk⟩ := chg s₂.heap h' _ (keeps_heap K2) hs' hD'
  exact hQ _ _ ⟨((Same.keeps q₁.1).trans (Same.keeps K2)).trans ⟨h', tk', rfl⟩, (Tk.mono (keeps_heap q₁.1)).trans ((Tk.mono (keeps_heap K2)).trans tk), rfl, I'⟩

theorem whl_ok (G : Gl fns base mg mb fa) (hΦ : FnsOk prog w base Φ fa k) {t : Expr} {c : Mine.E} {body : List Stmt} {b : Ss} {pos : Pos} (h : cE fns n sc t = some c) (hb : XsOK prog w base Φ k RZ sc body b) :
    XOK prog w base Φ k RZ sc (.While t body [] pos) (.whl c b) := by
  intro h₀ env T ρ A s r Q E I hE hex hQ hErr
  have hex : loopW (fun ρ => (ev Φ ρ c).bind isTrueD) (fun ρ => exs Φ ρ b) lim ρ = some r := hex
  refine wpAny_While (codeAny_whileLoop (fun m s' => Same s s' ∧ Tk s.heap s'.heap ∧ ∃ ρ', Inv prog w base h₀ k sc env T ρ' A s'.heap ∧ loopW (fun ρ => (ev Φ ρ c).bind isTrueD) (fun ρ => exs Φ ρ b) m ρ' = some r) ?_ lim ⟨Same.refl s, Tk.refl _, ρ, I, hex⟩)
  rintro m s' ⟨sm, tk, ρ', I', hl⟩
  cases m with
  | zero => cases hl
  | succ m =>
    replace hl := ob hl
    obtain ⟨t', ht, hl⟩ := hl
    replace ht := ob ht
    obtain ⟨d, hd, ht⟩ := ht
    rw [isTrueD_some ht] at hd
    refine wpAny_passesOwn hE (wpAny_mono (((ev_sound G hΦ n sc).1 t c h).2 env ρ' A s' t' E I'.cx hd) (fun q s₁ hq => ?_) fun _ _ x => x)
    obtain ⟨rfl, K⟩ := hq
    have I₁ := I'.mono (keeps_heap K)
    have sm₁ := sm.trans (Same.keeps K)
    have tk₁ := tk.trans (Tk.mono (keeps_heap K))
    cases q with
    | false =>
      cases hl
      exact wpAny_execs_nil (hQ _ _ ⟨sm₁, tk₁, rfl, I₁⟩)
    | true =>
      replace hl := ob hl
      obtain ⟨rb, hbd, hl⟩ := hl
      refine wpAny_passesOwn hE (hb h₀ env T ρ' A s₁ rb _ E I₁ hE hbd (fun fl s₂ F => ?_) fun c e s₂ hc sm₂ z => ?_)
      · obtain ⟨F1, F2, F3⟩ := F
        cases rb with
        | next ρ₂ => obtain ⟨rfl, I₂⟩ := F3; exact ⟨m, Nat.lt_succ_self m, sm₁.trans F1, tk₁.trans F2, ρ₂, I₂, hl⟩
        | cont ρ₂ => obtain ⟨rfl, I₂⟩ := F3; exact ⟨m, Nat.lt_succ_self m, sm₁.trans F1, tk₁.trans F2, ρ₂, I₂, hl⟩
        | ret d' =>
          cases hl
          obtain ⟨v, ρ₂, rfl, hV, I₂⟩ := F3
          exact hQ _ _ ⟨sm₁.trans F1, tk₁.trans F2, v, ρ₂, rfl, hV, I₂⟩
        | err c => exact F3.elim
      · subst hc; cases hl
        exact hErr c e s₂ rfl (sm₁.trans sm₂) z
end
end Mine

namespace Mine
open PySem PySem.Calls PyProof.Rows PySem.SeqAt

section
variable {prog : Program} {w : World} {base : Heap} {fns excs : List Str} {mg mb : Str → Option Value} {fa : Nat → Addr} {Φ : Fns} {k n : Nat} {sc : Sc} {RZ : RZt}

theorem compFor_some {y : Str} {py : Pos} {v : Expr} (h : compFor sc y py v = true) : ∃ elt gens scope cpos, v = .ListComp elt gens scope cpos ∧ sc.kd.lookup y = some .local ∧ (py.line == cpos.line) = true ∧ (scope.names.any fun z => z.1 == y && (z.2 == .local || z.2 == .cell)) = false := by
  cases v <;> first | exact nns h | exact nnb h | skip
  rename_i elt gens scope cpos
  have h : (sc.kd.lookup y == some NameKind.local && py.line == cpos.line && !(scope.names.any fun z => z.1 == y && (z.2 == NameKind.local || z.2 == NameKind.cell))) = true := h
  rw [Bool.and_eq_true, Bool.and_eq_true, Bool.not_eq_true'] at h
  exact ⟨elt, gens, scope, cpos, rfl, beq_iff_eq.mp h.1.1, h.1.2, h.2⟩

theorem comp_swaps {env : Env} {y : Str} {py cpos : Pos} {l : Nat} {elt : Expr} {gens : List Comprehension} {scope : Scope} (hk : env.kindOf y = some .local) (hkind : env.scope.kind = .function) (hline : (py.line == cpos.line) = true) (hno : (scope.names.any fun z => z.1 == y && (z.2 == .local || z.2 == .cell)) = false) :
    swapsWith (.ListComp elt gens scope cpos) (some (.Name y py)) l env = pure true := by
  show (pure (env.blockKind == .function && env.kindOf y == some .local && py.line == cpos.line && !(scope.names.any fun (n, k) => n == y && (k == .local || k == .cell))) : Sem Bool) = pure true
  have hb : env.blockKind = .function := by
    unfold Env.blockKind
    rw [hkind]; rfl
  have hno' : (scope.names.any fun (n, k) => n == y && (k == .local || k == .cell)) = false := hno
  rw [hb, hk, hline, hno']; rfl

theorem ownC_ok (G : Gl fns base mg mb fa) (hΦ : FnsOk prog w base Φ fa k) {y : Str} {py pos cpos : Pos} {elt : Expr} {gens : List Comprehension} {scope : Scope} {i : Nat} {e : Mine.E} (hx : idxVar sc y = some i)
    (hloc : sc.kd.lookup y = some .local) (hline : (py.line == cpos.line) = true) (hno : (scope.names.any fun z => z.1 == y && (z.2 == .local || z.2 == .cell)) = false) (h : cE fns n sc (.ListComp elt gens scope cpos) = some e) :
    XOK prog w base Φ k RZ sc (.Assign [.Name y py] (.ListComp elt gens scope cpos) pos) (.ownC i e) := by
  cases n with
  | zero => cases h
  | succ n =>
  obtain ⟨x, px, iter, ifs, it, el, cd, rfl, hco, hit, hel, rfl, hcd⟩ := cComp_parts h
  intro h₀ env T ρ A s r Q E I hE hex hQ hErr
  replace hex := ob hex
  obtain ⟨dd, hev, hex1⟩ := hex
  replace hex1 := ob hex1
  obtain ⟨res, hdd, hex2⟩ := hex1
  replace hex2 := oi hex2
  obtain ⟨hpu, rfl⟩ := hex2
  obtain ⟨ds, res', hds, hres, hp, rfl⟩ := ev_comp_parts hev
  cases hdd
  have J := ev_sound (prog := prog) (w := w) (k := k) G hΦ n sc
  have J' := ev_sound (prog := prog) (w := w) (k := k) G hΦ n (compSc sc scope.names x)
  obtain ⟨hs, hi⟩ := it_ok (prog := prog) (w := w) (E := E) G J hit I.cx hds
  rw [exec_Assign_Name_used _ _ _ _ (comp_swaps ((I.kindOf y).trans hloc) I.kind hline hno)]
  refine wpAny_bind (wpAny_standAt (wpAny_bind ?_))
  show wpAny _ A (do let _ ← comprehension (.ListComp elt [⟨.Name x px, iter, ifs, 0⟩] scope cpos) scope env _ (newList []) false (eval iter env) (some (assign (.Name y py) env))) _ _ s
  refine wpAny_bind (wpAny_mono (comp_ok (Q := fun _ s' => Q .next s') (use := some (assign (.Name y py) env)) I.cx (compOk_of hco) hs (it_simple hi) ((J'.1 elt el hel).1) (hcd.imp id fun ⟨t, e, q⟩ => ⟨t, e, (J'.1 t cd q).2⟩) hres hpu ?_) (fun _ s' hq => wpAny_pure (wpAny_pure hq)) fun _ _ e => e)
  intro Dd C s' m' ys hdl hk hD hC hDC hn hl hvs
  have hlen : res.length ≤ lim := Nat.le_trans (compO_len hres) hdl
  obtain ⟨oC, esC, epC, hoC, _⟩ := id hn
  have K0 : ∀ b o, s.heap.get? b = some o → (s'.heap.hide Dd).get? b = some o := fun b o e => by
    rw [Heap.hide_ne _ (fun q => by rw [q, hD] at e; cases e)]; exact keeps_heap hk b o e
  have Ig := I.guardNew K0 hC (by rw [Heap.hide_ne _ (Ne.symm hDC)]; exact hoC)
  refine wpAny_assign_Name (putL_ok Ig hx (fun b o e => Heap.of_hide e) (Heap.hide_self _ _) hl hvs hpu hlen fun h₂ tk₂ I₂ t₂ sb => ?_)
  have hCL : env.locals ≠ C := Ne.symm (Ig.prot _ (.head _)).2.1
  have hCc : ∀ z c, env.cells.lookup z = some c → c ≠ C := fun z c hz e => (Ig.prot _ (.head _)).2.2 z (e ▸ hz)
  obtain ⟨q, hsb, hq⟩ := sb
  have hn₂ := hn.sameBut hsb (Ne.symm (hq.elim (fun e => e ▸ hCL) fun ⟨z, hz⟩ => hCc z q hz))
  refine ⟨m', hn₂, fun h₃ hs₃ => ?_⟩
  obtain ⟨I₃, t₃⟩ := I₂.aside (h' := h₃) (fun a o ha e => hs₃.extBut a o ha e) (I.h0_none hC) (I.tl_ne C hC) (fun a items t => ns_notuple hn₂ t) (I.frames_ne hC)
  exact hQ _ _ ⟨(Same.keeps hk).trans ⟨h₃, tk₂, rfl⟩, ((Tk.mono (keeps_heap hk)).trans t₂).trans t₃, rfl, I₃⟩
end
end Mine

namespace Mine
open PySem PySem.Calls PyProof.Rows PySem.SeqAt

section
variable {prog : Program} {w : World} {base : Heap} {fns excs : List Str} {mg mb : Str → Option Value} {fa : Nat → Addr} {Φ : Fns} {k n : Nat} {sc : Sc} {RZ : RZt}

theorem plain_swaps {v : Expr} (h : plainE v = true) (t : Option Expr) (l : Nat) (env : Env) : swapsWith v t l env = pure false := by
  cases v <;> first | rfl | cases h
theorem asItem_some {v : Expr} {q : Nat × Nat × Es} (h : asItem fns n sc v = some q) : ∃ c u p1 p2, v = .Subscript c (.Constant (.int q.1) u p1) p2 ∧ asCall fns n sc c = some q.2 := by
  replace h := ob h
  obtain ⟨⟨c, i⟩, hc, h1⟩ := h
  replace h1 := ob h1
  obtain ⟨kk, hk, h2⟩ := h1
  replace h2 := ob h2
  obtain ⟨j, hj, h3⟩ := h2
  replace h3 := om h3
  obtain ⟨q', hq, rfl⟩ := h3
  obtain ⟨p2, rfl⟩ := subOf_some hc
  obtain ⟨u, p1, hi⟩ := constOf_some hk
  have hi : i = _ := hi
  subst hi
  have := cNat_some hj; subst this
  exact ⟨c, u, p1, p2, rfl, hq⟩
theorem asList_some {v a : Expr} (h : asList sc v = some a) : ∃ p pos, v = .Call (.Name "list" p) [a] [] pos ∧ glob sc "list" = true := by
  replace h := ob h
  obtain ⟨⟨fn, args, pos⟩, hc, h1⟩ := h
  replace h1 := oi' h1
  obtain ⟨⟨h2, h3⟩, h4⟩ := h1
  have := callOf_some hc; subst this
  obtain ⟨p, hp⟩ := nameIs_some h2
  have hp : fn = _ := hp
  subst hp
  have ha : args = [a] := one_some h4
  subst ha
  exact ⟨p, pos, rfl, h3⟩

theorem asg_sound (G : Gl fns base mg mb fa) (hΦ : FnsOk prog w base Φ fa k) (ER : Errs prog w base Φ fa k excs RZ) {x : Str} {px pos : Pos} {i : Nat} {v : Expr} {st' : S} (hi : idxVar sc x = some i) (h : cAsg fns n sc x px i v = some st') :
    XOK prog w base Φ k RZ sc (.Assign [.Name x px] v pos) st' := by
  unfold cAsg at h
  cases h1 : asCall fns n sc v with
  | some q => rw [h1] at h; cases h; exact asgCall G hΦ ER hi h1
  | none =>
    rw [h1] at h
    dsimp only at h
    cases h2 : listOf v with
    | some es =>
      rw [h2] at h
      replace h := ob h
      obtain ⟨es', hes, h⟩ := h
      obtain ⟨hsz, rfl⟩ := oi h
      obtain ⟨p, rfl⟩ := listOf_some h2
      exact ownD_ok G hΦ hi hes hsz
    | none =>
      rw [h2] at h
      dsimp only at h
      cases h3 : asItem fns n sc v with
      | some q =>
        rw [h3] at h
        cases h
        obtain ⟨c, u, p1, p2, rfl, hc⟩ := asItem_some h3
        exact asgItem G hΦ ER hi hc
      | none =>
        rw [h3] at h
        dsimp only at h
        cases h4 : asList sc v with
        | some a =>
          rw [h4] at h
          obtain ⟨e, he, rfl⟩ := om h
          obtain ⟨p, pos, rfl, hg⟩ := asList_some h4
          exact ownL_ok G hΦ hi hg he
        | none =>
          rw [h4] at h
          dsimp only at h
          by_cases hed : isEmptyDict v = true
          · rw [if_pos hed] at h
            cases h
            cases v <;> first | exact nnb hed | skip
            rename_i ks vs dp
            have hed : (ks.isEmpty && vs.isEmpty) = true := hed
            rw [Bool.and_eq_true] at hed
            have e1 := List.isEmpty_iff.mp hed.1
            have e2 := List.isEmpty_iff.mp hed.2
            subst e1 e2
            exact newD_ok G hi
          rw [if_neg hed] at h
          replace h := ob h
          obtain ⟨e, he, h⟩ := h
          by_cases hp : plainE v = true
          · rw [if_pos hp] at h; cases h
            exact asgE G hΦ hi he fun env => plain_swaps hp _ _ _
          · rw [if_neg hp] at h
            obtain ⟨hc, rfl⟩ := oi h
            obtain ⟨elt, gens, scope, cpos, rfl, q1, q2, q3⟩ := compFor_some hc
            exact ownC_ok G hΦ hi q1 q2 q3 he

theorem unp_sound (G : Gl fns base mg mb fa) (hΦ : FnsOk prog w base Φ fa k) (ER : Errs prog w base Φ fa k excs RZ) {ts : List Expr} {x1} {tp pos : Pos} {is : List Nat} {v : Expr} {st' : S} (hi : idxVars sc ts = some is) (h : cUnp fns n sc is v = some st') :
    XOK prog w base Φ k RZ sc (.Assign [.Tuple ts x1 tp] v pos) st' := by
  unfold cUnp at h
  cases h1 : asCall fns n sc v with
  | some q => rw [h1] at h; cases h; exact asgUnp G hΦ ER hi h1
  | none =>
    rw [h1] at h
    replace h := oi' h
    obtain ⟨hv, h⟩ := h
    obtain ⟨e, he, rfl⟩ := om h
    refine unpE G hΦ hi he (fun env => ?_) fun env => ?_ <;> (cases v <;> first | rfl | cases hv)

theorem tgt_sound (G : Gl fns base mg mb fa) (hΦ : FnsOk prog w base Φ fa k) (ER : Errs prog w base Φ fa k excs RZ) {t v : Expr} {pos : Pos} {st' : S} (h : cTgt fns n sc v t = some st') : XOK prog w base Φ k RZ sc (.Assign [t] v pos) st' := by
  cases t with
  | Name x px =>
    replace h := ob h
    obtain ⟨i, hi, h⟩ := h
    exact asg_sound G hΦ ER hi h
  | Tuple es x1 tp =>
    replace h := ob h
    obtain ⟨is, hi, h⟩ := h
    exact unp_sound G hΦ ER hi h
  | Subscript o i sp =>
    obtain ⟨hp, h1⟩ := oi' (show (if plainE v = true then (nameOf o).bind _ else none) = some st' from h)
    replace h1 := ob h1
    obtain ⟨x, hx, h2⟩ := h1
    replace h2 := ob h2
    obtain ⟨ix, hix, h3⟩ := h2
    replace h3 := ob h3
    obtain ⟨i', hi, h4⟩ := h3
    replace h4 := om h4
    obtain ⟨v', hv, h5⟩ := h4
    obtain ⟨px, rfl⟩ := nameOf_some hx
    by_cases hdn : dictNames.contains x = true
    · rw [if_pos hdn] at h5; subst h5
      exact setd_ok G hΦ hix hi hv fun env => plain_swaps hp _ _ _
    · rw [if_neg hdn] at h5; subst h5
      exact seti_ok G hΦ hix hi hv fun env => plain_swaps hp _ _ _
  | _ => exact nns h

theorem for_sound (G : Gl fns base mg mb fa) (hΦ : FnsOk prog w base Φ fa k) {t it : Expr} {body : List Stmt} {b : Ss} {pos : Pos} {st' : S} (hb : XsOK prog w base Φ k RZ sc body b) (h : cFor fns n sc it b t = some st') : XOK prog w base Φ k RZ sc (.For t it body [] pos) st' := by
  cases t with
  | Name x px =>
    replace h := ob h
    obtain ⟨i, hi, h⟩ := h
    cases h1 : nameOf it with
    | some y =>
      rw [h1] at h
      obtain ⟨j, hj, rfl⟩ := om h
      obtain ⟨py, rfl⟩ := nameOf_some h1
      exact forV_ok hi hj hb
    | none =>
      rw [h1] at h
      obtain ⟨it', hit, rfl⟩ := om h
      exact for1_ok G (ev_sound G hΦ n sc) hi hit hb
  | _ => exact nns h

theorem exp_sound (G : Gl fns base mg mb fa) (hΦ : FnsOk prog w base Φ fa k) (ER : Errs prog w base Φ fa k excs RZ) {v : Expr} {pos : Pos} {st' : S} (h : cExp fns n sc v = some st') : XOK prog w base Φ k RZ sc (.Expr v pos) st' := by
  unfold cExp at h
  cases h1 : asCall fns n sc v with
  | some q => rw [h1] at h; cases h; exact exprCall G hΦ ER h1
  | none =>
    rw [h1] at h
    obtain ⟨⟨fn, args, cp⟩, hc, h2⟩ := ob h
    replace h2 := ob h2
    obtain ⟨⟨o, m, ap⟩, hq, h3⟩ := h2
    replace h3 := oi' h3
    obtain ⟨⟨hm, hl⟩, h4⟩ := h3
    replace h4 := ob h4
    obtain ⟨x, hx, h5⟩ := h4
    replace h5 := ob h5
    obtain ⟨i, hi, h6⟩ := h5
    replace h6 := ob h6
    obtain ⟨a, ha, h7⟩ := h6
    replace h7 := om h7
    obtain ⟨e, he, rfl⟩ := h7
    have := callOf_some hc; subst this
    have hq' : fn = .Attribute o m ap := attrOf_some hq
    subst hq'
    have hm : m = _ := hm
    subst hm
    obtain ⟨px, hx'⟩ := nameOf_some hx
    have hx' : o = _ := hx'
    subst hx'
    have ha' : args = [a] := one_some ha
    subst ha'
    exact app_ok G hΦ hi he hl

mutual
theorem x_sound (G : Gl fns base mg mb fa) (hΦ : FnsOk prog w base Φ fa k) (ER : Errs prog w base Φ fa k excs RZ) : (st : Stmt) → (st' : S) → cS fns excs n sc st = some st' → XOK prog w base Φ k RZ sc st st'
  | .Return v pos, st', h => by
    replace h := ob h
    obtain ⟨e, rfl, h⟩ := h
    obtain ⟨e', he, rfl⟩ := om h
    exact ret_ok G hΦ he
  | .Continue pos, st', h => by cases h; exact cont_ok
  | .If t a b pos, st', h => by
    replace h := ob h
    obtain ⟨c, hc, h⟩ := h
    replace h := ob h
    obtain ⟨x, hx, h⟩ := h
    obtain ⟨y, hy, rfl⟩ := om h
    exact iff_ok G hΦ hc (xs_sound G hΦ ER a x hx) (xs_sound G hΦ ER b y hy)
  | .Assign ts v pos, st', h => by
    replace h := ob h
    obtain ⟨t, ht, h⟩ := h
    have := one_some ht; subst this
    exact tgt_sound G hΦ ER h
  | .For t it body orelse pos, st', h => by
    obtain ⟨ho, h1⟩ := oi' (show (if orelse.isEmpty = true then (cSs fns excs n sc body).bind _ else none) = some st' from h)
    replace h1 := ob h1
    obtain ⟨b, hb, h2⟩ := h1
    cases orelse with
    | cons => cases ho
    | nil => exact for_sound G hΦ (xs_sound G hΦ ER body b hb) h2
  | .While t body orelse pos, st', h => by
    obtain ⟨ho, h1⟩ := oi' (show (if orelse.isEmpty = true then (cE fns n sc t).bind _ else none) = some st' from h)
    replace h1 := ob h1
    obtain ⟨c, hc, h2⟩ := h1
    obtain ⟨b, hb, rfl⟩ := om h2
    cases orelse with
    | cons => cases ho
    | nil => exact whl_ok G hΦ hc (xs_sound G hΦ ER body b hb)
  | .Expr v pos, st', h => exp_sound G hΦ ER h
  | .Raise e c pos, st', h => by
    cases h
    intro h₀ env T ρ A s r Q E I hE hex hQ hErr
    cases hex
  | .FunctionDef .., st', h => by cases h
  | .AsyncFunctionDef .., st', h => by cases h
  | .ClassDef .., st', h => by cases h
  | .Delete .., st', h => by cases h
  | .TypeAlias .., st', h => by cases h
  | .AugAssign .., st', h => by cases h
  | .AnnAssign .., st', h => by cases h
  | .AsyncFor .., st', h => by cases h
  | .With .., st', h => by cases h
  | .AsyncWith .., st', h => by cases h
  | .Match .., st', h => by cases h
  | .Try .., st', h => by cases h
  | .TryStar .., st', h => by cases h
  | .Assert .., st', h => by cases h
  | .Import .., st', h => by cases h
  | .ImportFrom .., st', h => by cases h
  | .Global .., st', h => by cases h
  | .Nonlocal .., st', h => by cases h
  | .Pass .., st', h => by cases h
  | .Break .., st', h => by cases h
theorem xs_sound (G : Gl fns base mg mb fa) (hΦ : FnsOk prog w base Φ fa k) (ER : Errs prog w base Φ fa k excs RZ) : (b : List Stmt) → (b' : Ss) → cSs fns excs n sc b = some b' → XsOK prog w base Φ k RZ sc b b'
  | [], b', h => by cases h; exact seq_nil
  | st :: r, b', h => by
    replace h := ob h
    obtain ⟨a, ha, h⟩ := h
    obtain ⟨b, hb, rfl⟩ := om h
    exact seq_cons (x_sound G hΦ ER st a ha) (xs_sound G hΦ ER r b hb)
end
end
end Mine

namespace Mine
open PySem PySem.Calls PyProof.Rows PySem.SeqAt

theorem zip_lookup_some : ∀ {ns : List Str} {vs : List Value}, vs.length = ns.length → ∀ n ∈ ns, ((ns.zip vs).lookup n).isSome = true
  | [], _, _, n, h => by cases h
  | m :: ns, [], hl, n, h => by cases hl
  | m :: ns, v :: vs, hl, n, h => by
    rw [List.zip_cons_cons, List.lookup_cons]
    by_cases e : n = m
    · subst e; simp
    · rw [beq_eq_false_iff_ne.mpr e]
      rcases List.mem_cons.mp h with q | q
      · exact absurd q e
      · exact zip_lookup_some (by simpa using hl) n q
theorem zip_filterMap : ∀ {ns : List Str} {vs : List Value}, vs.length = ns.length → ns.Nodup → (ns.filterMap fun n => ((ns.zip vs).lookup n).map (n, ·)) = ns.zip vs
  | [], _, _, _ => rfl
  | m :: ns, [], hl, _ => by cases hl
  | m :: ns, v :: vs, hl, hn => by
    rw [List.nodup_cons] at hn
    rw [List.zip_cons_cons, List.filterMap_cons, List.lookup_cons, beq_self_eq_true]
    simp only [Option.map_some]
    congr 1
    have ih := zip_filterMap (ns := ns) (vs := vs) (by simpa using hl) hn.2
    refine Eq.trans ?_ ih
    have key : ∀ l : List Str, m ∉ l → (l.filterMap fun n => (((m, v) :: ns.zip vs).lookup n).map (n, ·)) = l.filterMap fun n => ((ns.zip vs).lookup n).map (n, ·) := by
      intro l hm
      induction l with
      | nil => rfl
      | cons y l ihl =>
        simp only [List.mem_cons, not_or] at hm
        rw [List.filterMap_cons, List.filterMap_cons, ihl hm.2, List.lookup_cons, beq_eq_false_iff_ne.mpr (Ne.symm hm.1)]
    exact key ns hn.1

theorem binds_plain {fd : FuncData} {vals : List Value} (h1 : fd.params.posonlyargs = []) (h2 : fd.params.kwonlyargs = []) (h3 : fd.params.vararg = none) (h4 : fd.params.kwarg = none) (h5 : fd.defaults = .none)
    (hl : vals.length = (fd.params.args.map (·.arg)).length) (hn : (fd.params.args.map (·.arg)).Nodup) : bindArgs fd ⟨vals, []⟩ = pure ((fd.params.args.map (·.arg)).zip vals) := by
  unfold bindArgs
  have e : seqItems? Value.none = (pure none : Sem (Option (Array Value))) := rfl
  simp only [h1, h2, h3, h4, h5, e, List.map_nil, List.nil_append, List.forIn_nil, pure_bind, bind_pure, Option.getD_none, List.drop_nil, List.length_nil, Nat.sub_zero, Option.isNone_none, Option.isSome_none]
  have hmiss : (List.filter (fun n => (List.lookup n ((fd.params.args.map (·.arg)).zip vals)).isNone) ((fd.params.args.map (·.arg)).take (fd.params.args.map (·.arg)).length)) = [] := by
    rw [List.filter_eq_nil_iff]
    intro n hnm
    have := zip_lookup_some hl n (List.mem_of_mem_take hnm)
    simp only [Option.isNone_iff_eq_none]
    intro q; rw [q] at this; cases this
  generalize hN : fd.params.args.map (·.arg) = N at *
  have hz := zip_filterMap hl hn
  rw [if_neg (by simp [hl]), hmiss]
  simp only [List.isEmpty_nil, Bool.not_true, Bool.false_eq_true, if_false, List.zip_nil_right, List.forIn_nil, pure_bind, List.append_nil, hz]
end Mine

namespace Mine
open PySem PySem.Calls PyProof.Rows PySem.SeqAt

theorem ix_get : ∀ {names : List (Str × NameKind)} {n i : Nat} {x : Str}, ((names.zipIdx n).map fun p => (p.1.1, p.2)).lookup x = some i → n ≤ i ∧ ∃ kd, names[i - n]? = some (x, kd)
  | [], _, _, _, h => by simp at h
  | (y, kd) :: r, n, i, x, h => by
    rw [List.zipIdx_cons, List.map_cons, List.lookup_cons] at h
    by_cases e : x = y
    · subst e
      simp only [beq_self_eq_true, Option.some.injEq] at h
      subst h
      exact ⟨Nat.le_refl _, kd, by simp⟩
    · simp only [beq_eq_false_iff_ne.mpr e] at h
      obtain ⟨h1, kd', h2⟩ := ix_get h
      refine ⟨by omega, kd', ?_⟩
      rw [show i - n = (i - (n + 1)) + 1 by omega]
      simpa using h2

theorem rhoL_get {names : List (Str × NameKind)} {ps : List Str} {los : List Lo} {i : Nat} {x : Str} {kd : NameKind} {lo : Lo} (h : names[i]? = some (x, kd)) (hl : Rho.get (rhoL names ps los) i = some lo) : (ps.zip los).lookup x = some lo := by
  unfold Rho.get rhoL at hl
  rw [List.getElem?_map, h] at hl
  exact hl

/-- what a call hands over -/
inductive Pas (h : Heap) : List Value → List Lo → Prop
  | nil : Pas h [] []
  | arg {v : Value} {d : D} {vs : List Value} {los : List Lo} : V h v d → Pas h vs los → Pas h (v :: vs) (.arg d :: los)
  | ob {a : Addr} {vs : List Value} {los : List Lo} : Pas h vs los → Pas h (.ref a :: vs) (.ob a :: los)
theorem Vs.pas {h : Heap} : ∀ {vs : List Value} {ds : List D}, Vs h vs ds → Pas h vs (ds.map Lo.arg)
  | _, _, .nil => .nil
  | _, _, .cons a b => .arg a b.pas
theorem Pas.length {h : Heap} {vs : List Value} {los : List Lo} (x : Pas h vs los) : vs.length = los.length := by
  induction x with
  | nil => rfl
  | arg _ _ ih => rw [List.length_cons, List.length_cons, ih]
  | ob _ ih => rw [List.length_cons, List.length_cons, ih]
theorem zip_P {prog : Program} {w : World} {h h' : Heap} {a : Addr} {x : Str} {lo : Lo} : ∀ {ps : List Str} {vs : List Value} {los : List Lo}, Pas h vs los → (ps.zip los).lookup x = some lo → ∃ v, (ps.zip vs).lookup x = some v ∧ LoV prog w h h' a v lo
  | [], _, _, _, e => by simp at e
  | p :: ps, _, _, .nil, e => by simp at e
  | p :: ps, v :: vs, _ :: los, .arg a b, e => by
    rw [List.zip_cons_cons, List.lookup_cons] at e ⊢
    by_cases q : x = p
    · subst q
      simp only [beq_self_eq_true, Option.some.injEq] at e ⊢
      subst e
      exact ⟨v, rfl, a⟩
    · simp only [beq_eq_false_iff_ne.mpr q] at e ⊢
      exact zip_P b e
  | p :: ps, _ :: vs, _ :: los, .ob (a := a') b, e => by
    rw [List.zip_cons_cons, List.lookup_cons] at e ⊢
    by_cases q : x = p
    · subst q
      simp only [beq_self_eq_true, Option.some.injEq] at e ⊢
      subst e
      exact ⟨_, rfl, rfl⟩
    · simp only [beq_eq_false_iff_ne.mpr q] at e ⊢
      exact zip_P b e
theorem Pas.mine {h : Heap} {vs : List Value} {los : List Lo} (x : Pas h vs los) : ∀ lo ∈ los, lo.mine = false := by
  induction x with
  | nil => intro lo h; cases h
  | arg _ _ ih => intro lo h; rcases List.mem_cons.mp h with rfl | h; rfl; exact ih lo h
  | ob _ ih => intro lo h; rcases List.mem_cons.mp h with rfl | h; rfl; exact ih lo h
theorem rhoL_mine {names : List (Str × NameKind)} {ps : List Str} {los : List Lo} {i : Nat} {lo : Lo} (hm : ∀ lo ∈ los, lo.mine = false) (hl : Rho.get (rhoL names ps los) i = some lo) : lo.mine = false := by
  unfold Rho.get rhoL at hl
  rw [List.getElem?_map] at hl
  cases q : names[i]? with
  | none => rw [q] at hl; cases hl
  | some p =>
    rw [q] at hl
    have hl : (ps.zip los).lookup p.1 = some lo := hl
    exact hm lo (List.of_mem_zip (PySem.mem_of_lookup hl)).2

theorem bindL_other {kf : Str → Option NameKind} {x : Str} : ∀ {binds : List (Str × Value)} {m : Str → Option Value}, x ∉ binds.map (·.1) → bindL kf binds m x = m x
  | [], m, _ => rfl
  | (n, v) :: r, m, h => by
    simp only [List.map_cons, List.mem_cons, not_or] at h
    unfold bindL
    rw [bindL_other h.2]
    split
    · exact if_neg h.1
    · rfl
theorem bindC_other {kf : Str → Option NameKind} {x : Str} : ∀ {binds : List (Str × Value)} {m : Str → Option Value}, x ∉ binds.map (·.1) → bindC kf binds m x = m x
  | [], m, _ => rfl
  | (n, v) :: r, m, h => by
    simp only [List.map_cons, List.mem_cons, not_or] at h
    unfold bindC
    rw [bindC_other h.2]
    split
    · rfl
    · exact if_neg h.1
theorem bindL_get {kf : Str → Option NameKind} {x : Str} {v : Value} (hk : kf x = some .local) : ∀ {binds : List (Str × Value)} {m : Str → Option Value}, (binds.map (·.1)).Nodup → binds.lookup x = some v → bindL kf binds m x = some v
  | [], m, _, h => by simp at h
  | (n, u) :: r, m, hn, h => by
    rw [List.map_cons, List.nodup_cons] at hn
    unfold bindL
    rw [List.lookup_cons] at h
    by_cases q : x = n
    · subst q
      simp only [beq_self_eq_true, Option.some.injEq] at h
      subst h
      rw [bindL_other hn.1, if_pos hk, if_pos rfl]
    · simp only [beq_eq_false_iff_ne.mpr q] at h
      exact bindL_get hk hn.2 h
theorem bindC_get {kf : Str → Option NameKind} {x : Str} {v : Value} (hk : kf x = some .cell) : ∀ {binds : List (Str × Value)} {m : Str → Option Value}, (binds.map (·.1)).Nodup → binds.lookup x = some v → bindC kf binds m x = some v
  | [], m, _, h => by simp at h
  | (n, u) :: r, m, hn, h => by
    rw [List.map_cons, List.nodup_cons] at hn
    unfold bindC
    rw [List.lookup_cons] at h
    by_cases q : x = n
    · subst q
      simp only [beq_self_eq_true, Option.some.injEq] at h
      subst h
      rw [bindC_other hn.1, if_neg (by rw [hk]; decide), if_pos rfl]
    · simp only [beq_eq_false_iff_ne.mpr q] at h
      exact bindC_get hk hn.2 h

theorem cells_some {x : Str} : ∀ (names : List (Str × NameKind)) (n : Nat) (acc : List (Str × Addr)), names.lookup x = some .cell ∨ (acc.lookup x).isSome = true → ((cellsFrom n names acc).lookup x).isSome = true
  | [], n, acc, h => by
    rcases h with h | h
    · simp at h
    · exact h
  | (y, kd) :: r, n, acc, h => by
    unfold cellsFrom
    rw [List.lookup_cons] at h
    by_cases q : x = y
    · subst q
      simp only [beq_self_eq_true, Option.some.injEq] at h
      by_cases hk : (kd == NameKind.cell) = true
      · rw [if_pos hk]
        exact cells_some r _ _ (.inr (by simp))
      · rw [if_neg hk]
        refine cells_some r _ _ (.inr ?_)
        rcases h with h | h
        · rw [h] at hk; exact absurd rfl hk
        · exact h
    · simp only [beq_eq_false_iff_ne.mpr q] at h
      by_cases hk : (kd == NameKind.cell) = true
      · rw [if_pos hk]
        refine cells_some r _ _ ?_
        rcases h with h | h
        · exact .inl h
        · exact .inr (by rw [List.lookup_cons, beq_eq_false_iff_ne.mpr q]; exact h)
      · rw [if_neg hk]
        exact cells_some r _ _ h

/-- a def stands at a -/
structure FnAt (base : Heap) (a : Addr) (ps : List Str) (body : List Stmt) (scope : Scope) (o : Obj) (fd : FuncData) : Prop where
  at' : base.get? a = some o
  data : o.data = .func fd
  code : base.CodeRec fd.code fd.qualname
  body' : fd.body = .stmts body
  scope' : fd.scope = scope
  glob : fd.globals = mainGlobals
  blt : fd.builtins = builtinsNs
  clo : fd.closure = []
  bind : ∀ vals : List Value, vals.length = ps.length → bindArgs fd ⟨vals, []⟩ = pure (ps.zip vals)
  co : scope.isCoroutine = false
  gen : scope.isGenerator = false
  kind : scope.kind = .function
  nodup : ps.Nodup
  kinds : ∀ x ∈ ps, scope.names.lookup x = some .local ∨ scope.names.lookup x = some .cell

theorem zip_keys {ps : List Str} {vs : List Value} (h : vs.length = ps.length) : (ps.zip vs).map (·.1) = ps := by
  rw [List.map_fst_zip]; omega

section
variable {prog : Program} {w : World} {base : Heap} {Φ : Fns} {k : Nat} {RZ : RZt} {A : Around} {s : Shared}

theorem inv0L {a : Addr} {ps : List Str} {body : List Stmt} {scope : Scope} {o : Obj} {fd : FuncData} (F : FnAt base a ps body scope o fd) {vs : List Value} {los : List Lo} (O : Ok base (k + 1) A s.heap) (hv : Pas s.heap vs los) (hl : los.length = ps.length) {s₁ : Shared}
    (X : InCallC s (callEnvC fd s.heap.objs.size a).locals (bindL (callEnvC fd s.heap.objs.size a).kindOf (ps.zip vs) fun _ => none) (callEnvC fd s.heap.objs.size a).cells (bindC (callEnvC fd s.heap.objs.size a).kindOf (ps.zip vs) fun _ => none) s₁) :
    Inv prog w base s.heap k (scOf scope) (callEnvC fd s.heap.objs.size a) [] (rhoL scope.names ps los) (A.deeper (callEnvC fd s.heap.objs.size a)) s₁.heap := by
  have hsc := F.scope'
  subst hsc
  have hvl := hv.length
  have hlv : vs.length = ps.length := by omega
  have hk : (ps.zip vs).map (·.1) = ps := zip_keys hlv
  have hnd : ((ps.zip vs).map (·.1)).Nodup := by rw [hk]; exact F.nodup
  have fr0 : s.heap.get? s.heap.objs.size = none := size_none _
  refine ⟨rfl, F.kind, F.glob, F.blt, fun x hx => cells_some _ _ _ (.inl hx), by simp [rhoL, scOf], fun x y i hx hy => ?_, fun x i hx => ?_, X.toInCall.keep, fr0, ⟨_, X.toInCall.ns⟩, fun x c hc => ⟨?_, ?_, ⟨_, X.cell x c hc⟩, fun y hy => ?_⟩, ⟨fun _ => 0, fun x i lo h1 h2 h3 => ?_, fun i lo h hm => ?_, fun i j lo lo' h _ hm _ _ => ?_⟩, fun p hp => (by cases hp), ?_, rfl, ?_, Nat.le_refl _, O.stays⟩
  · obtain ⟨_, k1, e1⟩ := ix_get hx
    obtain ⟨_, k2, e2⟩ := ix_get hy
    rw [e1] at e2; cases e2; rfl
  · obtain ⟨_, k1, e1⟩ := ix_get hx
    have := (List.getElem?_eq_some_iff.mp e1).1
    simpa [scOf] using this
  · have hlt := X.above x c (PySem.mem_of_lookup hc)
    cases q : s.heap.get? c with
    | none => rfl
    | some o' => exact absurd (Nat.lt_trans (Heap.lt_size q) hlt) (Nat.lt_irrefl _)
  · exact Nat.ne_of_gt (X.above x c (PySem.mem_of_lookup hc))
  · exact name_of_addr X.apart (PySem.mem_of_lookup hy) (PySem.mem_of_lookup hc)
  · obtain ⟨_, kd, e1⟩ := ix_get h2
    have hd := rhoL_get e1 h3
    obtain ⟨v, hv1, hv2⟩ := zip_P (prog := prog) (w := w) (h' := s₁.heap) (a := 0) hv hd
    refine ⟨v, ?_, hv2⟩
    have hkx : (callEnvC fd s.heap.objs.size a).kindOf x = fd.scope.names.lookup x := rfl
    have hin : x ∈ ps := by
      have := PySem.mem_of_lookup hv1
      exact (List.of_mem_zip this).1
    rcases F.kinds x hin with hk1 | hk1
    · exact .loc _ (hkx.trans hk1) X.toInCall.ns (bindL_get (hkx.trans hk1) hnd hv1)
    · obtain ⟨c, hc⟩ := Option.isSome_iff_exists.mp (cells_some (x := x) fd.scope.names (s.heap.objs.size + 1) [] (.inl hk1))
      have hcc : (callEnvC fd s.heap.objs.size a).cells.lookup x = some c := hc
      have := X.cell x c hcc
      rw [bindC_get (hkx.trans hk1) hnd hv1] at this
      exact .cell c (hkx.trans hk1) hcc this
  · rw [rhoL_mine hv.mine h] at hm; cases hm
  · rw [rhoL_mine hv.mine h] at hm; cases hm
  · obtain ⟨o1, o2, o3, l, L⟩ := O
    refine ⟨o1, ?_, ?_, callEnvC fd s.heap.objs.size a :: l, Around.frames_deeper L.stack, fun b o q => X.toInCall.keep b o (L.stays b o q), ?_⟩
    · show A.depth + 1 + k < _; omega
    · show A.units + 3 + 10 * k + 100 < _; omega
    · refine .cons (by show fd.scope.kind ≠ .module; rw [F.kind]; decide) rfl X.toInCall.ns ?_ (L.frames.of_keeps fun b o e _ => ⟨o, X.toInCall.keep b o e, rfl⟩)
      cases q : base.get? s.heap.objs.size with
      | none => rfl
      | some o' => have := L.stays _ _ q; rw [fr0] at this; cases this
  · obtain ⟨_, _, _, l, L⟩ := O
    exact ⟨l, Around.frames_deeper L.stack⟩

/-- a call enters a body -/
theorem enterL {a : Addr} {ps : List Str} {body : List Stmt} {scope : Scope} {o : Obj} {fd : FuncData} {E : Value → Shared → Prop} (F : FnAt base a ps body scope o fd) (hlim : base.NoLimit) {vs : List Value} {los : List Lo} {Q : Value → Shared → Prop}
    (O : Ok base (k + 1) A s.heap) (hv : Pas s.heap vs los) (hl : los.length = ps.length)
    (h : ∀ s₁ env, Same s s₁ → Inv prog w base s.heap k (scOf scope) env [] (rhoL scope.names ps los) (A.deeper env) s₁.heap → wpAny (model prog w) (A.deeper env) (execs body env) (fun fl s' => Q (match fl with | .ret v => v | _ => .none) s') (fun _ _ => False) s₁) :
    wpAny (model prog w) A (call (.ref a) vs) Q E s := by
  have hvl := hv.length
  have hsc := F.scope'
  refine wpAny_call (codeAny_call_cells (by have := O.room; omega) (O.stays _ _ F.at') F.data (hlim.keeps O.stays) (F.code.keeps O.stays) F.body' (F.bind vs (by omega)) F.clo (fun x hx => ?_) (fun s₁ X => ?_) (by rw [hsc]; exact F.co) (by rw [hsc]; exact F.gen) (by rw [hsc]; exact F.kind))
  · have hm : x.1 ∈ ps := (List.of_mem_zip hx).1
    rw [hsc]
    rcases F.kinds x.1 hm with q | q
    · exact .inl q
    · exact .inr ⟨q, cells_some _ _ _ (.inl q)⟩
  · exact wpAny_noRaise (h s₁ _ X.toInCall.same (inv0L (prog := prog) (w := w) F O hv hl X))

theorem enter_ok {a : Addr} {ps : List Str} {body : List Stmt} {scope : Scope} {o : Obj} {fd : FuncData} {b : Ss} {E : Value → Shared → Prop} (F : FnAt base a ps body scope o fd) (hlim : base.NoLimit) (hX : XsOK prog w base Φ k RZ (scOf scope) body b) {vs : List Value} {ds : List D} {r : R} {d : D}
    (hrun : exs Φ (rho0 scope.names ps ds) b = some r) (hr : r = .ret d ∨ ((∃ ρ, r = .next ρ) ∧ d = .none)) (hl : ds.length = ps.length) (O : Ok base (k + 1) A s.heap) (hv : Vs s.heap vs ds) :
    wpAny (model prog w) A (call (.ref a) vs) (Post s d) E s := by
  refine enterL F hlim O hv.pas (by rw [List.length_map]; exact hl) fun s₁ env sm I => ?_
  refine hX s.heap _ [] _ _ _ r _ _ I PassesOwn.never hrun (fun fl s' f => ?_) fun c e s' hc _ _ => ?_
  · obtain ⟨f1, f2, f3⟩ := f
    obtain ⟨h2, t2, rfl⟩ := sm.trans f1
    rcases hr with rfl | ⟨⟨ρ, rfl⟩, rfl⟩
    · obtain ⟨v, ρ', rfl, hV, I'⟩ := f3
      exact ⟨⟨h2, t2, rfl, I'.keep⟩, hV⟩
    · obtain ⟨rfl, I'⟩ := f3
      exact ⟨⟨h2, t2, rfl, I'.keep⟩, .none⟩
  · rcases hr with rfl | ⟨⟨ρ, rfl⟩, rfl⟩ <;> cases hc
end
end Mine

namespace Mine
open PySem PySem.Calls PyProof.Rows PySem.SeqAt

noncomputable def fnCheck (d : DefRec) : Bool :=
  d.params.posonlyargs.isEmpty && d.params.kwonlyargs.isEmpty && d.params.vararg.isNone && d.params.kwarg.isNone && !d.scope.isCoroutine && !d.scope.isGenerator && d.scope.kind == .function &&
  decide ((d.params.args.map (·.arg)).Nodup) && (d.params.args.map (·.arg)).all (fun x => d.scope.names.lookup x == some .local || d.scope.names.lookup x == some .cell)

/-- defs that are given whole -/
abbrev Exts := List (Str × (Nat → Fns → List D → Option Out))
noncomputable def prep1 (X : Exts) (fns excs : List Str) (N : Nat) (rs : List DefRec) (n : Str) : Option Fn :=
  (rs.find? (fun d => d.name == n)).bind fun d => if fnCheck d = true then match X.lookup n with
    | some x => some ⟨d.params.args.map (·.arg), d.scope.names, .nil, some x⟩
    | none => (cSs fns excs N (scOf d.scope) d.body).map fun b => ⟨d.params.args.map (·.arg), d.scope.names, b, none⟩ else none
noncomputable def prepAll (X : Exts) (fns excs : List Str) (N : Nat) (rs : List DefRec) : List Str → Option Prg
  | [] => some []
  | n :: r => (prep1 X fns excs N rs n).bind fun f => (prepAll X fns excs N rs r).map fun fs => f :: fs

theorem prepAll_cons {X : Exts} {fns excs : List Str} {N : Nat} {rs : List DefRec} {n : Str} {r : List Str} {P : Prg} (h : prepAll X fns excs N rs (n :: r) = some P) : ∃ f fs, prep1 X fns excs N rs n = some f ∧ prepAll X fns excs N rs r = some fs ∧ P = f :: fs := by
  replace h := ob h
  obtain ⟨f, hf, h⟩ := h
  replace h := om h
  obtain ⟨fs, hfs, rfl⟩ := h
  exact ⟨f, fs, hf, hfs, rfl⟩
theorem prepAll_get {X : Exts} {fns excs : List Str} {N : Nat} {rs : List DefRec} : ∀ {l : List Str} {P : Prg}, prepAll X fns excs N rs l = some P → ∀ {i : Nat} {g : Fn}, P[i]? = some g → ∃ n, l[i]? = some n ∧ prep1 X fns excs N rs n = some g
  | [], P, h, i, g, hg => by cases h; cases hg
  | n :: r, P, h, i, g, hg => by
    obtain ⟨f, fs, hf, hfs, rfl⟩ := prepAll_cons h
    cases i with
    | zero => cases hg; exact ⟨n, rfl, hf⟩
    | succ i => exact prepAll_get hfs hg
theorem prepAll_fn {X : Exts} {fns excs : List Str} {N : Nat} {rs : List DefRec} : ∀ {l : List Str} {P : Prg}, prepAll X fns excs N rs l = some P → ∀ {i : Nat} {n : Str}, l[i]? = some n → ∃ g, P[i]? = some g ∧ prep1 X fns excs N rs n = some g
  | [], P, h, i, g, hg => by cases hg
  | n :: r, P, h, i, g, hg => by
    obtain ⟨f, fs, hf, hfs, rfl⟩ := prepAll_cons h
    cases i with
    | zero => cases hg; exact ⟨f, rfl, hf⟩
    | succ i => exact prepAll_fn hfs hg

noncomputable def addrOf : Value → Addr
  | .ref a => a
  | _ => 0
noncomputable def faOf (fns : List Str) (mg : Str → Option Value) (i : Nat) : Addr := (((fns[i]?).bind mg).map addrOf).getD 0

theorem faOf_eq {fns : List Str} {mg : Str → Option Value} {i : Nat} {n : Str} {a : Addr} (h : fns[i]? = some n) (hm : mg n = some (.ref a)) : faOf fns mg i = a := by
  unfold faOf; rw [h]; show ((mg n).map addrOf).getD 0 = a; rw [hm]; rfl

noncomputable def freeIn (q : Program) (loose : List Str) (x : Str) : Bool := !startupNames.contains x && !loose.contains x && !((recsOf q).map (·.name)).contains x && !((litsOf q).map (·.1)).contains x && !((clssOf q loose).map (·.name)).contains x && x != "__name__"

section
variable {q : Program} {loose : List Str} {mean : ExcName → Option Value} {mg mb : Str → Option Value} {base : Heap} {X : Exts} {fns excs : List Str} {N : Nat} {P : Prg}

theorem fnAt_of (T : Top q loose mean mg mb base) (hp : prepAll X fns excs N (recsOf q) fns = some P) {i : Nat} {g : Fn} (hg : P[i]? = some g) :
    ∃ (d : DefRec) (o : Obj) (fd : FuncData), (recsOf q).find? (fun e => e.name == d.name) = some d ∧ mg d.name = some (.ref (faOf fns mg i)) ∧ fns[i]? = some d.name ∧ FnAt base (faOf fns mg i) g.ps d.body d.scope o fd ∧ (g.names = d.scope.names ∧ g.ps = d.params.args.map (·.arg)) ∧
      ((g.ext = none ∧ cSs fns excs N (scOf d.scope) d.body = some g.body) ∨ ∃ x, X.lookup d.name = some x ∧ g.ext = some x) := by
  obtain ⟨n, hn, h1⟩ := prepAll_get hp hg
  replace h1 := ob h1
  obtain ⟨d, hd, h2⟩ := h1
  replace h2 := oi' h2
  obtain ⟨hc, h3⟩ := h2
  have hmem := List.mem_of_find?_eq_some hd
  have hname : d.name = n := by
    have h4 := List.find?_some hd
    exact beq_iff_eq.mp h4
  subst hname
  obtain ⟨a, o, pm, code, doc, e1, e2, e3, e4⟩ := T.fn d hmem
  have hfa := faOf_eq hn e1
  have key : g.ps = d.params.args.map (·.arg) → g.names = d.scope.names → ((g.ext = none ∧ cSs fns excs N (scOf d.scope) d.body = some g.body) ∨ ∃ x, X.lookup d.name = some x ∧ g.ext = some x) →
      ∃ (d' : DefRec) (o : Obj) (fd : FuncData), (recsOf q).find? (fun e => e.name == d'.name) = some d' ∧ mg d'.name = some (.ref (faOf fns mg i)) ∧ fns[i]? = some d'.name ∧ FnAt base (faOf fns mg i) g.ps d'.body d'.scope o fd ∧ (g.names = d'.scope.names ∧ g.ps = d'.params.args.map (·.arg)) ∧
      ((g.ext = none ∧ cSs fns excs N (scOf d'.scope) d'.body = some g.body) ∨ ∃ x, X.lookup d'.name = some x ∧ g.ext = some x) := by
    intro hps hns hb
    refine ⟨d, o, docDef d.name d.params d.body d.scope pm code doc, hd, by rw [hfa]; exact e1, hn, ?_, ⟨hns, hps⟩, hb⟩
    simp only [fnCheck, Bool.and_eq_true, decide_eq_true_eq, Bool.not_eq_true', beq_iff_eq, List.isEmpty_iff, Option.isNone_iff_eq_none, List.all_eq_true, Bool.or_eq_true] at hc
    obtain ⟨⟨⟨⟨⟨⟨⟨⟨c1, c2⟩, c3⟩, c4⟩, c5⟩, c6⟩, c7⟩, c8⟩, c9⟩ := hc
    rw [hfa, hps]
    exact ⟨e2, e3, e4, rfl, rfl, rfl, rfl, rfl, fun vals hl => binds_plain c1 c2 c3 c4 rfl (by simpa [docDef] using hl) c8, c5, c6, c7, c8, c9⟩
  cases hx : X.lookup d.name with
  | some x =>
    rw [hx] at h3
    cases h3
    exact key rfl rfl (.inr ⟨x, hx, rfl⟩)
  | none =>
    rw [hx] at h3
    replace h3 := om h3
    obtain ⟨b, hb, rfl⟩ := h3
    exact key rfl rfl (.inl ⟨rfl, hb⟩)

theorem gl_of (T : Top q loose mean mg mb base) (hp : prepAll X fns excs N (recsOf q) fns = some P) (hb : blNames.all (freeIn q loose) = true) : Gl fns base mg mb (faOf fns mg) := by
  refine ⟨T.g, T.b, T.nolimit, fun i n hn => ?_, fun x hx => ?_⟩
  · obtain ⟨g, hg, _⟩ := prepAll_fn hp hn
    obtain ⟨d, o, fd, _, e1, e2, e3, _⟩ := fnAt_of T hp hg
    rw [hn] at e2; cases e2
    exact ⟨o, fd, e1, e3.at', e3.data⟩
  · have := List.all_eq_true.mp hb x hx
    simp only [freeIn, Bool.and_eq_true, Bool.not_eq_true', List.contains_eq_mem, decide_eq_false_iff_not, bne_iff_ne, ne_eq] at this
    obtain ⟨⟨⟨⟨⟨a1, a2⟩, a3⟩, a4⟩, a5⟩, a6⟩ := this
    exact ⟨T.free x a1 a2 a3 a4 a5, T.builtins x a6⟩

noncomputable def RZ0 : RZt := fun _ _ _ _ _ _ => False

theorem retR_ok {r : R} {o : Out} (h : retR false r = some o) : ∃ d, o = .ok d ∧ (r = .ret d ∨ ((∃ ρ, r = .next ρ) ∧ d = .none)) := by
  cases r with
  | ret d => cases h; exact ⟨d, rfl, .inl rfl⟩
  | next ρ => cases h; exact ⟨_, rfl, .inr ⟨⟨ρ, rfl⟩, rfl⟩⟩
  | err c => cases h
  | cont ρ => cases h
/-- what is given whole is so -/
noncomputable def ExtsOk (prog : Program) (w : World) (q : Program) (base : Heap) (X : Exts) (fns : List Str) (fa : Nat → Addr) (P : Prg) : Prop :=
  ∀ (n i : Nat) (g : Fn) (d : DefRec) (o : Obj) (fd : FuncData) (x : Nat → Fns → List D → Option Out) ds dd A s vs E, (∀ m, m ≤ n → FnsOk prog w base (run false P m) fa m) → P[i]? = some g → (recsOf q).find? (fun e => e.name == d.name) = some d → FnAt base (fa i) (d.params.args.map (·.arg)) d.body d.scope o fd → X.lookup d.name = some x →
    x n (run false P n) ds = some (.ok dd) → Ok base (n + 1) A s.heap → Vs s.heap vs ds → wpAny (model prog w) A (call (.ref (fa i)) vs) (Post s dd) E s

theorem run_noerr (hX : ∀ n x f ds c, X.lookup n = some x → x f (run false P f) ds ≠ some (.err c)) (hp : prepAll X fns excs N (recsOf q) fns = some P) (T : Top q loose mean mg mb base) : ∀ {n f : Nat} {ds : List D} {c : Nat}, run false P n f ds ≠ some (.err c)
  | 0, f, ds, c, h => by cases h
  | n + 1, f, ds, c, h => by
    obtain ⟨g, hg, h⟩ := ob h
    obtain ⟨d, o, fd, _, _, _, _, _, e⟩ := fnAt_of T hp hg
    rcases e with ⟨e, _⟩ | ⟨x, hx, e⟩
    · rw [e] at h
      replace h := oi' h
      obtain ⟨_, h⟩ := h
      replace h := ob h
      obtain ⟨r, _, h⟩ := h
      obtain ⟨d, e, _⟩ := retR_ok h
      cases e
    · rw [e] at h
      exact hX _ x n ds c hx h

theorem run_ok {prog : Program} {w : World} (T : Top q loose mean mg mb base) (hp : prepAll X fns [] N (recsOf q) fns = some P) (hb : blNames.all (freeIn q loose) = true) (hX : ∀ n x f ds c, X.lookup n = some x → x f (run false P f) ds ≠ some (.err c))
    (EX : ExtsOk prog w q base X fns (faOf fns mg) P) : ∀ n m, m ≤ n → FnsOk prog w base (run false P m) (faOf fns mg) m
  | _, 0, _ => fun f ds d A s vs E h _ _ => by cases h
  | 0, m + 1, hm => absurd hm (by omega)
  | n' + 1, n + 1, hm => fun f ds d A s vs E h O hv => by
    have ih := fun m hm' => run_ok T hp hb hX EX n' m (Nat.le_trans hm' (Nat.le_of_succ_le_succ hm))
    obtain ⟨g, hg, h⟩ := ob h
    obtain ⟨dd, o, fd, e0, e1, e2, e3, e4, e⟩ := fnAt_of T hp hg
    rcases e with ⟨e, e5⟩ | ⟨x, hx, e⟩
    · rw [e] at h
      replace h := oi' h
      obtain ⟨hl, h⟩ := h
      replace h := ob h
      obtain ⟨r, hr, h⟩ := h
      obtain ⟨d', e, hd⟩ := retR_ok h
      cases e
      have ER : Errs prog w base (run false P n) (faOf fns mg) n [] RZ0 := ⟨fun sc f ds c h₀ env T' ρ A s vs h => (run_noerr hX hp T h).elim⟩
      rw [e4.1] at hr
      exact enter_ok e3 T.nolimit (xs_sound (n := N) (sc := scOf dd.scope) (gl_of T hp hb) (ih n (Nat.le_refl n)) ER dd.body g.body e5) hr hd hl O hv
    · rw [e] at h
      exact EX n f g dd o fd x ds d A s vs E ih hg e0 (e4.2 ▸ e3) hx h O hv
end
end Mine

namespace Mine
open PySem PySem.W PySem.Calls PyProof.Rows PySem.SeqAt

theorem wellAll_ints {Pp : Params} {h : Heap} : ∀ {vs : List Value} {xs : List Int}, WellAll Pp h vs (ofPys (xs.map .int)) → Vs h vs (xs.map .int)
  | vs, [], x => by
    simp only [List.map_nil, ofPys] at x
    cases x; exact .nil
  | vs, n :: xs, x => by
    simp only [List.map_cons, ofPys] at x
    cases x with
    | cons a b =>
      simp only [ofPy] at a
      cases a
      exact .cons (.int _ _) (wellAll_ints b)

theorem ok_caller (h : Heap) : Ok h 20 callerA h := by
  refine ⟨rfl, ?_, ?_, [], below_caller h⟩
  · show 301 + 20 < recursionLimit; decide
  · decide +kernel

theorem script_V {Pp : Params} {h : Heap} {a : Addr} {xs : List Int} (W : Well Pp h (.ref a) (ofPy (.list (xs.map .int)))) (hl : xs.length ≤ 63) : V h (.ref a) (.lst (xs.map .int)) := by
  simp only [ofPy] at W
  cases W with
  | list ho hv =>
    exact .lst ⟨_, ho⟩ (wellAll_ints hv) (by rw [List.length_map]; exact Nat.le_trans hl (by decide))

theorem law_runs {q : Program} {loose : List Str} {mean : ExcName → Option Value} {mg mb : Str → Option Value} {prog : Program} {w : World} {s₁ : Shared} {X : Exts} {fns : List Str} {P : Prg} {N i : Nat} {fa a : Addr} {n : Str} {xs : List Int} {E : Value → Shared → Prop}
    (T : Top q loose mean mg mb s₁.heap) (hp : prepAll X fns [] N (recsOf q) fns = some P) (hb : blNames.all (freeIn q loose) = true) (hX : ∀ n x f ds c, X.lookup n = some x → x f (run false P f) ds ≠ some (.err c)) (EX : ExtsOk prog w q s₁.heap X fns (faOf fns mg) P) (hmg : mg n = some (.ref fa)) (hi : fns[i]? = some n)
    (W : Well w.params s₁.heap (.ref a) (ofPy (.list (xs.map .int)))) (hl : xs.length ≤ 63) (hrun : run false P 20 i [.lst (xs.map .int)] = some (.ok (.bool true))) :
    wpAny (model prog w) callerA (call (.ref fa) [.ref a]) (fun v s' => v = .bool true ∧ Keeps s₁ s') E s₁ := by
  have h := run_ok (prog := prog) (w := w) T hp hb hX EX 20 20 (Nat.le_refl _) i _ _ callerA s₁ [.ref a] E hrun (ok_caller _) (.cons (script_V W hl) .nil)
  rw [faOf_eq hi hmg] at h
  refine wpAny_mono h (fun v s' q => ?_) fun _ _ x => x
  obtain ⟨K, hV⟩ := q
  cases hV
  exact ⟨rfl, K⟩

theorem good_true {c : ClaimW} {cl : Str → Option Addr} {mean : ExcName → Option Value} {args : List WData} {s₁ s' : Shared} {v : Value} (hv : v = .bool true ∧ Keeps s₁ s') (hg : s₁.gens = #[]) (hn : ∀ cls, c.raises args cls = false) (hp : c.post args (.bool true) args = true) :
    GoodWG c cl mean args s₁ (.ok (.ret v)) s' := by
  obtain ⟨rfl, h, tk, rfl, hk⟩ := hv
  exact GoodW.toG ⟨.inl ⟨.bool true, .bool true, [], rfl, hn, .bool true, hp, unshared_nil⟩, hk, rfl, hg⟩
end Mine

namespace Mine
open PySem

/-! what the class Namer does, upon data -/
abbrev Pt := Str × Int
noncomputable def ptr (p : Pt) : D := .tup [.str p.1, .int p.2]
noncomputable def nums (met : List Pt) : List (Ky × D) := met.zipIdx.map fun x => ((some x.1.1, x.1.2), .int x.2)
theorem ptrs_pure (met : List Pt) : D.pures (met.map ptr) = true := by
  simp only [D.pures, List.all_map, List.all_eq_true]
  intro p _; rfl
noncomputable def ptOf : D → Option Pt
  | .tup ds => match ds with
    | [.str x, .int i] => some (x, i)
    | _ => none
  | _ => none
abbrev wT : Str := Str.ofString "thing"
noncomputable def thing (j : Nat) : D := .tup [.str wT, .int j]
noncomputable def toldD (met : List Pt) (d : D) : Option (D × List Pt) :=
  if evIsi .tuple d = true then (ptOf d).bind fun p => match met.idxOf? p with
    | some j => some (thing j, met)
    | none => if met.length < lim then some (thing met.length, met ++ [p]) else none
  else if d.pure = true then some (d, met) else none

theorem ptOf_some {d : D} {p : Pt} (h : ptOf d = some p) : d = ptr p ∧ keyD d = some (some p.1, p.2) := by
  cases d with
  | tup ds =>
    unfold ptOf at h
    dsimp only at h
    split at h
    · cases h; exact ⟨rfl, rfl⟩
    · cases h
  | _ => cases h

theorem look_nums (p : Pt) : ∀ (met : List Pt) (k : Nat), lookK ((met.zipIdx k).map fun x => ((some x.1.1, x.1.2), D.int x.2)) (some p.1, p.2) = (met.idxOf? p).map fun j => .int ((j + k : Nat))
  | [], k => rfl
  | q :: met, k => by
    have ih := look_nums p met (k + 1)
    rw [List.zipIdx_cons, List.map_cons, List.idxOf?_cons]
    by_cases e : q = p
    · subst e
      simp [lookK]
    · have e' : ¬ ((some q.1, q.2) : Ky) = (some p.1, p.2) := by
        intro h
        simp only [Prod.mk.injEq, Option.some.injEq] at h
        exact e (Prod.ext h.1 h.2)
      have e2 : (q == p) = false := beq_eq_false_iff_ne.mpr e
      unfold lookK at ih ⊢
      rw [List.find?_cons, decide_eq_false e', e2, ih]
      cases met.idxOf? p with
      | none => rfl
      | some j => simp; omega
theorem look_num (p : Pt) (met : List Pt) : lookK (nums met) (some p.1, p.2) = (met.idxOf? p).map fun j => .int j := look_nums p met 0
theorem put_num (p : Pt) (met : List Pt) (h : met.idxOf? p = none) : putK (nums met) (some p.1, p.2) (.int met.length) = nums (met ++ [p]) := by
  unfold putK
  rw [look_num, h]
  simp [nums, List.zipIdx_append]
theorem kind_num (p : Pt) (met : List Pt) : kindOk (nums met) (some p.1, p.2) = true := by
  simp [kindOk, nums]
theorem idx_snoc {p : Pt} : ∀ (met : List Pt), met.idxOf? p = none → (met ++ [p]).idxOf? p = some met.length
  | [], _ => by simp [List.idxOf?_cons]
  | q :: met, h => by
    rw [List.idxOf?_cons] at h
    rw [List.cons_append, List.idxOf?_cons]
    cases e : q == p with
    | true => rw [e] at h; simp at h
    | false =>
      rw [e] at h
      have h : met.idxOf? p = none := by simpa using h
      rw [idx_snoc met h]; simp
theorem nums_len (met : List Pt) : (nums met).length = met.length := by simp [nums]

noncomputable def rowD (met : List Pt) : List D → Option (List D × List Pt)
  | [] => some ([], met)
  | d :: ds => (toldD met d).bind fun r => (rowD r.2 ds).map fun q => (r.1 :: q.1, q.2)
theorem toldD_pure {met met' : List Pt} {d d' : D} (h : toldD met d = some (d', met')) : d'.pure = true := by
  unfold toldD at h
  split at h
  · replace h := ob h
    obtain ⟨p, _, h⟩ := h
    split at h
    · cases h; rfl
    · replace h := oi h
      obtain ⟨_, h⟩ := h
      cases h; rfl
  · replace h := oi h
    obtain ⟨q, h⟩ := h
    cases h; exact q
theorem rowD_drop {met : List Pt} {ds : List D} {i : Nat} {d : D} (h : ds[i]? = some d) : rowD met (ds.drop i) = (toldD met d).bind fun r => (rowD r.2 (ds.drop (i + 1))).map fun q => (r.1 :: q.1, q.2) := by
  obtain ⟨hi, rfl⟩ := List.getElem?_eq_some_iff.mp h
  rw [List.drop_eq_getElem_cons hi]; rfl
theorem rowD_pures : ∀ {ds : List D} {met met' : List Pt} {rs : List D}, rowD met ds = some (rs, met') → D.pures rs = true ∧ rs.length = ds.length
  | [], met, met', rs, h => by cases h; exact ⟨rfl, rfl⟩
  | d :: ds, met, met', rs, h => by
    replace h := ob h
    obtain ⟨⟨r1, r2⟩, h1, h⟩ := h
    replace h := om h
    obtain ⟨⟨q1, q2⟩, h2, h⟩ := h
    cases h
    have := rowD_pures h2
    refine ⟨?_, by simp [this.2]⟩
    show (r1.pure && D.pures q1) = true
    rw [toldD_pure h1, this.1]; rfl

/-- what shape's loop gives -/
noncomputable def shL (Φ : Fns) (H : D) : Nat → Nat → List Pt → List D → Option (List D)
  | 0, _, _, _ => none
  | m + 1, i, met, th => match met[i]? with
    | none => some th
    | some p => ((Φ 11 [H, ptr p]).bind okOf).bind fun t => (evIdx t (.int 1)).bind fun r => (tupOf r).bind fun row => if D.pure (.tup row) = true ∧ th.length < lim ∧ met.length ≤ lim then
        (rowD met row).bind fun q => if D.pure (.tup q.1) = true then shL Φ H m (i + 1) q.2 (th ++ [.tup q.1]) else none else none
noncomputable def shapeD (Φ : Fns) (H : D) : Option D := (evIdx H (.int 2)).bind fun r => (tupOf r).bind fun row => if D.pure (.tup row) = true then
  (rowD [] row).bind fun q => if D.pure (.tup q.1) = true then (shL Φ H lim 0 q.2 []).map fun th => .tup [.tup q.1, .tup th] else none else none

theorem toldD_lim {met met' : List Pt} {d d' : D} (h : toldD met d = some (d', met')) (hl : met.length ≤ lim) : met'.length ≤ lim := by
  unfold toldD at h
  split at h
  · replace h := ob h
    obtain ⟨p, _, h⟩ := h
    split at h
    · cases h; exact hl
    · replace h := oi h
      obtain ⟨q, h⟩ := h
      cases h
      rw [List.length_append]; exact q
  · replace h := oi h
    obtain ⟨_, h⟩ := h
    cases h; exact hl
theorem rowD_lim : ∀ {ds : List D} {met met' : List Pt} {rs : List D}, rowD met ds = some (rs, met') → met.length ≤ lim → met'.length ≤ lim
  | [], met, met', rs, h, hl => by cases h; exact hl
  | d :: ds, met, met', rs, h, hl => by
    replace h := ob h
    obtain ⟨⟨r1, r2⟩, h1, h⟩ := h
    replace h := om h
    obtain ⟨⟨q1, q2⟩, h2, h⟩ := h
    cases h
    exact rowD_lim h2 (toldD_lim h1 hl)

end Mine

namespace Mine
open PySem PySem.Calls PyProof.Rows PySem.SeqAt

/-! the class's methods, up to the places of their words -/
abbrev nSelf : Str := "self"
abbrev nVal : Str := "value"
abbrev nNum : Str := "numbers"
abbrev nMet : Str := "met"
noncomputable def eSelf (f : Nat → Pos) (i : Nat) (a : Str) : Expr := .Attribute (.Name nSelf (f i)) a (f (i + 1))
noncomputable def toldTail (f : Nat → Pos) : List Stmt :=
  [.If (.Compare (.Name nVal (f 0)) [.NotIn] [eSelf f 1 nNum] (f 3))
    [.Assign [.Subscript (eSelf f 4 nNum) (.Name nVal (f 6)) (f 7)] (.Call (.Name "len" (f 8)) [eSelf f 9 nMet] [] (f 11)) (f 12),
     .Expr (.Call (.Attribute (eSelf f 13 nMet) "append" (f 15)) [.Name nVal (f 16)] [] (f 17)) (f 18)] [] (f 19),
   .Return (some (.Tuple [.Constant (.str "thing") 0 (f 20), .Subscript (eSelf f 21 nNum) (.Name nVal (f 23)) (f 24)] 0 (f 25))) (f 26)]

/-! what the object bears -/
abbrev attrs (nd ml : Addr) : Str → Option Value := fun y => if y = nMet then some (.ref ml) else if y = nNum then some (.ref nd) else none

structure NamAt (prog : Program) (w : World) (h : Heap) (C x dx nd ml : Addr) (met : List Pt) : Prop where
  obj : ∃ o, h.get? x = some o ∧ o.cls = .ref C ∧ o.dict = some dx ∧ ∀ c, o.data ≠ .cls c
  ns : h.Ns1 dx (attrs nd ml)
  apart : dx ≠ x
  nedx : nd ≠ dx
  dic : DicAt prog w h nd (nums met)
  lst : ∃ vs, h.PlainList ml (List.toArray vs) ∧ Vs h vs (met.map ptr)

structure ClsOk (base : Heap) (C N : Addr) (mN : Str → Option Value) : Prop where
  cls : ClsAt base C N mN
  ga : mN "__getattribute__" = none
  gh : mN "__getattr__" = none
  sa : mN "__setattr__" = none
  num : mN nNum = none
  met : mN nMet = none

theorem obj_num : typeLookup (.type "object") nNum = pure none := by rw [typeLookup_type, builtinLookup_eq_fast]; kernel_rfl
theorem obj_met : typeLookup (.type "object") nMet = pure none := by rw [typeLookup_type, builtinLookup_eq_fast]; kernel_rfl

section
variable {prog : Program} {w : World} {h h' : Heap} {C x dx nd ml : Addr} {met : List Pt}
theorem NamAt.inst (X : NamAt prog w h C x dx nd ml met) : h.Inst x C (attrs nd ml) :=
  let ⟨o, e, c, dd, nc⟩ := X.obj; ⟨o, e, c, nc, .inr ⟨dx, dd, X.apart, X.ns⟩⟩
theorem NamAt.keeps (X : NamAt prog w h C x dx nd ml met) (k : ∀ b o, h.get? b = some o → h'.get? b = some o) : NamAt prog w h' C x dx nd ml met :=
  ⟨let ⟨o, e, r⟩ := X.obj; ⟨o, k _ _ e, r⟩, X.ns.at fun o => k _ o, X.apart, X.nedx, X.dic.keeps k, let ⟨vs, p, q⟩ := X.lst; ⟨vs, p.at fun o => k _ o, q.mono k⟩⟩
theorem NamAt.mlV (X : NamAt prog w h C x dx nd ml met) (hl : met.length ≤ lim) : V h (.ref ml) (.lst (met.map ptr)) :=
  let ⟨vs, p, q⟩ := X.lst; .lst p q (by rw [List.length_map]; exact hl)
theorem NamAt.nx (X : NamAt prog w h C x dx nd ml met) : x ≠ nd ∧ x ≠ ml ∧ dx ≠ ml ∧ nd ≠ ml := by
  obtain ⟨o, e1, e2, _⟩ := X.obj
  obtain ⟨o2, es, ep, q1, q2, _⟩ := X.dic.obj
  obtain ⟨vs, ⟨n, p⟩, _⟩ := X.lst
  obtain ⟨o3, es3, ep3, r1, r2, _⟩ := X.ns
  refine ⟨?_, ?_, ?_, ?_⟩
  · rintro rfl; rw [e1] at q1; cases q1; rw [q2.1] at e2; cases e2
  · rintro rfl; rw [e1] at p; cases p; cases e2
  · rintro rfl; rw [r1] at p; cases p; cases r2
  · rintro rfl; rw [q1] at p; cases p; have := q2.1; simp at this
end

section
variable {prog : Program} {w : World} {A : Around} {E : Value → Shared → Prop} {s : Shared} {base : Heap} {C N x dx nd ml : Addr} {met : List Pt} {mN : Str → Option Value}
theorem get_num {Q : Value → Shared → Prop} (X : NamAt prog w s.heap C x dx nd ml met) (K : ClsOk base C N mN) (st : ∀ b o, base.get? b = some o → s.heap.get? b = some o) (h : ∀ t, Q (.ref nd) { s with toks := t }) : wpAny (model prog w) A (getAttr (.ref x) nNum true) Q E s := by
  obtain ⟨hh, g, d, t, os⟩ := s
  obtain ⟨nm, q, bs, sn, sub, col, dd, k0, k1, k2, k3, k5, hC⟩ := (K.cls.keeps st).obj
  exact load_attr hC (K.cls.keeps st).ns K.ga K.num obj_num X.inst (by rfl) rfl (h _)
theorem get_met {Q : Value → Shared → Prop} (X : NamAt prog w s.heap C x dx nd ml met) (K : ClsOk base C N mN) (st : ∀ b o, base.get? b = some o → s.heap.get? b = some o) (h : ∀ t, Q (.ref ml) { s with toks := t }) : wpAny (model prog w) A (getAttr (.ref x) nMet true) Q E s := by
  obtain ⟨hh, g, d, t, os⟩ := s
  obtain ⟨nm, q, bs, sn, sub, col, dd, k0, k1, k2, k3, k5, hC⟩ := (K.cls.keeps st).obj
  exact load_attr hC (K.cls.keeps st).ns K.ga K.met obj_met X.inst (by rfl) rfl (h _)
end

/-- a name that is read stays while two objects change -/
theorem At.two {h h' : Heap} {env : Env} {y : Str} {v : Value} {a b : Addr} (x : At h env y v) (hk : ∀ c o, c ≠ a → c ≠ b → h.get? c = some o → h'.get? c = some o) (hL : env.locals ≠ a ∧ env.locals ≠ b) (hc : ∀ z c, env.cells.lookup z = some c → c ≠ a ∧ c ≠ b) : At h' env y v := by
  cases x with
  | loc m e1 e2 e3 => exact .loc m e1 (e2.at' fun o e => hk _ o hL.1 hL.2 e) e3
  | cell c e1 e2 e3 => obtain ⟨o, ho, hd⟩ := e3; exact .cell c e1 e2 ⟨o, hk c o (hc y c e2).1 (hc y c e2).2 ho, hd⟩
end Mine

namespace Mine
open PySem PySem.Calls PyProof.Rows PySem.SeqAt

/-- what a method leaves behind -/
abbrev ToldPost (prog : Program) (w : World) (C x dx nd ml : Addr) (s : Shared) (d : D) (met : List Pt) : Value → Shared → Prop := fun r s' =>
  Same s s' ∧ V s'.heap r d ∧ NamAt prog w s'.heap C x dx nd ml met ∧ ∀ b o, b ≠ nd → b ≠ ml → s.heap.get? b = some o → s'.heap.get? b = some o

section
variable {prog : Program} {w : World} {base : Heap} {fns : List Str} {mg mb : Str → Option Value} {fa : Nat → Addr} {Φ : Fns} {k n : Nat} {A : Around} {E : Value → Shared → Prop} {s : Shared} {C N x dx nd ml : Addr} {met met' : List Pt} {mN : Str → Option Value}

/-- «('thing', self.numbers[value])» -/
theorem told_end {env : Env} {A : Around} {s : Shared} {pos : Nat → Pos} {Q : Flow → Shared → Prop} {p : Pt} {j : Nat} {v : Value} {p26 : Pos} (K : ClsOk base C N mN) (st : ∀ b o, base.get? b = some o → s.heap.get? b = some o) (hk : env.scope.kind = .function) (hu : A.units + 8 < cLine) (a1 : At s.heap env nSelf (.ref x)) (a2 : At s.heap env nVal v) (hv : V s.heap v (ptr p))
    (X : NamAt prog w s.heap C x dx nd ml met) (hj : met.idxOf? p = some j)
    (hQ : ∀ r s', Same s s' → V s'.heap r (thing j) → (∀ b o, s.heap.get? b = some o → s'.heap.get? b = some o) → Q (.ret r) s') :
    wpAny (model prog w) A (exec (.Return (some (.Tuple [.Constant (.str "thing") 0 (pos 20), .Subscript (eSelf pos 21 nNum) (.Name nVal (pos 23)) (pos 24)] 0 (pos 25))) p26) env) Q E s := by
  refine wpAny_Return_some (Tuple_ (args_cons (Constant_str ?_) rfl))
  generalize hs1 : ({ s with toks := s.toks + 1 } : Shared) = s1
  have h1 : s1.heap = s.heap := by rw [← hs1]
  refine args_cons (Subscript_ (Attribute_Name_ (load_var (ρ := []) (sc := ⟨[], [], 0⟩) hk (by rw [h1]; exact a1) (get_num (by rw [h1]; exact X) K (by rw [h1]; exact st) fun t => ?_) (by decide)))) rfl
  refine load_var (ρ := []) (sc := ⟨[], [], 0⟩) hk (s := { s1 with toks := t }) (by show At s1.heap _ _ _; rw [h1]; exact a2) ?_ (by decide)
  have hD : DicAt prog w s1.heap nd (nums met) := by rw [h1]; exact X.dic
  obtain ⟨o, es, ep, ho1, ho2, _⟩ := hD.obj
  refine tail_any (s := { s1 with toks := t }) ⟨o, ho1, ho2.1⟩ slot_dict_getitem.lookup (wpAny_mono (dic_get (s := { s1 with toks := t }) hu hD (by show V s1.heap _ _; rw [h1]; exact hv) rfl (kind_num p met) (by rw [look_num, hj]; rfl)) (fun r s2 q => args_nil ?_) fun _ _ e => e) (sub_plain (by intro a b c d e; cases e))
  refine wpAny_newObj_type ?_ (by show (2 : Nat) ≤ sizeLine; decide)
  have K2 : Keeps s s2 := keeps_trans (by rw [← hs1]; exact keeps_toks _ _) (keeps_trans (keeps_toks _ _) q.1)
  have nt := new_tuple (s := s2) (vs := [.str "thing" s.toks, r]) (ds := [.str wT, .int j]) (.cons (.str _ _) (.cons q.2 .nil)) (small_lim (show 2 ≤ 1000 by decide))
  have K3 := keeps_trans K2 nt.1
  exact hQ _ _ (Same.keeps K3) nt.2 (keeps_heap K3)

/-- «self.numbers[value] = len(self.met); self.met.append(value)» -/
theorem told_new {env : Env} {A : Around} {s : Shared} {pos : Nat → Pos} {Q : Flow → Shared → Prop} {sc : Sc} {ρ : Rho} {p : Pt} {v : Value} (G : Gl fns base mg mb fa) (K : ClsOk base C N mN) (c : Cx prog w base k sc env ρ A s.heap) (hlen : glob sc "len" = true) (hline : ((pos 15).endLine == (pos 17).line) = true)
    (a1 : At s.heap env nSelf (.ref x)) (a2 : At s.heap env nVal v) (hv : V s.heap v (ptr p)) (X : NamAt prog w s.heap C x dx nd ml met) (hn : met.idxOf? p = none) (hl : met.length < lim) (hL : env.locals ≠ nd ∧ env.locals ≠ ml) (hc : ∀ z c, env.cells.lookup z = some c → c ≠ nd ∧ c ≠ ml) (hb : base.get? nd = none)
    (hQ : ∀ s', Same s s' → NamAt prog w s'.heap C x dx nd ml (met ++ [p]) → (∀ b o, b ≠ nd → b ≠ ml → s.heap.get? b = some o → s'.heap.get? b = some o) → Tk s.heap s'.heap → Q .next s') :
    wpAny (model prog w) A (execs [.Assign [.Subscript (eSelf pos 4 nNum) (.Name nVal (pos 6)) (pos 7)] (.Call (.Name "len" (pos 8)) [eSelf pos 9 nMet] [] (pos 11)) (pos 12), .Expr (.Call (.Attribute (eSelf pos 13 nMet) "append" (pos 15)) [.Name nVal (pos 16)] [] (pos 17)) (pos 18)] env) Q E s := by
  have st := c.ok.stays
  refine wpAny_execs_cons (wpAny_Assign_Subscript ?_ rfl)
  refine Call_ (load_builtin G c hlen (by decide +kernel) boot_len (callWith_builtin1 (args_cons (Attribute_Name_ (load_var (ρ := ρ) (sc := sc) c.kind a1 (get_met X K st fun t => args_nil ?_) (by decide))) rfl) rfl))
  refine wpAny_mono (len_ok (s := { s with toks := t }) (X.mlV (Nat.le_of_lt hl)) rfl) (fun lv s₁ q₁ => ?_) fun _ _ e => e
  have K1 : Keeps s s₁ := keeps_trans (keeps_toks _ _) q₁.1
  have k1 := keeps_heap K1
  have X1 := X.keeps k1
  refine Attribute_Name_ (load_var (ρ := ρ) (sc := sc) c.kind (a1.mono k1) (get_num X1 K (fun b o e => k1 b o (st b o e)) fun t₂ => ?_) (by decide))
  refine load_var (ρ := ρ) (sc := sc) (s := { s₁ with toks := t₂ }) c.kind (a2.mono k1) ?_ (by decide)
  have hlv : V s₁.heap lv (.int met.length) := by have := q₁.2; rwa [List.length_map] at this
  refine dic_set (s := { s₁ with toks := t₂ }) (units8 c.ok) X1.dic (hv.mono k1) rfl (kind_num p met) rfl hlv (by rw [nums_len]; exact hl) fun h' tk' hD' hs' => ?_
  have hD' : DicAt prog w h' nd (nums (met ++ [p])) := by rw [← put_num p met hn]; exact hD'
  obtain ⟨n1, n2, n3, n4⟩ := X1.nx
  have kt : Tk s₁.heap h' := tuple_but hs' fun b items t => by
    rintro rfl
    obtain ⟨o, es, ep, ho, hx, _⟩ := X1.dic.obj
    obtain ⟨o', ho', hc', _⟩ := t
    rw [ho] at ho'; cases ho'
    rw [hx.1] at hc'; simp at hc'
  have kk : ∀ b o, b ≠ nd → s₁.heap.get? b = some o → h'.get? b = some o := fun b o hb e => hs'.extBut b o hb e
  have b1 : At h' env nSelf (.ref x) := (a1.mono k1).two (a := nd) (b := nd) (fun c o h1 _ e => kk c o h1 e) ⟨hL.1, hL.1⟩ fun z c hz => ⟨(hc z c hz).1, (hc z c hz).1⟩
  have b2 : At h' env nVal v := (a2.mono k1).two (a := nd) (b := nd) (fun c o h1 _ e => kk c o h1 e) ⟨hL.1, hL.1⟩ fun z c hz => ⟨(hc z c hz).1, (hc z c hz).1⟩
  obtain ⟨vs, p1, p2⟩ := X1.lst
  have X2 : NamAt prog w h' C x dx nd ml met → True := fun _ => trivial
  have obj2 : h'.Inst x C (attrs nd ml) := by
    obtain ⟨o, e, cc, dd, nc⟩ := X1.obj
    exact ⟨o, kk x o n1 e, cc, nc, .inr ⟨dx, dd, X1.apart, X1.ns.at fun o e => kk dx o (Ne.symm X1.nedx) e⟩⟩
  have st2 : ∀ b o, base.get? b = some o → h'.get? b = some o := fun b o e => kk b o (by rintro rfl; rw [hb] at e; cases e) (k1 b o (st b o e))
  have hl2 : h'.PlainList ml (List.toArray vs) := p1.at fun o e => kk ml o (Ne.symm n4) e
  refine wpAny_execs_cons (wpAny_Expr_any (Call_method1 rfl rfl hline (Attribute_Name_ (load_var (ρ := ρ) (sc := sc) c.kind b1 ?_ (by decide)))) (by simp [interactive, c.kind]) rfl)
  obtain ⟨nm, q, bs, sn, sub, col, dd, k0, k1', k2, k3, k5, hC⟩ := (K.cls.keeps st2).obj
  refine load_attr hC (K.cls.keeps st2).ns K.ga K.met obj_met obj2 (by rfl) rfl ?_
  refine ⟨"list", "list.append", PySem.F.plainAttrs_list, slot_list_append, type_list_append, hl2.isList.typeIs, ?_, ?_⟩
  · intro b e
    cases e
    obtain ⟨n, ho⟩ := hl2
    exact ⟨_, ho, rfl⟩
  · refine callWith_builtin (by rfl) (evalArgs_plain (spliced_cons (load_var (ρ := ρ) (sc := sc) c.kind b2 (spliced_nil ?_) (by decide))))
    have hlen2 := p2.length
    rw [List.length_map] at hlen2
    refine wpAny_list_append_plain hl2 (fun h'' hl'' hs'' => wpAny_execs_nil ?_) (by rw [List.size_toArray, hlen2]; exact Nat.le_trans (Nat.le_of_lt hl) lim_line)
    have kk2 : ∀ b o, b ≠ ml → h'.get? b = some o → h''.get? b = some o := fun b o hb e => hs''.extBut b o hb e
    have kt2 : Tk h' h'' := tuple_but hs'' fun b items t => list_notuple hl2 t
    refine hQ _ ((Same.keeps K1).trans ⟨h'', _, rfl⟩) ?_ (fun b o h1 h2 e => kk2 b o h2 (kk b o h1 (k1 b o e))) ((Tk.mono k1).trans (kt.trans kt2))
    refine ⟨?_, ?_, X1.apart, X1.nedx, hD'.change (fun o e => kk2 nd o n4 e) kt2, vs ++ [v], by simpa using hl'', ?_⟩
    · obtain ⟨o, e, r⟩ := X1.obj
      exact ⟨o, kk2 x o n2 (kk x o n1 e), r⟩
    · exact X1.ns.at fun o e => kk2 dx o n3 (kk dx o (Ne.symm X1.nedx) e)
    · rw [List.map_append]
      exact ((p2.pureKeep (kt.trans kt2) (ptrs_pure met))).append (.one (((hv.mono k1).pureKeep (kt.trans kt2) rfl)))

theorem told_ok {f : Addr} {scope : Scope} {s1 : Stmt} {pos : Nat → Pos} {o : Obj} {fd : FuncData} {v : Value} {d d' : D} (G : Gl fns base mg mb fa) (hΦ : FnsOk prog w base Φ fa k) (ER : Errs prog w base Φ fa k [] RZ0) (K : ClsOk base C N mN) (F : FnAt base f [nSelf, nVal] (s1 :: toldTail pos) scope o fd)
    (h1 : cS fns [] n (scOf scope) s1 = some (.iff (.not (.call 8 (.cons (.v 1) .nil))) (.cons (.ret (.v 1)) .nil) .nil)) (hself : idxVar (scOf scope) nSelf = some 0) (hval : idxVar (scOf scope) nVal = some 1) (hlen : glob (scOf scope) "len" = true) (hrho : ∀ a b, rhoL scope.names [nSelf, nVal] [a, b] = [some a, some b, none, none])
    (hline : ((pos 15).endLine == (pos 17).line) = true) (hptr : Φ 8 [d] = some (.ok (.bool (evIsi .tuple d)))) (X : NamAt prog w s.heap C x dx nd ml met) (hv : V s.heap v d) (ht : toldD met d = some (d', met')) (O : Ok base (k + 1) A s.heap) (hb : base.get? nd = none) (hbm : base.get? ml = none) :
    wpAny (model prog w) A (call (.ref f) [.ref x, v]) (ToldPost prog w C x dx nd ml s d' met') E s := by
  refine enterL F G.lim O (.ob (.arg hv .nil)) rfl fun s₁ env sm I => ?_
  rw [hrho] at I
  have e1 : ev Φ [some (.ob x), some (.arg d), none, none] (.not (.call 8 (.cons (.v 1) .nil))) = some (.bool (!evIsi .tuple d)) := by
    show ((Φ 8 [d]).bind okOf).bind notD = _
    rw [hptr]; rfl
  have hX1 := x_sound (RZ := RZ0) G hΦ ER s1 _ h1
  by_cases hT : evIsi .tuple d = true
  · -- a pointer
    have ex1 : ex Φ [some (.ob x), some (.arg d), none, none] (.iff (.not (.call 8 (.cons (.v 1) .nil))) (.cons (.ret (.v 1)) .nil) .nil) = some (.next [some (.ob x), some (.arg d), none, none]) := by
      show (ev Φ _ _).bind _ = _
      rw [e1, hT]; rfl
    rw [toldD, if_pos hT] at ht
    replace ht := ob ht
    obtain ⟨p, hp, ht⟩ := ht
    obtain ⟨rfl, _⟩ := ptOf_some hp
    refine wpAny_execs_cons (hX1 _ env [] _ _ s₁ _ _ _ I PassesOwn.never ex1 (fun fl s₂ f2 => ?_) fun c e s' hc _ _ => by cases hc)
    obtain ⟨sm2, tk2, rfl, I2⟩ := f2
    have X2 := X.keeps I2.keep
    have sm' := sm.trans sm2
    obtain ⟨v1, a1, q1⟩ := I2.cx.binds nSelf 0 (.ob x) (idxVar_some hself).1 (idxVar_some hself).2 rfl
    have q1 : v1 = .ref x := q1
    subst q1
    obtain ⟨v2, a2, q2⟩ := I2.cx.binds nVal 1 (.arg (ptr p)) (idxVar_some hval).1 (idxVar_some hval).2 rfl
    have q2 : V s₂.heap v2 (ptr p) := q2
    have nin : ∀ a oo, s.heap.get? a = some oo → env.locals ≠ a ∧ ∀ z c, env.cells.lookup z = some c → c ≠ a := fun a oo e =>
      ⟨fun q => (by have := I2.newL; rw [q, e] at this; cases this), fun z c hz q => (by have := (I2.cel z c hz).1; rw [q, e] at this; cases this)⟩
    obtain ⟨o1, _, _, ho1, _⟩ := X.dic.obj
    obtain ⟨vs, ⟨n2, ho2⟩, _⟩ := X.lst
    have nd1 := nin nd o1 ho1
    have nd2 := nin ml _ ho2
    -- the test
    refine wpAny_execs_cons (wpAny_If (wpAny_isTrue_Compare1 (load_var (ρ := [some (.ob x), some (.arg (ptr p)), none, none]) (sc := scOf scope) I2.kind a2 (Attribute_Name_ (load_var (ρ := [some (.ob x), some (.arg (ptr p)), none, none]) (sc := scOf scope) I2.kind a1 (get_num X2 K I2.ok.stays fun t => ?_) (by decide))) (by decide)) rfl))
    have cmp := dic_in (prog := prog) (w := w) (s := { s₂ with toks := t }) (E := fun _ _ => False) (neg := true) (units8 I2.ok) X2.dic q2 rfl (kind_num p met)
    refine wpAny_mono cmp (fun bv s₃ q₃ => ?_) fun _ _ e => e
    obtain ⟨rfl, k3⟩ := q₃
    have K3 : Keeps s₂ s₃ := keeps_trans (keeps_toks _ _) k3
    have k3 := keeps_heap K3
    refine wpAny_truthy_bool ?_
    rw [look_num]
    have I3 := I2.mono k3
    have X3 := X2.keeps k3
    cases hi : met.idxOf? p with
    | some j =>
      rw [hi] at ht
      cases ht
      show wpAny _ _ (execs [] env) _ _ _
      refine wpAny_execs_nil (wpAny_execs_cons (told_end K I3.ok.stays I3.kind (units8 I3.ok) (a1.mono k3) (a2.mono k3) (q2.mono k3) X3 hi fun r s₄ sm4 hV4 k4 => ?_))
      exact ⟨sm'.trans ((Same.keeps K3).trans sm4), hV4, X3.keeps k4, fun b o _ _ e => k4 b o (I3.keep b o e)⟩
    | none =>
      rw [hi] at ht
      replace ht := oi ht
      obtain ⟨hl, he⟩ := ht
      cases he
      refine told_new G K I3.cx hlen hline (a1.mono k3) (a2.mono k3) (q2.mono k3) X3 hi hl ⟨nd1.1, nd2.1⟩ (fun z c hz => ⟨nd1.2 z c hz, nd2.2 z c hz⟩) hb fun s₄ sm4 X4 k4 t4 => ?_
      have atk : ∀ y v, At s₃.heap env y v → At s₄.heap env y v := fun y v a => a.two k4 ⟨nd1.1, nd2.1⟩ fun z c hz => ⟨nd1.2 z c hz, nd2.2 z c hz⟩
      refine wpAny_execs_cons (told_end K (fun b o e => k4 b o (by rintro rfl; rw [hb] at e; cases e) (by rintro rfl; rw [hbm] at e; cases e) (I3.ok.stays b o e)) I3.kind (units8 I3.ok) (atk _ _ (a1.mono k3)) (atk _ _ (a2.mono k3)) ((q2.mono k3).pureKeep t4 rfl) X4 (j := met.length) ?_ fun r s₅ sm5 hV5 k5 => ?_)
      · exact idx_snoc met hi
      exact ⟨sm'.trans ((Same.keeps K3).trans (sm4.trans sm5)), hV5, X4.keeps k5, fun b o h1 h2 e => k5 b o (k4 b o h1 h2 (I3.keep b o e))⟩
  · -- no pointer
    have ex1 : ex Φ [some (.ob x), some (.arg d), none, none] (.iff (.not (.call 8 (.cons (.v 1) .nil))) (.cons (.ret (.v 1)) .nil) .nil) = some (.ret d) := by
      show (ev Φ _ _).bind _ = _
      rw [e1, Bool.eq_false_iff.mpr hT]; rfl
    rw [toldD, if_neg hT] at ht
    replace ht := oi ht
    obtain ⟨hp, he⟩ := ht
    cases he
    refine wpAny_execs_cons (hX1 _ env [] _ _ s₁ _ _ _ I PassesOwn.never ex1 (fun fl s₂ f2 => ?_) fun c e s' hc _ _ => by cases hc)
    obtain ⟨sm2, tk2, v', ρ', rfl, hV, I2⟩ := f2
    exact ⟨sm.trans sm2, hV, X.keeps I2.keep, fun b o _ _ e => I2.keep b o e⟩
end
end Mine

namespace Mine
open PySem PySem.Calls PyProof.Rows PySem.SeqAt

noncomputable def rowBody (f : Nat → Pos) (cs : Scope) : List Stmt :=
  [.Return (some (.Call (.Name "tuple" (f 0)) [.ListComp (.Call (.Attribute (.Name nSelf (f 1)) "told" (f 2)) [.Name nVal (f 3)] [] (f 4)) [⟨.Name nVal (f 5), .Name "row" (f 6), [], 0⟩] cs (f 7)] [] (f 8))) (f 9)]

section
variable {prog : Program} {w : World} {h h₁ h' h'' : Heap} {C x dx nd ml : Addr} {met met' : List Pt}
theorem NamAt.but (X : NamAt prog w h C x dx nd ml met) (hk : ∀ b o, (b = x ∨ b = dx ∨ b = nd ∨ b = ml) → h.get? b = some o → h'.get? b = some o) (kt : Tk h h') : NamAt prog w h' C x dx nd ml met :=
  ⟨let ⟨o, e, r⟩ := X.obj; ⟨o, hk _ _ (.inl rfl) e, r⟩, X.ns.at fun o e => hk _ o (.inr (.inl rfl)) e, X.apart, X.nedx, X.dic.change (fun o e => hk _ o (.inr (.inr (.inl rfl))) e) kt,
   let ⟨vs, p, q⟩ := X.lst; ⟨vs, p.at fun o e => hk _ o (.inr (.inr (.inr rfl))) e, q.pureKeep kt (ptrs_pure met)⟩⟩
theorem NamAt.ins (X : NamAt prog w h C x dx nd ml met) : ∀ b, (b = x ∨ b = dx ∨ b = nd ∨ b = ml) → ∃ o, h.get? b = some o := by
  rintro b (rfl | rfl | rfl | rfl)
  · obtain ⟨o, e, _⟩ := X.obj; exact ⟨o, e⟩
  · obtain ⟨o, _, _, e, _⟩ := X.ns; exact ⟨o, e⟩
  · obtain ⟨o, _, _, e, _⟩ := X.dic.obj; exact ⟨o, e⟩
  · obtain ⟨vs, ⟨n, e⟩, _⟩ := X.lst; exact ⟨_, e⟩
/-- tuples are neither the dict nor the list -/
theorem NamAt.tk (X : NamAt prog w h C x dx nd ml met) (hk : ∀ b o, b ≠ nd → b ≠ ml → h.get? b = some o → h'.get? b = some o) : Tk h h' := by
  obtain ⟨o2, es, ep, q1, q2, _⟩ := X.dic.obj
  obtain ⟨vs, ⟨n, p⟩, _⟩ := X.lst
  rintro a items ⟨o, e, c, r⟩
  refine ⟨o, hk a o ?_ ?_ e, c, r⟩
  · rintro rfl; rw [e] at q1; cases q1; rw [q2.1] at c; simp at c
  · rintro rfl; rw [e] at p; cases p; simp at c

/-- the heap has changed in the dict and the list alone -/
structure RowSt (prog : Program) (w : World) (h₁ h' : Heap) (C x dx nd ml : Addr) (met : List Pt) : Prop where
  kp : ∀ b o, b ≠ nd → b ≠ ml → h₁.get? b = some o → h'.get? b = some o
  tk : Tk h₁ h'
  nam : NamAt prog w h' C x dx nd ml met
  ins : ∀ b, (b = x ∨ b = dx ∨ b = nd ∨ b = ml) → ∃ o, h₁.get? b = some o

theorem RowSt.refl (X : NamAt prog w h C x dx nd ml met) : RowSt prog w h h C x dx nd ml met := ⟨fun _ _ _ _ e => e, Tk.refl _, X, X.ins⟩
/-- objects that were not there before may change -/
theorem RowSt.step (R : RowSt prog w h₁ h' C x dx nd ml met) (hk : ∀ b o, (∃ o₁, h₁.get? b = some o₁) → h'.get? b = some o → h''.get? b = some o) (kt : Tk h' h'') : RowSt prog w h₁ h'' C x dx nd ml met :=
  ⟨fun b o n1 n2 e => hk b o ⟨o, e⟩ (R.kp b o n1 n2 e), R.tk.trans kt, R.nam.but (fun b o hb e => hk b o (R.ins b hb) e) kt, R.ins⟩
theorem RowSt.told (R : RowSt prog w h₁ h' C x dx nd ml met) (X : NamAt prog w h'' C x dx nd ml met') (hk : ∀ b o, b ≠ nd → b ≠ ml → h'.get? b = some o → h''.get? b = some o) : RowSt prog w h₁ h'' C x dx nd ml met' :=
  ⟨fun b o n1 n2 e => hk b o n1 n2 (R.kp b o n1 n2 e), R.tk.trans (R.nam.tk hk), X, R.ins⟩

variable {base : Heap} {k : Nat} {A : Around} {sc : Sc} {env : Env} {ρ : Rho}
theorem RowSt.stays (R : RowSt prog w h₁ h' C x dx nd ml met) (O : ∀ b o, base.get? b = some o → h₁.get? b = some o) (hb : base.get? nd = none) (hbm : base.get? ml = none) : ∀ b o, base.get? b = some o → h'.get? b = some o :=
  fun b o e => R.kp b o (by rintro rfl; rw [hb] at e; cases e) (by rintro rfl; rw [hbm] at e; cases e) (O b o e)
theorem RowSt.ok (R : RowSt prog w h₁ h' C x dx nd ml met) (O : Ok base k A h₁) (hb : base.get? nd = none) (hbm : base.get? ml = none) : Ok base k A h' := by
  have S := R.stays O.stays hb hbm
  obtain ⟨a1, a2, a3, l, L⟩ := O
  refine ⟨a1, a2, a3, l, L.stack, S, funFrames_any (fun b o e hn => ?_) L.frames⟩
  by_cases e1 : b = nd
  · subst e1
    obtain ⟨o2, es, ep, q1, _, q2⟩ := R.nam.dic.obj
    exact ⟨o2, q1, fun vs q => by rw [q2] at q; cases q⟩
  · by_cases e2 : b = ml
    · subst e2
      obtain ⟨vs, ⟨n, p⟩, _⟩ := R.nam.lst
      exact ⟨_, p, fun vs q => by cases q⟩
    · exact ⟨o, R.kp b o e1 e2 e, hn⟩
/-- what is read in a frame stays -/
theorem RowSt.cx (R : RowSt prog w h₁ h' C x dx nd ml met) (c : Cx prog w base k sc env ρ A h₁) (hb : base.get? nd = none) (hbm : base.get? ml = none) (hL : env.locals ≠ nd ∧ env.locals ≠ ml) (hc : ∀ z c, env.cells.lookup z = some c → c ≠ nd ∧ c ≠ ml)
    (hρ : ∀ i lo, ρ.get i = some lo → (∃ a, lo = .ob a) ∨ ∃ d, lo = .arg d ∧ d.pure = true) : Cx prog w base k sc env ρ A h' := by
  refine ⟨c.names, c.kind, c.glob, c.blt, c.cells, c.len, fun y i lo q1 q2 q3 => ?_, R.ok c.ok hb hbm⟩
  obtain ⟨v, a, q⟩ := c.binds y i lo q1 q2 q3
  refine ⟨v, a.two R.kp hL hc, ?_⟩
  rcases hρ i lo q3 with ⟨b, rfl⟩ | ⟨d, rfl, hp⟩
  · exact q
  · exact V.pureKeep R.tk q hp
end

theorem obj_told : typeLookup (.type "object") "told" = pure none := by rw [typeLookup_type, builtinLookup_eq_fast]; kernel_rfl
theorem obj_told_row : typeLookup (.type "object") "told_row" = pure none := by rw [typeLookup_type, builtinLookup_eq_fast]; kernel_rfl

section
variable {prog : Program} {w : World} {base : Heap} {fns : List Str} {mg mb : Str → Option Value} {fa : Nat → Addr} {Φ : Fns} {k n : Nat} {A : Around} {E : Value → Shared → Prop} {s : Shared} {C N x dx nd ml : Addr} {met met' : List Pt} {mN : Str → Option Value}

/-- a method is called -/
theorem Call_meth {env : Env} {o e : Expr} {name : Str} {apos pos : Pos} {Q : Value → Shared → Prop} (hbase : attributeBase o name env (eval o env) = eval o env) (hs : starEach [e] env = [(false, eval e env)]) (hline : (apos.endLine == pos.line) = true)
    (h : wpAny (model prog w) A (eval o env) (fun ov s₁ => ∀ pl, wpAny (model prog w) A (getMethod ov name pl) (fun fx s₂ => wpAny (model prog w) A (callWith pos fx.1 fx.2 (backTo pos (starEach [e] env)) []) Q E s₂) E s₁) E s) :
    wpAny (model prog w) A (eval (.Call (.Attribute o name apos) [e] [] pos) env) Q E s := by
  rw [arm_eval_Call, hbase]
  refine wpAny_bind (wpAny_mono h (fun ov s₁ h₁ => ?_) fun _ _ e => e)
  refine wpAny_bind (wpAny_standAt ?_)
  have hform : methodCallForm ([e].length + ([] : List Keyword).length) (backTo pos (starEach [e] env)) (backToKw pos (keywordEach [] env)) = true := by rw [hs]; rfl
  have hpos : methodCallPos true o env apos pos = pure pos := by unfold methodCallPos; simp [hline]
  unfold methodCall
  rw [hform]
  refine wpAny_bind (wpAny_holding (wpAny_mono (h₁ _) (fun fx s₂ h₂ => ?_) fun _ _ e => e))
  exact wpAny_bind (wpAny_of_eq hpos h₂)

/-- a method is found -/
theorem get_meth {Q : Value × List Value → Shared → Prop} {name : Str} {f : Addr} {of : Obj} {pl : Sem Bool} (X : NamAt prog w s.heap C x dx nd ml met) (K : ClsOk base C N mN) (st : ∀ b o, base.get? b = some o → s.heap.get? b = some o) (hf : mN name = some (.ref f)) (hfo : base.get? f = some of) (hfc : of.cls = .type "function")
    (hB : typeLookup (.type "object") name = pure none) (hn : attrs nd ml name = none) (h : Q (.ref f, [.ref x]) s) : wpAny (model prog w) A (getMethod (.ref x) name pl) Q E s := by
  obtain ⟨hh, g, d, t, os⟩ := s
  obtain ⟨nm, q, bs, sn, sub, col, dd, k0, k1, k2, k3, k5, hC⟩ := (K.cls.keeps st).obj
  exact method_of hC (K.cls.keeps st).ns K.ga K.gh hf (st _ _ hfo) hfc hB X.inst hn h

/-- telling one value -/
noncomputable def Tells (prog : Program) (w : World) (base : Heap) (k : Nat) (C x dx nd ml ft : Addr) : Prop :=
  ∀ A s v d d' met met' E, NamAt prog w s.heap C x dx nd ml met → V s.heap v d → toldD met d = some (d', met') → Ok base k A s.heap → wpAny (model prog w) A (call (.ref ft) [.ref x, v]) (ToldPost prog w C x dx nd ml s d' met') E s

theorem row_loop {f : Nat → Pos} {cs scope : Scope} {env : Env} {ρ : Rho} {s₁ s₃ : Shared} {I Dd Cc ft : Addr} {oft : Obj} {fdt : FuncData} {fp : List Addr} {ds res : List D} {metF : List Pt} {P : Nat → Value → Prop} {St : Nat → Heap → Prop} {m : Str → Option Value} {R : Result → Shared → Prop}
    (K : ClsOk base C N mN) (ht : mN "told" = some (.ref ft)) (hto : base.get? ft = some oft) (htc : oft.cls = .type "function") (htd : oft.data = .func fdt) (HT : Tells prog w base k C x dx nd ml ft)
    (c : Cx prog w base k (scOf scope) env ρ A s₁.heap) (o : CompOk (scOf scope) cs nVal) (X : CompAt prog w A s s₁ s₃ I Dd Cc fp ds P St m) (Nm : NamAt prog w s₁.heap C x dx nd ml met) (hrow : rowD met ds = some (res, metF)) (hpd : D.pures ds = true)
    (hfp : nd ∉ fp ∧ ml ∉ fp) (hb : base.get? nd = none) (hbm : base.get? ml = none) (hL : env.locals ≠ nd ∧ env.locals ≠ ml) (hc : ∀ z c, env.cells.lookup z = some c → c ≠ nd ∧ c ≠ ml) (hρ : ∀ i lo, ρ.get i = some lo → (∃ a, lo = .ob a) ∨ ∃ d, lo = .arg d ∧ d.pure = true)
    (hself : idxVar (compSc (scOf scope) cs.names nVal) nSelf = some 0) (hval : idxVar (compSc (scOf scope) cs.names nVal) nVal = some (scOf scope).n) (hρ0 : ρ.get 0 = some (.ob x)) (hn0 : 0 < (scOf scope).n) (hline : ((f 2).endLine == (f 4).line) = true)
    (hR : ∀ h' tk m' ys, h'.Ns Cc m' → h'.PlainList Dd (List.toArray ys) → Vs h' ys res → RowSt prog w s₁.heap h' C x dx nd ml metF → R (.ok .next) { s₃ with heap := h', toks := tk }) :
    codeAny (model prog w) A (.compLoop (.ListComp (.Call (.Attribute (.Name nSelf (f 1)) "told" (f 2)) [.Name nVal (f 3)] [] (f 4)) [⟨.Name nVal (f 5), .Name "row" (f 6), [], 0⟩] cs (f 7)) 0 (.ref I) (.ref Dd) (compEnvC cs (clList cs.names env.cells []) Cc env)) R s₃ := by
  have new : ∀ b o₁, s₁.heap.get? b = some o₁ → b ≠ I ∧ b ≠ Dd ∧ b ≠ Cc := fun b o₁ e => ⟨(fun q => by rw [q, X.nI] at e; cases e), (fun q => by rw [q, X.nD] at e; cases e), (fun q => by rw [q, X.nC] at e; cases e)⟩
  obtain ⟨ond, hond⟩ := Nm.ins nd (.inr (.inr (.inl rfl)))
  obtain ⟨oml, homl⟩ := Nm.ins ml (.inr (.inr (.inr rfl)))
  have nnd := new nd ond hond
  have nml := new ml oml homl
  have hkx : (compEnvC cs (clList cs.names env.cells []) Cc env).kindOf nVal = some .local := lookup_relabel_local o.loc
  have R0 : RowSt prog w s₁.heap s₃.heap C x dx nd ml met := (RowSt.refl Nm).step (fun b o _ e => X.up b o e) (Tk.mono X.up)
  refine codeAny_compLoop_tests
    (fun kk s' => ∃ h' tk m' ys acc met' rest i, s' = { s₃ with heap := h', toks := tk } ∧ St i h' ∧ h'.PlainList Dd (List.toArray ys) ∧ h'.Ns Cc m' ∧ Vs h' ys acc ∧ D.pures acc = true ∧ acc ++ rest = res ∧ rowD met' (ds.drop i) = some (rest, metF) ∧ i ≤ ds.length ∧ acc.length ≤ i ∧ kk = ds.length + 1 - i ∧ RowSt prog w s₁.heap h' C x dx nd ml met') ?_ (ds.length + 1)
    ⟨s₃.heap, s₃.toks, m, [], [], met, res, 0, rfl, X.st, X.acc, X.ns, .nil, rfl, rfl, hrow, Nat.zero_le _, Nat.zero_le _, rfl, R0⟩
  rintro kk s' ⟨H, tk, m', ys, acc, met', rest, i, rfl, hst', hacc', hn', hvs, hpacc, hcat, hrest, hi, hai, rfl, Rr⟩
  have hCI : Cc ≠ I := fun q => X.cf (X.W.sub _ (by simp [q]))
  have hDI : Dd ≠ I := fun q => X.df (X.W.sub _ (by simp [q]))
  by_cases hlt : i < ds.length
  · refine X.W.item i _ _ _ hlt hst' fun v h₂ tk₂ hPv hst₂ hk₂ => ?_
    have hk₂' : ∀ b o, b ≠ I → H.get? b = some o → h₂.get? b = some o := fun b o hb e => hk₂ b o (by simpa using hb) e
    obtain ⟨d, hd, hVd⟩ := X.hP i v hPv
    rw [rowD_drop hd] at hrest
    replace hrest := ob hrest
    obtain ⟨⟨y, met''⟩, hy, hrest⟩ := hrest
    replace hrest := om hrest
    obtain ⟨⟨rs, mF⟩, hrs, he⟩ := hrest
    cases he
    refine wpAny_assign_Name (wpAny_storeName_local hkx (hn'.at' fun o e => hk₂' _ o hCI e) (fun h₃ hn₃ hs₃ => ?_) (by simp [compEnvC, relabel, o.kind]))
    have up : ∀ b o, b ≠ Cc → b ≠ I → H.get? b = some o → h₃.get? b = some o := fun b o hb hbI e => hs₃.extBut b o hb (hk₂' b o hbI e)
    have t3 : Tk H h₃ := tup_keep [Cc, I] (fun b o hb e => by
      simp only [List.mem_cons, List.not_mem_nil, or_false, not_or] at hb
      exact up b o hb.1 hb.2 e) (bad2 hn' (X.hSt _ _ hst'))
    have R3 : RowSt prog w s₁.heap h₃ C x dx nd ml met' := Rr.step (fun b o ⟨o₁, e₁⟩ e => up b o (new b o₁ e₁).2.2 (new b o₁ e₁).1 e) t3
    have hst₃ : St (i + 1) h₃ := X.W.frame _ _ _ hst₂ fun b hb o e => hs₃.extBut b o (fun q => X.cf ((show b = Cc from q) ▸ hb)) e
    rw [List.forIn_nil]
    refine wpAny_pure ?_
    rw [if_pos rfl]
    have hdp := pures_get hpd hd
    have c3 := R3.cx c hb hbm hL hc hρ
    have c3' := c3.comp (h₃ := h₃) o (fun b o e => e) hn₃ (if_pos rfl) (hVd.pureKeep R3.tk hdp)
    obtain ⟨v1, a1, q1⟩ := c3'.binds nSelf 0 (.ob x) (idxVar_some hself).1 (idxVar_some hself).2 (by rw [rho_app_get (by rw [c.len]; exact hn0)]; exact hρ0)
    have q1 : v1 = .ref x := q1
    subst q1
    obtain ⟨v2, a2, q2⟩ := c3'.binds nVal _ (.dat d) (idxVar_some hval).1 (idxVar_some hval).2 (by rw [← c.len]; exact rho_app_last)
    have q2 : V h₃ v2 d := q2
    refine Call_meth rfl rfl hline (load_var (ρ := ρ) (sc := scOf scope) (s := { s₃ with heap := h₃, toks := _ }) c3'.kind a1 (fun pl => get_meth R3.nam K c3'.ok.stays ht hto htc obj_told rfl ?_) (by decide))
    refine callWith_meth (h₀ := base) htd hto (args_cons (load_var (ρ := ρ) (sc := scOf scope) (s := { s₃ with heap := h₃, toks := _ }) c3'.kind a2 (args_nil ⟨c3'.ok.stays, ?_⟩) (by decide)) rfl) rfl
    refine wpAny_mono (HT _ { s₃ with heap := h₃, toks := _ } v2 d y met' met'' _ R3.nam q2 hy c3'.ok) (fun yv s₅ T => ?_) fun _ _ e => e
    obtain ⟨⟨h₅, tk₅, rfl⟩, hVy, X5, k5⟩ := T
    have R5 := R3.told X5 k5
    have t5 : Tk h₃ h₅ := R3.nam.tk k5
    have hacc₃ : h₃.PlainList Dd (List.toArray ys) := hacc'.at fun o e => up _ o X.dc hDI e
    have hacc₅ : h₅.PlainList Dd (List.toArray ys) := hacc₃.at fun o e => k5 _ o (Ne.symm nnd.2.1) (Ne.symm nml.2.1) e
    have hlys := hvs.length
    refine wpAny_list_append_plain (hsz := by simp only [List.size_toArray]; have := lim_line; have := X.len; omega) hacc₅ fun h₆ hl₆ hs₆ => ?_
    have t6 : Tk h₅ h₆ := tup_keep [Dd] (fun b o hb e => by
      simp only [List.mem_cons, List.not_mem_nil, or_false] at hb
      exact hs₆.extBut b o hb e) (bad1 hacc₅)
    have hpy := toldD_pure hy
    have hn₆ := (hn₃.at' fun o e => k5 _ o (Ne.symm nnd.2.2) (Ne.symm nml.2.2) e).sameBut hs₆ (Ne.symm X.dc)
    refine ⟨ds.length + 1 - (i + 1), by omega, h₆, tk₅, _, ys ++ [yv], acc ++ [y], met'', rs, i + 1, rfl, ?_, by simpa using hl₆, hn₆, ?_, ?_, by simpa using hcat, hrs, hlt, by simp only [List.length_append, List.length_singleton]; omega, rfl, ?_⟩
    · exact X.W.frame _ _ _ hst₃ fun b hb o e => hs₆.extBut b o (fun q => X.df (q ▸ hb)) (k5 b o (fun q => hfp.1 (q ▸ hb)) (fun q => hfp.2 (q ▸ hb)) e)
    · exact (hvs.pureKeep (t3.trans (t5.trans t6)) hpacc).append (.one (hVy.pureKeep t6 hpy))
    · exact pures_snoc hpacc hpy
    · exact R5.step (fun b o ⟨o₁, e₁⟩ e => hs₆.extBut b o (new b o₁ e₁).2.1 e) t6
  · have hin : i = ds.length := by omega
    subst hin
    rw [List.drop_length] at hrest
    cases hrest
    rw [List.append_nil] at hcat
    subst hcat
    refine X.W.done _ _ _ hst' fun h₂ tk₂ hk₂ => ?_
    have hk₂' : ∀ b o, b ≠ I → H.get? b = some o → h₂.get? b = some o := fun b o hb e => hk₂ b o (by simpa using hb) e
    have t2 : Tk H h₂ := Tk.but (X.hSt _ _ hst') hk₂'
    exact hR h₂ tk₂ m' ys (hn'.at' fun o e => hk₂' _ o hCI e) (hacc'.at fun o e => hk₂' _ o hDI e) (hvs.pureKeep t2 hpacc) (Rr.step (fun b o ⟨o₁, e₁⟩ e => hk₂' b o (new b o₁ e₁).1 e) t2)
end
end Mine

namespace Mine
open PySem PySem.Calls PyProof.Rows PySem.SeqAt

section
variable {prog : Program} {w : World} {base : Heap} {fns : List Str} {mg mb : Str → Option Value} {fa : Nat → Addr} {Φ : Fns} {k n : Nat} {A : Around} {E : Value → Shared → Prop} {s : Shared} {C N x dx nd ml : Addr} {met met' : List Pt} {mN : Str → Option Value}

theorem inFrame {h₀ h : Heap} {sc : Sc} {env : Env} {T : List (Addr × Obj)} {ρ : Rho} (I : Inv prog w base h₀ k sc env T ρ A h) {a : Addr} (e : ∃ o, h₀.get? a = some o) : env.locals ≠ a ∧ ∀ z c, env.cells.lookup z = some c → c ≠ a := by
  obtain ⟨o, e⟩ := e
  exact ⟨(fun q => by have := I.newL; rw [q, e] at this; cases this), (fun z c hz q => by have := (I.cel z c hz).1; rw [q, e] at this; cases this)⟩

theorem row_ok {fr ft : Addr} {scope cs : Scope} {f : Nat → Pos} {o oft : Obj} {fd fdt : FuncData} {v : Value} {ds res : List D} (G : Gl fns base mg mb fa) (K : ClsOk base C N mN) (F : FnAt base fr [nSelf, "row"] (rowBody f cs) scope o fd)
    (ht : mN "told" = some (.ref ft)) (hto : base.get? ft = some oft) (htc : oft.cls = .type "function") (htd : oft.data = .func fdt) (HT : Tells prog w base k C x dx nd ml ft)
    (hco : compOk (scOf scope) cs nVal = true) (hgt : glob (scOf scope) "tuple" = true) (hrow' : idxVar (scOf scope) "row" = some 1) (hself : idxVar (compSc (scOf scope) cs.names nVal) nSelf = some 0) (hval : idxVar (compSc (scOf scope) cs.names nVal) nVal = some (scOf scope).n) (hn0 : 0 < (scOf scope).n)
    (hrho : ∀ a b, rhoL scope.names [nSelf, "row"] [a, b] = [some a, some b, none]) (hline : ((f 2).endLine == (f 4).line) = true)
    (X : NamAt prog w s.heap C x dx nd ml met) (hv : V s.heap v (.tup ds)) (hp : D.pure (.tup ds) = true) (hr : rowD met ds = some (res, met')) (O : Ok base (k + 1) A s.heap) (hb : base.get? nd = none) (hbm : base.get? ml = none) :
    wpAny (model prog w) A (call (.ref fr) [.ref x, v]) (ToldPost prog w C x dx nd ml s (.tup res) met') E s := by
  refine enterL F G.lim O (.ob (.arg hv .nil)) rfl fun s₁ env sm I => ?_
  rw [hrho] at I
  have X1 := X.keeps I.keep
  have l1 := inFrame I (X.ins nd (.inr (.inr (.inl rfl))))
  have l2 := inFrame I (X.ins ml (.inr (.inr (.inr rfl))))
  refine wpAny_execs_cons (wpAny_Return_some (Call_ (load_builtin G I.cx hgt (by decide +kernel) boot_tuple (callWith_type1 (args_cons ?_ rfl) rfl))))
  rw [eval_ListComp]
  refine comp_start (ds := ds) (Src := fun xv s₂ fp => nd ∉ fp ∧ ml ∉ fp) I.cx (compOk_of hco) (fun _ => rfl) ?_ fun xv s₂ s₃ I' Dd Cc fp P St m Y hS => ?_
  · obtain ⟨v', a', q'⟩ := I.cx.binds "row" 1 (.arg (.tup ds)) (idxVar_some hrow').1 (idxVar_some hrow').2 rfl
    have q' : V s₁.heap v' (.tup ds) := q'
    refine load_var (ρ := []) (sc := scOf scope) I.kind a' ?_ (by decide)
    refine wpAny_mono (iter_seq I.ok.hand q' rfl) (fun itv s₂ h₂ => ?_) fun _ _ e => e
    obtain ⟨I', ax, e1, e2, e3, e4⟩ := h₂
    refine ⟨items_len q' rfl, I', _, e1, keeps_refl _, e3, e4, ?_⟩
    obtain ⟨_, _, _, _, _, hI, _⟩ := e4
    subst e2
    have hni : ∀ b, (b = x ∨ b = dx ∨ b = nd ∨ b = ml) → b ≠ I' := fun b hb q => by
      obtain ⟨o, ho⟩ := X1.ins b hb
      rw [q, hI] at ho; cases ho
    cases q' with
    | tup tp _ _ =>
      obtain ⟨o, e, c, _⟩ := tp
      obtain ⟨o2, es, ep, r1, r2, _⟩ := X1.dic.obj
      obtain ⟨vs, ⟨n, p⟩, _⟩ := X1.lst
      refine ⟨fun hm => ?_, fun hm => ?_⟩
      · rcases List.mem_cons.mp hm with q | hm
        · exact hni nd (.inr (.inr (.inl rfl))) q
        · rw [← List.mem_singleton.mp hm, r1] at e; cases e; rw [r2.1] at c; simp at c
      · rcases List.mem_cons.mp hm with q | hm
        · exact hni ml (.inr (.inr (.inr rfl))) q
        · rw [← List.mem_singleton.mp hm, p] at e; cases e; simp at c
  · have k2 := keeps_heap Y.keep
    refine row_loop K ht hto htc htd HT (I.cx.mono k2) (compOk_of hco) Y (X1.keeps k2) hr (D.pure_item hp) hS hb hbm ⟨l1.1, l2.1⟩ (fun z c hz => ⟨l1.2 z c hz, l2.2 z c hz⟩) (fun i lo hi => ?_) hself hval rfl hn0 hline fun h' tk m' ys hn hl hvs R => ?_
    · match i, hi with
      | 0, hi => cases hi; exact .inl ⟨x, rfl⟩
      | 1, hi => cases hi; exact .inr ⟨_, rfl, hp⟩
      | 2, hi => cases hi
      | (j + 3), hi => simp [Rho.get] at hi
    · refine ⟨m', hn, fun h'' hs'' => args_nil ?_⟩
      obtain ⟨hpr, hlen⟩ := rowD_pures hr
      have t7 : Tk h' h'' := tup_keep [Cc] (fun b o hb e => by
        simp only [List.mem_cons, List.not_mem_nil, or_false] at hb
        exact hs''.extBut b o hb e) (fun b hb => by rw [List.mem_singleton.mp hb]; exact badNs hn)
      have R7 := R.step (fun b o ⟨o₁, e₁⟩ e => hs''.extBut b o (fun q => by rw [q, Y.nC] at e₁; cases e₁) e) t7
      have hV : V h'' (.ref Dd) (.lst res) := .lst (hl.extBut hs''.extBut Y.dc) (hvs.pureKeep t7 hpr) (by rw [hlen]; exact Y.len)
      refine wpAny_mono (toTup_ok (s := { s₃ with heap := h'', toks := tk }) hV rfl) (fun r s₈ q => ?_) fun _ _ e => e
      have k8 := keeps_heap q.1
      obtain ⟨h3, t3, e3⟩ := Y.same
      have sm8 : Same s s₈ := sm.trans ((Same.keeps Y.keep).trans (Same.trans ⟨h'', tk, by rw [e3]⟩ (Same.keeps q.1)))
      exact ⟨sm8, q.2, R7.nam.keeps k8, fun b o n1 n2 e => k8 b o (R7.kp b o n1 n2 (k2 b o (I.keep b o e)))⟩
end
end Mine

namespace Mine
open PySem PySem.Calls PyProof.Rows PySem.SeqAt

noncomputable def initBody (f : Nat → Pos) : List Stmt :=
  [.Assign [eSelf f 0 nNum] (.Dict [] [] (f 2)) (f 3), .Assign [eSelf f 4 nMet] (.List [] (f 6)) (f 7)]

structure InstX (h : Heap) (x dx C : Addr) (mA : Str → Option Value) : Prop where
  obj : ∃ o, h.get? x = some o ∧ o.cls = .ref C ∧ o.dict = some dx ∧ ∀ c, o.data ≠ .cls c
  ns : h.Ns1 dx mA
  apart : dx ≠ x
theorem InstX.keeps {h h' : Heap} {x dx C : Addr} {mA : Str → Option Value} (X : InstX h x dx C mA) (k : ∀ b o, h.get? b = some o → h'.get? b = some o) : InstX h' x dx C mA :=
  ⟨let ⟨o, e, r⟩ := X.obj; ⟨o, k _ _ e, r⟩, X.ns.at fun o => k _ o, X.apart⟩

section
variable {prog : Program} {w : World} {base : Heap} {fns : List Str} {mg mb : Str → Option Value} {fa : Nat → Addr} {Φ : Fns} {k n : Nat} {A : Around} {E : Value → Shared → Prop} {s : Shared} {C N x dx nd ml : Addr} {met met' : List Pt} {mN mA : Str → Option Value}

theorem set_attr {name : Str} {v : Value} {Q : Unit → Shared → Prop} {ns : List Str} (X : InstX s.heap x dx C mA) (K : ClsOk base C N mN) (st : ∀ b o, base.get? b = some o → s.heap.get? b = some o) (hna : mN name = none) (hB : typeLookup (.type "object") name = pure none) (hw : Within mA ns) (hsz : ns.length ≤ 2)
    (hQ : ∀ h' tk, InstX h' x dx C (fun y => if y = name then some v else mA y) → (∀ b o, b ≠ x → b ≠ dx → s.heap.get? b = some o → h'.get? b = some o) → Q () { s with heap := h', toks := tk }) : wpAny (model prog w) A (setAttr (.ref x) name v) Q E s := by
  obtain ⟨hh, g, d, t, os⟩ := s
  obtain ⟨nm, q, bs, sn, sub, col, dd, k0, k1, k2, k3, k5, hC⟩ := (K.cls.keeps st).obj
  obtain ⟨ox, hx, hcx, hdx, hncx⟩ := X.obj
  have hxC : x ≠ C := by
    rintro rfl
    have hC : hh.get? x = _ := hC
    have hx : hh.get? x = _ := hx
    rw [hC] at hx; cases hx
    exact hncx _ rfl
  refine store_attr PySem.F.store_object hC (K.cls.keeps st).ns K.sa hna hB hxC ⟨ox, hx, hcx, hncx, .inr ⟨dx, hdx, X.apart, X.ns⟩⟩ (fun h' tk' I' hk hsame => ?_) hw (Nat.le_trans hsz (by decide))
  refine hQ h' tk' ?_ (fun b o h1 h2 e => hk b o h1 (fun o₀ d' e₀ ed => by
    obtain rfl := Option.some.inj (hx.symm.trans e₀); obtain rfl := Option.some.inj (hdx.symm.trans ed); exact h2) e)
  obtain ⟨o₁, e₁, c₁, dt₁, _, dk₁⟩ := hsame ox hx
  obtain ⟨o', e', _, _, hd'⟩ := I'
  obtain rfl := Option.some.inj (e₁.symm.trans e')
  rcases hd' with ⟨hn0, _⟩ | ⟨d', hd', _, hns'⟩
  · rw [dk₁ dx hdx] at hn0; cases hn0
  · obtain rfl := Option.some.inj ((dk₁ dx hdx).symm.trans hd')
    exact ⟨⟨o₁, e₁, c₁.trans hcx, dk₁ _ hdx, fun c => dt₁ ▸ hncx c⟩, hns', X.apart⟩

/-- what __init__ leaves behind -/
abbrev InitPost (prog : Program) (w : World) (C x dx : Addr) (s : Shared) : Value → Shared → Prop := fun r s' =>
  r = .none ∧ ∃ nd ml, Same s s' ∧ NamAt prog w s'.heap C x dx nd ml [] ∧ s.heap.get? nd = none ∧ s.heap.get? ml = none ∧ ∀ b o, b ≠ x → b ≠ dx → s.heap.get? b = some o → s'.heap.get? b = some o

theorem init_ok {fi : Addr} {scope : Scope} {f : Nat → Pos} {o : Obj} {fd : FuncData} (G : Gl fns base mg mb fa) (K : ClsOk base C N mN) (F : FnAt base fi [nSelf] (initBody f) scope o fd) (hself : idxVar (scOf scope) nSelf = some 0) (hrho : ∀ a, rhoL scope.names [nSelf] [a] = [some a])
    (X : InstX s.heap x dx C fun _ => none) (hbx : base.get? x = none) (hbd : base.get? dx = none) (O : Ok base (k + 1) A s.heap) : wpAny (model prog w) A (call (.ref fi) [.ref x]) (InitPost prog w C x dx s) E s := by
  refine enterL F G.lim O (.ob .nil) rfl fun s₁ env sm I => ?_
  rw [hrho] at I
  obtain ⟨v1, a1, q1⟩ := I.cx.binds nSelf 0 (.ob x) (idxVar_some hself).1 (idxVar_some hself).2 rfl
  have q1 : v1 = .ref x := q1
  subst q1
  obtain ⟨ox, hox, _⟩ := X.obj
  obtain ⟨od, _, _, hod, _⟩ := X.ns
  have l1 := inFrame I ⟨ox, hox⟩
  have l2 := inFrame I ⟨od, hod⟩
  have X1 := X.keeps I.keep
  -- the dict
  refine wpAny_execs_cons (plainObj_wpAny_Assign_Attribute (wpAny_Dict_empty ?_) rfl)
  have k2 : ∀ b o, s₁.heap.get? b = some o → (s₁.heap.push { cls := .type "dict", data := .dict #[] }).get? b = some o := fun b o e => Heap.get?_push_of_some _ e
  have hD : DicAt prog w (s₁.heap.push { cls := .type "dict", data := .dict #[] }) s₁.heap.objs.size [] := .new (size_sys G I.ok)
  generalize hH : s₁.heap.push { cls := .type "dict", data := .dict #[] } = H at k2 hD ⊢
  have n0 : ∀ b, s₁.heap.get? b = none → s.heap.get? b = none := fun b e => by
    cases q : s.heap.get? b with
    | none => rfl
    | some o => rw [I.keep _ _ q] at e; cases e
  have fnd := size_none s₁.heap
  have hnx : s₁.heap.objs.size ≠ x := fun q => by have := n0 _ fnd; rw [q, hox] at this; cases this
  have hnd : s₁.heap.objs.size ≠ dx := fun q => by have := n0 _ fnd; rw [q, hod] at this; cases this
  refine load_var (ρ := []) (sc := scOf scope) (s := { s₁ with heap := H }) I.kind (a1.mono k2) (set_attr (s := { s₁ with heap := H }) (X1.keeps k2) K (fun b o e => k2 b o (I.ok.stays b o e)) K.num obj_num Within.nil (by decide) fun h₃ tk₃ X3 k3 => ?_) (by decide)
  have a3 : At h₃ env nSelf (.ref x) := (a1.mono k2).two k3 ⟨l1.1, l2.1⟩ fun z c hz => ⟨l1.2 z c hz, l2.2 z c hz⟩
  have kk3 : ∀ b o, b ≠ x → b ≠ dx → s₁.heap.get? b = some o → h₃.get? b = some o := fun b o h1 h2 e => k3 b o h1 h2 (k2 b o e)
  have t3 : Tk H h₃ := tup_keep [x, dx] (fun b o hb e => by
    simp only [List.mem_cons, List.not_mem_nil, or_false, not_or] at hb
    exact k3 b o hb.1 hb.2 e) fun b hb o' ho' => by
      simp only [List.mem_cons, List.not_mem_nil, or_false] at hb
      rcases hb with rfl | rfl
      · have := k2 _ _ (I.keep _ _ hox)
        rw [ho'] at this; cases this
        obtain ⟨o2, e2, c2, _⟩ := X.obj
        rw [hox] at e2; cases e2
        exact .inl (by rw [c2]; intro q; cases q)
      · obtain ⟨o2, es2, ep2, e2, c2, _⟩ := (X1.keeps k2).ns
        rw [ho'] at e2; cases e2
        exact .inr fun xs n q => by rw [c2] at q; cases q
  have hD3 : DicAt prog w h₃ s₁.heap.objs.size [] := hD.change (fun o e => k3 _ o hnx hnd e) t3
  -- the list
  refine wpAny_execs_cons (plainObj_wpAny_Assign_Attribute (List_ (args_nil (wpAny_newObj_type ?_ (by show (0 : Nat) ≤ _; exact Nat.zero_le _)))) rfl)
  have k4 : ∀ b o, h₃.get? b = some o → (h₃.push { cls := .type "list", dict := none, data := .seq ([] : List Value).toArray }).get? b = some o := fun b o e => Heap.get?_push_of_some _ e
  have hl4 : (h₃.push { cls := .type "list", dict := none, data := .seq ([] : List Value).toArray }).PlainList h₃.objs.size (List.toArray []) := ⟨_, Heap.get?_push_size _ rfl⟩
  dsimp only
  generalize h₃.push { cls := .type "list", dict := none, data := .seq ([] : List Value).toArray } = H4 at k4 hl4 ⊢
  have fml := size_none h₃
  have hmx : h₃.objs.size ≠ x := fun q => by obtain ⟨o, e, _⟩ := X3.obj; rw [q, e] at fml; cases fml
  have hmd : h₃.objs.size ≠ dx := fun q => by obtain ⟨o, _, _, e, _⟩ := X3.ns; rw [q, e] at fml; cases fml
  refine load_var (ρ := []) (sc := scOf scope) (s := { s₁ with heap := H4, toks := tk₃ }) I.kind (a3.mono k4) (set_attr (s := { s₁ with heap := H4, toks := tk₃ }) (X3.keeps k4) K (fun b o e => k4 b o (kk3 b o (by rintro rfl; rw [hbx] at e; cases e) (by rintro rfl; rw [hbd] at e; cases e) (I.ok.stays b o e))) K.met obj_met (Within.cons _ _ Within.nil) (by decide) fun h₅ tk₅ X5 k5 => wpAny_execs_nil ?_) (by decide)
  have hDobj := hD3.keeps k4
  have t5 : Tk H4 h₅ := tup_keep [x, dx] (fun b o hb e => by
    simp only [List.mem_cons, List.not_mem_nil, or_false, not_or] at hb
    exact k5 b o hb.1 hb.2 e) fun b hb o' ho' => by
      simp only [List.mem_cons, List.not_mem_nil, or_false] at hb
      rcases hb with rfl | rfl
      · obtain ⟨o2, e2, c2, _⟩ := (X3.keeps k4).obj
        rw [ho'] at e2; cases e2
        exact .inl (by rw [c2]; intro q; cases q)
      · obtain ⟨o2, es2, ep2, e2, c2, _⟩ := (X3.keeps k4).ns
        rw [ho'] at e2; cases e2
        exact .inr fun xs n q => by rw [c2] at q; cases q
  refine ⟨rfl, s₁.heap.objs.size, h₃.objs.size, sm.trans ⟨h₅, tk₅, rfl⟩, ⟨X5.obj, X5.ns, X5.apart, hnd, hDobj.change (fun o e => k5 _ o hnx hnd e) t5, [], hl4.at fun o e => k5 _ o hmx hmd e, .nil⟩, n0 _ fnd, ?_, fun b o h1 h2 e => k5 b o h1 h2 (k4 b o (kk3 b o h1 h2 (I.keep b o e)))⟩
  cases q : s.heap.get? h₃.objs.size with
  | none => rfl
  | some o => have := kk3 _ o hmx hmd (I.keep _ _ q); rw [fml] at this; cases this

theorem Ok.make (O : Ok base (k + 1) A s.heap) (C : Addr) : Ok base k (A.under (.builtin "type.__call__" ⟨[.ref C], []⟩)) s.heap := by
  obtain ⟨a1, a2, a3, l, L⟩ := O
  refine ⟨a1, ?_, ?_, l, ⟨L.stack, L.stays, L.frames⟩⟩
  · show A.depth + 1 + k < _; omega
  · show A.units + (1 + 3 * 0) + 10 * k + 100 < _; omega

/-- what making a Namer leaves behind -/
abbrev NewPost (prog : Program) (w : World) (C : Addr) (s : Shared) : Value → Shared → Prop := fun r s' =>
  ∃ x dx nd ml, r = .ref x ∧ Keeps s s' ∧ NamAt prog w s'.heap C x dx nd ml [] ∧ s.heap.get? x = none ∧ s.heap.get? dx = none ∧ s.heap.get? nd = none ∧ s.heap.get? ml = none

theorem new_ok {fi : Addr} {scope : Scope} {f : Nat → Pos} {o : Obj} {fd : FuncData} (G : Gl fns base mg mb fa) (K : ClsOk base C N mN) (hi : mN "__init__" = some (.ref fi)) (hfc : o.cls = .type "function") (F : FnAt base fi [nSelf] (initBody f) scope o fd) (hself : idxVar (scOf scope) nSelf = some 0) (hrho : ∀ a, rhoL scope.names [nSelf] [a] = [some a])
    (O : Ok base (k + 2) A s.heap) : wpAny (model prog w) A (call (.ref C) []) (NewPost prog w C s) E s := by
  obtain ⟨hh, g, d, t, os⟩ := s
  obtain ⟨nm, q, bs, sn, sub, col, dd, k0, k1, k2, k3, k5, hC⟩ := (K.cls.keeps O.stays).obj
  refine wpAny_call_obj_init PySem.F.objNew hC (K.cls.keeps O.stays).ns hi (O.stays _ _ F.at') hfc fun h' x dx Mk => ?_
  have O2 : Ok base (k + 1) (A.under (.builtin "type.__call__" ⟨[.ref C], []⟩)) (Shared.heap ⟨h', g, d, t, os⟩) := (O.mono Mk.keeps).make (s := ⟨h', g, d, t, os⟩) C
  obtain ⟨ox, hx, hcx, hncx, hdx⟩ := Mk.inst
  have hdd := Mk.dict ox hx
  have X : InstX h' x dx C fun _ => none := by
    rcases hdx with ⟨hn0, _⟩ | ⟨d', hd', hne', hns'⟩
    · rw [hn0] at hdd; cases hdd
    · obtain rfl := Option.some.inj (hd'.symm.trans hdd)
      exact ⟨⟨ox, hx, hcx, hdd, hncx⟩, hns', hne'⟩
  have bn : ∀ b, hh.get? b = none → base.get? b = none := fun b e => by
    cases q : base.get? b with
    | none => rfl
    | some o => have := O.stays _ _ q; rw [show hh.get? b = none from e] at this; cases this
  refine wpAny_mono (init_ok (s := ⟨h', g, d, t, os⟩) G K F hself hrho X (bn _ Mk.newX) (bn _ Mk.newD) O2) (fun r s' q => ?_) fun _ _ e => e
  obtain ⟨rfl, nd, ml, ⟨h2, t2, rfl⟩, Nm, n1, n2, k3⟩ := q
  have up : ∀ b o, hh.get? b = some o → h2.get? b = some o := fun b o e => k3 b o (by rintro rfl; rw [Mk.newX] at e; cases e) (by rintro rfl; rw [Mk.newD] at e; cases e) (Mk.keeps b o e)
  have n0 : ∀ b, h'.get? b = none → hh.get? b = none := fun b e => by
    cases q : hh.get? b with
    | none => rfl
    | some o => rw [Mk.keeps _ _ q] at e; cases e
  exact ⟨rfl, x, dx, nd, ml, rfl, ⟨h2, t2, rfl, up⟩, Nm, Mk.newX, Mk.newD, n0 _ n1, n0 _ n2⟩
end
end Mine

namespace Mine
open PySem PySem.Calls PyProof.Rows PySem.SeqAt

abbrev nNm : Str := "namer"
abbrev nHp : Str := "heap"
abbrev nAt : Str := "at"
abbrev nTh : Str := "things"
abbrev nRt : Str := "roots"
noncomputable def callRow (f : Nat → Pos) (i : Nat) (e : Expr) (p q : Pos) : Expr := .Call (.Attribute (.Name nNm (f i)) "told_row" p) [e] [] q
noncomputable def rowOf (f : Nat → Pos) : Expr := .Subscript (.Call (.Name "thing_at" (f 22)) [.Name nHp (f 23), .Subscript (.Attribute (.Name nNm (f 24)) nMet (f 25)) (.Name nAt (f 26)) (f 27)] [] (f 28)) (.Constant (.int 1) 0 (f 29)) (f 30)
noncomputable def shapeTest (f : Nat → Pos) : Expr := .Compare (.Name nAt (f 12)) [.Lt] [.Call (.Name "len" (f 13)) [.Attribute (.Name nNm (f 14)) nMet (f 15)] [] (f 16)] (f 17)
noncomputable def shapeApp (f : Nat → Pos) : Stmt := .Expr (.Call (.Attribute (.Name nTh (f 18)) "append" (f 19)) [callRow f 20 (rowOf f) (f 21) (f 31)] [] (f 32)) (f 33)
noncomputable def shapeBody (f : Nat → Pos) (st3 st4 st6 st7 : Stmt) : List Stmt :=
  [.Assign [.Name nNm (f 0)] (.Call (.Name "Namer" (f 1)) [] [] (f 2)) (f 3),
   .Assign [.Name nRt (f 4)] (callRow f 5 (.Subscript (.Name nHp (f 7)) (.Constant (.int 2) 0 (f 8)) (f 9)) (f 6) (f 10)) (f 11),
   st3, st4, .While (shapeTest f) [shapeApp f, st6] [] (f 34), st7]

theorem At.eq {h : Heap} {env : Env} {y : Str} {v v' : Value} (a : At h env y v) (b : At h env y v') : v = v' := by
  cases a with
  | loc m e1 e2 e3 =>
    cases b with
    | loc m' f1 f2 f3 => have := ns_fun e2 f2; subst this; rw [e3] at f3; cases f3; rfl
    | cell c f1 f2 f3 => rw [e1] at f1; cases f1
  | cell c e1 e2 e3 =>
    cases b with
    | loc m' f1 f2 f3 => rw [e1] at f1; cases f1
    | cell c' f1 f2 f3 =>
      rw [e2] at f2; cases f2
      obtain ⟨o, ho, hd⟩ := e3
      obtain ⟨o', ho', hd'⟩ := f3
      rw [ho] at ho'; cases ho'
      rw [hd] at hd'; cases hd'; rfl

/-- the object's four parts, guarded -/
structure Four (h : Heap) (x dx nd ml : Addr) (Cs : List (Addr × Obj)) : Prop where
  is : ∃ a b c d, Cs = [(x, a), (dx, b), (nd, c), (ml, d)]
  at' : ∀ p ∈ Cs, h.get? p.1 = some p.2

section
variable {prog : Program} {w : World} {base : Heap} {fns : List Str} {mg mb : Str → Option Value} {fa : Nat → Addr} {Φ : Fns} {k n : Nat} {A : Around} {E : Value → Shared → Prop} {s : Shared} {C N x dx nd ml : Addr} {met met' : List Pt} {mN mA : Str → Option Value} {h h' h₀ : Heap} {Cs : List (Addr × Obj)}

theorem NamAt.four (X : NamAt prog w h C x dx nd ml met) : ∃ Cs, Four h x dx nd ml Cs := by
  obtain ⟨a, ha⟩ := X.ins x (.inl rfl)
  obtain ⟨b, hb⟩ := X.ins dx (.inr (.inl rfl))
  obtain ⟨c, hc⟩ := X.ins nd (.inr (.inr (.inl rfl)))
  obtain ⟨d, hd⟩ := X.ins ml (.inr (.inr (.inr rfl)))
  refine ⟨_, ⟨a, b, c, d, rfl⟩, fun p hp => ?_⟩
  simp only [List.mem_cons, List.not_mem_nil, or_false] at hp
  rcases hp with rfl | rfl | rfl | rfl <;> assumption
theorem Four.mem (F : Four h x dx nd ml Cs) {b : Addr} (hb : b = x ∨ b = dx ∨ b = nd ∨ b = ml) : ∃ p ∈ Cs, p.1 = b := by
  obtain ⟨⟨a, b', c, d, rfl⟩, _⟩ := F
  rcases hb with rfl | rfl | rfl | rfl
  · exact ⟨_, .head _, rfl⟩
  · exact ⟨_, .tail _ (.head _), rfl⟩
  · exact ⟨_, .tail _ (.tail _ (.head _)), rfl⟩
  · exact ⟨_, .tail _ (.tail _ (.tail _ (.head _))), rfl⟩
theorem Four.of (F : Four h x dx nd ml Cs) {p : Addr × Obj} (hp : p ∈ Cs) : p.1 = x ∨ p.1 = dx ∨ p.1 = nd ∨ p.1 = ml := by
  obtain ⟨⟨a, b', c, d, rfl⟩, _⟩ := F
  simp only [List.mem_cons, List.not_mem_nil, or_false] at hp
  rcases hp with rfl | rfl | rfl | rfl
  · exact .inl rfl
  · exact .inr (.inl rfl)
  · exact .inr (.inr (.inl rfl))
  · exact .inr (.inr (.inr rfl))
/-- the object stays while it is guarded -/
theorem nam_prot {sc : Sc} {env : Env} {ρ : Rho} (X : NamAt prog w h C x dx nd ml met) (F : Four h x dx nd ml Cs) (I : Inv prog w base h₀ k sc env (Cs ++ []) ρ A h') (kt : Tk h h') : NamAt prog w h' C x dx nd ml met ∧ Four h' x dx nd ml Cs := by
  have key : ∀ p ∈ Cs, h'.get? p.1 = some p.2 := fun p hp => (I.prot p (List.mem_append_left _ hp)).1
  refine ⟨X.but (fun b o hb e => ?_) kt, F.is, key⟩
  obtain ⟨p, hp, rfl⟩ := F.mem hb
  rw [F.at' p hp] at e; cases e
  exact key p hp

/-- a row is told: the frame stands as before -/
theorem row_moved {sc : Sc} {env : Env} {ρ : Rho} (X : NamAt prog w h C x dx nd ml met) (F : Four h x dx nd ml Cs) (I : Inv prog w base h₀ k sc env (Cs ++ []) ρ A h) (X' : NamAt prog w h' C x dx nd ml met') (hk : ∀ b o, b ≠ nd → b ≠ ml → h.get? b = some o → h'.get? b = some o)
    (h0 : ∀ p ∈ Cs, h₀.get? p.1 = none) (hb : base.get? nd = none) (hbm : base.get? ml = none) : ∃ Cs', Four h' x dx nd ml Cs' ∧ Inv prog w base h₀ k sc env (Cs' ++ []) ρ A h' ∧ (∀ p ∈ Cs', h₀.get? p.1 = none) ∧ Tk h h' := by
  obtain ⟨Cs', F'⟩ := X'.four
  have kt := X.tk hk
  have hf : ∀ p ∈ Cs', ∃ q ∈ Cs, q.1 = p.1 := fun p hp => F.mem (F'.of hp)
  have hnd := F.mem (.inr (.inr (.inl rfl)))
  have hml := F.mem (.inr (.inr (.inr rfl)))
  refine ⟨Cs', F', I.moved hf (fun b o hne e => hk b o (fun q => ?_) (fun q => ?_) e) F'.at' h0 (fun p hp => by cases hp) kt (((RowSt.refl X).told X' hk).ok I.ok hb hbm), fun p hp => ?_, kt⟩
  · obtain ⟨r, hr, e'⟩ := hnd; exact hne r hr (q.trans e'.symm)
  · obtain ⟨r, hr, e'⟩ := hml; exact hne r hr (q.trans e'.symm)
  · obtain ⟨r, hr, e'⟩ := hf p hp; rw [← e']; exact h0 r hr

/-- telling a row -/
noncomputable def TellsR (prog : Program) (w : World) (base : Heap) (k : Nat) (C fr : Addr) : Prop :=
  ∀ x dx nd ml A s v ds res met met' E, NamAt prog w s.heap C x dx nd ml met → V s.heap v (.tup ds) → D.pure (.tup ds) = true → rowD met ds = some (res, met') → base.get? nd = none → base.get? ml = none → Ok base k A s.heap → wpAny (model prog w) A (call (.ref fr) [.ref x, v]) (ToldPost prog w C x dx nd ml s (.tup res) met') E s

structure ShapeEnv (prog : Program) (w : World) (base : Heap) (k : Nat) (sc : Sc) (C fr : Addr) (mN : Str → Option Value) (ofr : Obj) (fdr : FuncData) : Prop where
  told : mN "told_row" = some (.ref fr)
  at' : base.get? fr = some ofr
  cls : ofr.cls = .type "function"
  data : ofr.data = .func fdr
  ok : TellsR prog w base k C fr

/-- «namer.told_row(e)» -/
theorem tell_row {sc : Sc} {env : Env} {ρ : Rho} {fr : Addr} {ofr : Obj} {fdr : FuncData} {f : Nat → Pos} {i : Nat} {e : Expr} {p q : Pos} {ds res : List D} {Q : Value → Shared → Prop} (K : ClsOk base C N mN) (SE : ShapeEnv prog w base k sc C fr mN ofr fdr) (I : Inv prog w base h₀ k sc env (Cs ++ []) ρ A s.heap)
    (X : NamAt prog w s.heap C x dx nd ml met) (F : Four s.heap x dx nd ml Cs) (h0 : ∀ p ∈ Cs, h₀.get? p.1 = none) (hb : base.get? nd = none) (hbm : base.get? ml = none) (hnm : idxVar sc nNm = some 1) (hρ : ρ.get 1 = some (.ob x)) (hline : (p.endLine == q.line) = true) (hs : starEach [e] env = [(false, eval e env)])
    (he : wpAny (model prog w) A (eval e env) (Post s (.tup ds)) E s) (hp : D.pure (.tup ds) = true) (hr : rowD met ds = some (res, met'))
    (hQ : ∀ r s' Cs', Same s s' → V s'.heap r (.tup res) → NamAt prog w s'.heap C x dx nd ml met' → Four s'.heap x dx nd ml Cs' → Inv prog w base h₀ k sc env (Cs' ++ []) ρ A s'.heap → (∀ p ∈ Cs', h₀.get? p.1 = none) → Tk s.heap s'.heap → (∀ b o, b ≠ nd → b ≠ ml → s.heap.get? b = some o → s'.heap.get? b = some o) → Q r s') :
    wpAny (model prog w) A (eval (callRow f i e p q) env) Q E s := by
  obtain ⟨v1, a1, q1⟩ := I.cx.binds nNm 1 (.ob x) (idxVar_some hnm).1 (idxVar_some hnm).2 hρ
  have q1 : v1 = .ref x := q1
  subst q1
  refine Call_meth rfl hs hline (load_var (ρ := ρ) (sc := sc) I.kind a1 (fun pl => get_meth X K I.ok.stays SE.told SE.at' SE.cls obj_told_row rfl ?_) (by decide))
  have he0 : starEach (e :: []) env = (false, eval e env) :: starEach [] env := hs
  refine callWith_meth (h₀ := base) SE.data SE.at' (args_cons (wpAny_mono he (fun v s₁ q₁ => args_nil ?_) fun _ _ e => e) he0) he0
  have k1 := keeps_heap q₁.1
  have I1 := I.mono k1
  have X1 := X.keeps k1
  have F1 : Four s₁.heap x dx nd ml Cs := ⟨F.is, fun p hp => k1 _ _ (F.at' p hp)⟩
  refine ⟨I1.ok.stays, wpAny_mono (SE.ok x dx nd ml A s₁ v ds res met met' E X1 q₁.2 hp hr hb hbm I1.ok) (fun r s₂ T => ?_) fun _ _ e => e⟩
  obtain ⟨sm, hV, X2, k2⟩ := T
  obtain ⟨Cs', F2, I2, h02, t2⟩ := row_moved X1 F1 I1 X2 k2 h0 hb hbm
  exact hQ r s₂ Cs' ((Same.keeps q₁.1).trans sm) hV X2 F2 I2 h02 ((Tk.mono k1).trans t2) fun b o n1 n2 e => k2 b o n1 n2 (k1 b o e)
end
end Mine

namespace Mine
open PySem PySem.Calls PyProof.Rows PySem.SeqAt

section
variable {prog : Program} {w : World} {base : Heap} {fns : List Str} {mg mb : Str → Option Value} {fa : Nat → Addr} {Φ : Fns} {k n : Nat} {A : Around} {E : Value → Shared → Prop} {s : Shared} {C N x dx nd ml : Addr} {met met' : List Pt} {mN mA : Str → Option Value} {h h' h₀ : Heap} {Cs : List (Addr × Obj)}

theorem load_glob {sc : Sc} {env : Env} {ρ : Rho} {n : Str} {pos : Pos} {v : Value} {Q : Value → Shared → Prop} (G : Gl fns base mg mb fa) (c : Cx prog w base k sc env ρ A s.heap) (hg : glob sc n = true) (hn : mg n = some v) (h : Q v s) : wpAny (model prog w) A (eval (.Name n pos) env) Q E s := by
  simp only [Mine.glob, Bool.and_eq_true, beq_iff_eq, Bool.not_eq_true'] at hg
  refine Name_function_global c.kind ((c.kindOf n).trans hg.1) (loadGlobal_global (mg := mg) ?_ hn h) hg.2
  rw [c.glob]; exact G.g.keeps c.ok.stays

theorem ptr_get {met : List Pt} {i : Nat} {p : Pt} (h : met[i]? = some p) : evIdx (.lst (met.map ptr)) (.int i) = some (ptr p) := by
  show (if 0 ≤ (i : Int) then (met.map ptr)[(i : Int).toNat]? else none) = _
  rw [if_pos (Int.natCast_nonneg i), Int.toNat_natCast, List.getElem?_map, h]; rfl

/-- «thing_at(heap, namer.met[at])[1]» -/
theorem row_eval {sc : Sc} {env : Env} {ρ : Rho} {f : Nat → Pos} {H t : D} {p : Pt} {i : Nat} {row : List D} (G : Gl fns base mg mb fa) (hΦ : FnsOk prog w base Φ fa k) (K : ClsOk base C N mN) (c : Cx prog w base k sc env ρ A s.heap) (X : NamAt prog w s.heap C x dx nd ml met) (hml : met.length ≤ lim)
    (hnm : idxVar sc nNm = some 1) (hhp : idxVar sc nHp = some 0) (hat : idxVar sc nAt = some 4) (r0 : ρ.get 0 = some (.arg H)) (r1 : ρ.get 1 = some (.ob x)) (r4 : ρ.get 4 = some (.dat (.int i))) (hg : glob sc "thing_at" = true) (hi : fns[11]? = some ("thing_at" : Str))
    (hp : met[i]? = some p) (ht : Φ 11 [H, ptr p] = some (.ok t)) (hr : evIdx t (.int 1) = some (.tup row)) : wpAny (model prog w) A (eval (rowOf f) env) (Post s (.tup row)) E s := by
  obtain ⟨v0, a0, q0⟩ := c.binds nHp 0 _ (idxVar_some hhp).1 (idxVar_some hhp).2 r0
  have q0 : V s.heap v0 H := q0
  obtain ⟨v1, a1, q1⟩ := c.binds nNm 1 (.ob x) (idxVar_some hnm).1 (idxVar_some hnm).2 r1
  have q1 : v1 = .ref x := q1
  subst q1
  obtain ⟨v4, a4, q4⟩ := c.binds nAt 4 _ (idxVar_some hat).1 (idxVar_some hat).2 r4
  have q4 : V s.heap v4 (.int i) := q4
  obtain ⟨o, fd, h1, h2, h3⟩ := G.fn 11 _ hi
  have hV := X.mlV hml
  refine Subscript_ (Call_ (load_fn G c hg hi (callWith_def h3 (args_cons (load_var (ρ := ρ) (sc := sc) c.kind a0 ?_ (by decide)) rfl) rfl)))
  refine args_cons (Subscript_ (Attribute_Name_ (load_var (ρ := ρ) (sc := sc) c.kind a1 (get_met X K c.ok.stays fun tk => ?_) (by decide)))) rfl
  refine load_var (ρ := ρ) (sc := sc) (s := { s with toks := tk }) c.kind a4 ?_ (by decide)
  obtain ⟨T, id, t1, t2⟩ := getitem_look (s := { s with toks := tk }) hV rfl
  refine tail_any t1 t2 (wpAny_mono (idx_ok (s := { s with toks := tk }) hV q4 (ptr_get hp)) (fun pv s₂ q₂ => args_nil ?_) fun _ _ e => e) (sub_plain (by intro a b c d e; cases e))
  have K2 : Keeps s s₂ := keeps_trans (keeps_toks _ _) q₂.1
  have k2 := keeps_heap K2
  have c2 := c.mono k2
  refine ⟨c2.ok.stays _ _ h2, wpAny_mono (hΦ 11 [H, ptr p] t A s₂ [v0, pv] E ht c2.ok (.cons (q0.mono k2) (.cons q₂.2 .nil))) (fun tv s₃ q₃ => ?_) fun _ _ e => e⟩
  refine wpAny_Constant_int ?_
  have hV3 : V s₃.heap tv t := q₃.2
  obtain ⟨ds, hds⟩ := evIdx_items hr
  obtain ⟨T', id', t1', t2'⟩ := getitem_look (s := { s₃ with toks := s₃.toks + 1 }) hV3 hds
  refine tail_any t1' t2' (wpAny_mono (idx_ok (s := { s₃ with toks := s₃.toks + 1 }) hV3 (.int 1 _) hr) (fun rv s₄ q₄ => ?_) fun _ _ e => e) (sub_plain (by intro a b c d e; cases e))
  exact ⟨keeps_trans K2 (keeps_trans q₃.1 (keeps_trans (keeps_toks _ _) q₄.1)), q₄.2⟩

/-- «at < len(namer.met)» -/
theorem test_eval {sc : Sc} {env : Env} {ρ : Rho} {f : Nat → Pos} {i : Nat} (G : Gl fns base mg mb fa) (K : ClsOk base C N mN) (c : Cx prog w base k sc env ρ A s.heap) (X : NamAt prog w s.heap C x dx nd ml met) (hml : met.length ≤ lim)
    (hnm : idxVar sc nNm = some 1) (hat : idxVar sc nAt = some 4) (r1 : ρ.get 1 = some (.ob x)) (r4 : ρ.get 4 = some (.dat (.int i))) (hlen : glob sc "len" = true) :
    wpAny (model prog w) A (isTrue (shapeTest f) env (eval (shapeTest f) env)) (fun r s' => r = decide (i < met.length) ∧ Keeps s s') E s := by
  obtain ⟨v1, a1, q1⟩ := c.binds nNm 1 (.ob x) (idxVar_some hnm).1 (idxVar_some hnm).2 r1
  have q1 : v1 = .ref x := q1
  subst q1
  obtain ⟨v4, a4, q4⟩ := c.binds nAt 4 _ (idxVar_some hat).1 (idxVar_some hat).2 r4
  have q4 : V s.heap v4 (.int i) := q4
  refine wpAny_isTrue_Compare1 (load_var (ρ := ρ) (sc := sc) c.kind a4 (Call_ (load_builtin G c hlen (by decide +kernel) boot_len (callWith_builtin1 (args_cons (Attribute_Name_ (load_var (ρ := ρ) (sc := sc) c.kind a1 (get_met X K c.ok.stays fun tk => args_nil ?_) (by decide))) rfl) rfl))) (by decide)) rfl
  refine wpAny_mono (len_ok (s := { s with toks := tk }) (X.mlV hml) rfl) (fun lv s₁ q₁ => ?_) fun _ _ e => e
  have K1 : Keeps s s₁ := keeps_trans (keeps_toks _ _) q₁.1
  have hl : V s₁.heap lv (.int met.length) := by have := q₁.2; rwa [List.length_map] at this
  refine wpAny_mono (cmp_ok (o := .lt) (q4.mono (keeps_heap K1)) hl (by rfl) (units8 c.ok)) (fun bv s₂ q₂ => ?_) fun _ _ e => e
  obtain ⟨rfl, k2⟩ := q₂
  refine wpAny_truthy_bool ⟨?_, keeps_trans K1 k2⟩
  simp

structure ShapeNames (sc : Sc) (fns : List Str) (f : Nat → Pos) : Prop where
  hp : idxVar sc nHp = some 0
  nm : idxVar sc nNm = some 1
  rt : idxVar sc nRt = some 2
  th : idxVar sc nTh = some 3
  at' : idxVar sc nAt = some 4
  len : glob sc "len" = true
  thing : glob sc "thing_at" = true
  cls : glob sc "Namer" = true
  fn : fns[11]? = some ("thing_at" : Str)
  l1 : ((f 6).endLine == (f 10).line) = true
  l2 : ((f 19).endLine == (f 32).line) = true
  l3 : ((f 21).endLine == (f 31).line) = true

/-- «things.append(namer.told_row(..))» -/
theorem app_row {sc : Sc} {env : Env} {tl : Rho} {f : Nat → Pos} {fr : Addr} {ofr : Obj} {fdr : FuncData} {H t R0 : D} {p : Pt} {i : Nat} {row res th : List D} {Q : Flow → Shared → Prop} (G : Gl fns base mg mb fa) (hΦ : FnsOk prog w base Φ fa k) (K : ClsOk base C N mN) (SE : ShapeEnv prog w base k sc C fr mN ofr fdr) (SN : ShapeNames sc fns f)
    (I : Inv prog w base h₀ k sc env (Cs ++ []) (some (.arg H) :: some (.ob x) :: some (.dat R0) :: some (.own th) :: some (.dat (.int i)) :: tl) A s.heap) (X : NamAt prog w s.heap C x dx nd ml met) (F : Four s.heap x dx nd ml Cs) (h0 : ∀ p ∈ Cs, h₀.get? p.1 = none) (hb : base.get? nd = none) (hbm : base.get? ml = none)
    (hml : met.length ≤ lim) (hth : th.length < lim) (hp : met[i]? = some p) (ht : Φ 11 [H, ptr p] = some (.ok t)) (hr : evIdx t (.int 1) = some (.tup row)) (hpr : D.pure (.tup row) = true) (hq : rowD met row = some (res, met')) (hps : D.pure (.tup res) = true)
    (hQ : ∀ s' Cs', Same s s' → NamAt prog w s'.heap C x dx nd ml met' → Four s'.heap x dx nd ml Cs' → Inv prog w base h₀ k sc env (Cs' ++ []) (some (.arg H) :: some (.ob x) :: some (.dat R0) :: some (.own (th ++ [.tup res])) :: some (.dat (.int i)) :: tl) A s'.heap → (∀ p ∈ Cs', h₀.get? p.1 = none) → Tk s.heap s'.heap → Q .next s') :
    wpAny (model prog w) A (exec (shapeApp f) env) Q E s := by
  obtain ⟨g1, g2⟩ := idxVar_some SN.th
  obtain ⟨a, vs, hat, hl, hvs, hpu, hle, _⟩ := own_at I g1 g2 rfl
  refine wpAny_Expr_any (Call_method1 rfl rfl SN.l2 (load_var (ρ := tl) (sc := sc) I.kind hat ?_ (idxVar_dbg SN.th))) (by simp [interactive, I.kind]) rfl
  refine ⟨"list", "list.append", PySem.F.plainAttrs_list, slot_list_append, type_list_append, hl.isList.typeIs, ?_, ?_⟩
  · intro b e
    cases e
    obtain ⟨n, ho⟩ := hl
    exact ⟨_, ho, rfl⟩
  · refine callWith_builtin (by rfl) (evalArgs_plain (spliced_cons ?_))
    refine tell_row K SE I X F h0 hb hbm SN.nm rfl SN.l3 rfl (row_eval G hΦ K I.cx X hml SN.nm SN.hp SN.at' rfl rfl rfl SN.thing SN.fn hp ht hr) hpr hq fun rv s' Cs' sm hV X' F' I' h0' t' kk => spliced_nil ?_
    obtain ⟨a', vs', hat', hl', hvs', hpu', hle', chg⟩ := own_at I' g1 g2 rfl
    have ha : At s'.heap env nTh (.ref a) := hat.two kk ⟨(fun q => by obtain ⟨p, hp, e⟩ := F.mem (b := nd) (.inr (.inr (.inl rfl))); exact (I.prot p (List.mem_append_left _ hp)).2.1 (e.trans q.symm)), (fun q => by obtain ⟨p, hp, e⟩ := F.mem (b := ml) (.inr (.inr (.inr rfl))); exact (I.prot p (List.mem_append_left _ hp)).2.1 (e.trans q.symm))⟩
      fun z c hz => ⟨(fun q => by obtain ⟨p, hp, e⟩ := F.mem (b := nd) (.inr (.inr (.inl rfl))); exact (I.prot p (List.mem_append_left _ hp)).2.2 z (by rw [e, ← q]; exact hz)), (fun q => by obtain ⟨p, hp, e⟩ := F.mem (b := ml) (.inr (.inr (.inr rfl))); exact (I.prot p (List.mem_append_left _ hp)).2.2 z (by rw [e, ← q]; exact hz))⟩
    have := ha.eq hat'
    cases this
    have hlen := hvs'.length
    refine wpAny_list_append_plain hl' (fun h₂ hl₂ hs₂ => ?_) (by rw [List.size_toArray, hlen]; exact Nat.le_trans (Nat.le_of_lt hth) lim_line)
    obtain ⟨I2, tk2⟩ := chg s'.heap h₂ (vs' ++ [rv]) (th ++ [.tup res]) (fun _ _ e => e) hs₂ (by simpa using hl₂) (hvs'.append (.one hV)) (pures_snoc hpu' hps) (by rw [List.length_append]; exact hth)
    obtain ⟨X2, F2⟩ := nam_prot X' F' I2 tk2
    exact hQ _ Cs' (sm.trans ⟨h₂, s'.toks, rfl⟩) X2 F2 I2 h0' (t'.trans tk2)
end
end Mine

namespace Mine
open PySem PySem.Calls PyProof.Rows PySem.SeqAt

section
variable {prog : Program} {w : World} {base : Heap} {fns : List Str} {mg mb : Str → Option Value} {fa : Nat → Addr} {Φ : Fns} {k n : Nat} {A : Around} {E : Value → Shared → Prop} {s : Shared} {C N x dx nd ml : Addr} {met met' : List Pt} {mN mA : Str → Option Value} {h h' h₀ : Heap} {Cs : List (Addr × Obj)}

noncomputable abbrev rhoS (H : D) (x : Addr) (R0 : D) (th : List D) (i : Nat) (tl : Rho) : Rho := some (.arg H) :: some (.ob x) :: some (.dat R0) :: some (.own th) :: some (.dat (.int i)) :: tl

/-- what is left to do in shape's loop -/
theorem shL_step {H : D} {m i : Nat} {met : List Pt} {th th' : List D} {p : Pt} (hp : met[i]? = some p) (h : shL Φ H (m + 1) i met th = some th') : ∃ t row res met', Φ 11 [H, ptr p] = some (.ok t) ∧ evIdx t (.int 1) = some (.tup row) ∧ D.pure (.tup row) = true ∧ th.length < lim ∧ met.length ≤ lim ∧ rowD met row = some (res, met') ∧ D.pure (.tup res) = true ∧ shL Φ H m (i + 1) met' (th ++ [.tup res]) = some th' := by
  unfold shL at h
  rw [hp] at h
  replace h := ob h
  obtain ⟨t, ht, h⟩ := h
  replace ht := ob ht
  obtain ⟨out, ho, ht⟩ := ht
  have := okOf_some ht; subst this
  replace h := ob h
  obtain ⟨r, hr, h⟩ := h
  replace h := ob h
  obtain ⟨row, hrow, h⟩ := h
  have := tupOf_some hrow; subst this
  replace h := oi' h
  obtain ⟨⟨h1, h2, h3⟩, h⟩ := h
  replace h := ob h
  obtain ⟨⟨res, met'⟩, hq, h⟩ := h
  replace h := oi' h
  obtain ⟨h4, h⟩ := h
  exact ⟨t, row, res, met', ho, hr, h1, h2, h3, hq, h4, h⟩

theorem shape_loop {sc : Sc} {env : Env} {tl : Rho} {f : Nat → Pos} {fr : Addr} {ofr : Obj} {fdr : FuncData} {H R0 : D} {th th' : List D} {st6 : Stmt} {Q : Flow → Shared → Prop} (G : Gl fns base mg mb fa) (hΦ : FnsOk prog w base Φ fa k) (ER : Errs prog w base Φ fa k [] RZ0) (K : ClsOk base C N mN) (SE : ShapeEnv prog w base k sc C fr mN ofr fdr) (SN : ShapeNames sc fns f)
    (h6 : cS fns [] n sc st6 = some (.asg 4 (.bin .add (.v 4) (.k (.int 1)))))
    (I : Inv prog w base h₀ k sc env (Cs ++ []) (rhoS H x R0 th 0 tl) A s.heap) (X : NamAt prog w s.heap C x dx nd ml met) (F : Four s.heap x dx nd ml Cs) (h0 : ∀ p ∈ Cs, h₀.get? p.1 = none) (hb : base.get? nd = none) (hbm : base.get? ml = none) (hml : met.length ≤ lim)
    (hl : shL Φ H lim 0 met th = some th')
    (hQ : ∀ s' Cs' i, Same s s' → Inv prog w base h₀ k sc env (Cs' ++ []) (rhoS H x R0 th' i tl) A s'.heap → Q .next s') :
    wpAny (model prog w) A (exec (.While (shapeTest f) [shapeApp f, st6] [] (f 34)) env) Q (fun _ _ => False) s := by
  refine wpAny_While (codeAny_whileLoop (fun m s' => ∃ met i th Cs, Same s s' ∧ Inv prog w base h₀ k sc env (Cs ++ []) (rhoS H x R0 th i tl) A s'.heap ∧ NamAt prog w s'.heap C x dx nd ml met ∧ Four s'.heap x dx nd ml Cs ∧ (∀ p ∈ Cs, h₀.get? p.1 = none) ∧ met.length ≤ lim ∧ shL Φ H m i met th = some th') ?_ lim
    ⟨met, 0, th, Cs, Same.refl s, I, X, F, h0, hml, hl⟩)
  rintro m s' ⟨met, i, th, Cs, sm, I, X, F, h0, hml, hl⟩
  cases m with
  | zero => cases hl
  | succ m =>
    refine wpAny_passesOwn PassesOwn.never (wpAny_mono (test_eval G K I.cx X hml SN.nm SN.at' rfl rfl SN.len) (fun r s₁ q => ?_) fun _ _ e => e)
    obtain ⟨rfl, K1⟩ := q
    have k1 := keeps_heap K1
    have I1 := I.mono k1
    have X1 := X.keeps k1
    have F1 : Four s₁.heap x dx nd ml Cs := ⟨F.is, fun p hp => k1 _ _ (F.at' p hp)⟩
    by_cases hlt : i < met.length
    · rw [decide_eq_true hlt]
      have hp : met[i]? = some met[i] := List.getElem?_eq_getElem hlt
      obtain ⟨t, row, res, met', ht, hr, hpr, hth, hm1, hq, hps, hl'⟩ := shL_step hp hl
      rw [if_pos rfl]
      refine wpAny_passesOwn PassesOwn.never (wpAny_execs_cons (app_row G hΦ K SE SN I1 X1 F1 h0 hb hbm hml hth hp ht hr hpr hq hps fun s₂ Cs₂ sm₂ X2 F2 I2 h02 t2 => ?_))
      have ex6 : ex Φ (rhoS H x R0 (th ++ [.tup res]) i tl) (.asg 4 (.bin .add (.v 4) (.k (.int 1)))) = some (.next (rhoS H x R0 (th ++ [.tup res]) (i + 1) tl)) := by
        show some (R.next (some (.arg H) :: some (.ob x) :: some (.dat R0) :: some (.own (th ++ [.tup res])) :: some (.dat (.int ((i : Int) + 1))) :: tl)) = _
        rfl
      refine wpAny_execs_cons (x_sound (RZ := RZ0) G hΦ ER st6 _ h6 h₀ env _ _ _ s₂ _ _ _ I2 PassesOwn.never ex6 (fun fl s₃ f3 => ?_) fun c e s' hc _ _ => by cases hc)
      obtain ⟨sm3, t3, rfl, I3⟩ := f3
      obtain ⟨X3, F3⟩ := nam_prot X2 F2 I3 t3
      refine wpAny_execs_nil ⟨m, Nat.lt_succ_self m, met', i + 1, _, Cs₂, sm.trans ((Same.keeps K1).trans (sm₂.trans sm3)), I3, X3, F3, h02, ?_, hl'⟩
      exact rowD_lim hq hm1
    · rw [decide_eq_false hlt]
      have hp : met[i]? = none := List.getElem?_eq_none (Nat.le_of_not_lt hlt)
      unfold shL at hl
      rw [hp] at hl
      cases hl
      exact wpAny_execs_nil (hQ _ Cs i (sm.trans (Same.keeps K1)) I1)

theorem shape_ok {fs fr fi : Addr} {scope si : Scope} {f fI : Nat → Pos} {o ofr oi : Obj} {fd fdr fdi : FuncData} {tl : Rho} {st3 st4 st6 st7 : Stmt} {v : Value} {H d : D} (G : Gl fns base mg mb fa) (hΦ : FnsOk prog w base Φ fa (k + 2)) (ER : Errs prog w base Φ fa (k + 2) [] RZ0) (K : ClsOk base C N mN) (hC : mg "Namer" = some (.ref C))
    (F : FnAt base fs [nHp] (shapeBody f st3 st4 st6 st7) scope o fd) (SE : ShapeEnv prog w base (k + 2) (scOf scope) C fr mN ofr fdr) (SN : ShapeNames (scOf scope) fns f)
    (hin : mN "__init__" = some (.ref fi)) (hfc : oi.cls = .type "function") (FI : FnAt base fi [nSelf] (initBody fI) si oi fdi) (hself : idxVar (scOf si) nSelf = some 0) (hrhoI : ∀ a, rhoL si.names [nSelf] [a] = [some a])
    (hrho : ∀ a, rhoL scope.names [nHp] [a] = some a :: none :: none :: none :: none :: tl)
    (h2 : cE fns n (scOf scope) (.Subscript (.Name nHp (f 7)) (.Constant (.int 2) 0 (f 8)) (f 9)) = some (.idx (.v 0) (.k (.int 2))))
    (h3 : cS fns [] n (scOf scope) st3 = some (.ownD 3 .nil)) (h4 : cS fns [] n (scOf scope) st4 = some (.asg 4 (.k (.int 0)))) (h6 : cS fns [] n (scOf scope) st6 = some (.asg 4 (.bin .add (.v 4) (.k (.int 1))))) (h7 : cS fns [] n (scOf scope) st7 = some (.ret (.tup (.cons (.v 2) (.cons (.toTup (.v 3)) .nil)))))
    (hv : V s.heap v H) (hd : shapeD Φ H = some d) (O : Ok base (k + 3) A s.heap) : wpAny (model prog w) A (call (.ref fs) [v]) (Post s d) E s := by
  replace hd := ob hd
  obtain ⟨r, hr, hd⟩ := hd
  replace hd := ob hd
  obtain ⟨row, hrow, hd⟩ := hd
  have := tupOf_some hrow; subst this
  replace hd := oi' hd
  obtain ⟨hp1, hd⟩ := hd
  replace hd := ob hd
  obtain ⟨⟨res, met⟩, hq, hd⟩ := hd
  replace hd := oi' hd
  obtain ⟨hp2, hd⟩ := hd
  replace hd := om hd
  obtain ⟨th, hth, rfl⟩ := hd
  refine enterL F G.lim O (.arg hv .nil) rfl fun s₁ env sm I => ?_
  rw [hrho] at I
  -- namer = Namer()
  refine wpAny_execs_cons (wpAny_Assign_Name (Call_ (load_glob G I.cx SN.cls hC (callWith_cls0 K.cls I.ok.stays (wpAny_mono (new_ok G K hin hfc FI hself hrhoI I.ok) (fun r s₂ q => ?_) fun _ _ e => e)))) rfl)
  obtain ⟨x, dx, nd, ml, rfl, K2, X2, n1, n2, n3, n4⟩ := q
  obtain ⟨Cs, F2⟩ := X2.four
  have hCs : ∀ p ∈ Cs, s₁.heap.get? p.1 = none := fun p hp => by
    rcases F2.of hp with e | e | e | e <;> rw [e] <;> assumption
  have Ig := I.guardN (keeps_heap K2) hCs F2.at'
  have h0 : ∀ p ∈ Cs, s.heap.get? p.1 = none := fun p hp => I.h0_none (hCs p hp)
  have hb : base.get? nd = none := base_none I (I.h0_none n3)
  have hbm : base.get? ml = none := base_none I (I.h0_none n4)
  refine store_ok (lo' := .ob x) (a' := 0) Ig (fun _ _ e => e) (idxVar_some SN.nm).1 (idxVar_some SN.nm).2 rfl (fun e => by cases e) fun h₃ tk₃ I3 t3 _ => ?_
  obtain ⟨X3, F3⟩ := nam_prot X2 F2 I3 t3
  have sm3 : Same s { s₂ with heap := h₃, toks := tk₃ } := sm.trans ((Same.keeps K2).trans (Same.mk' _ _ _))
  generalize hs3 : ({ s₂ with heap := h₃, toks := tk₃ } : Shared) = s₃ at sm3 ⊢
  have hh3 : h₃ = s₃.heap := by rw [← hs3]
  rw [hh3] at I3 X3 F3
  -- roots = namer.told_row(heap[2])
  have e2 : ev Φ (some (.arg H) :: some (.ob x) :: none :: none :: none :: tl) (.idx (.v 0) (.k (.int 2))) = some (.tup row) := hr
  refine wpAny_execs_cons (wpAny_Assign_Name (tell_row K SE I3 X3 F3 h0 hb hbm SN.nm rfl SN.l1 rfl (((ev_sound G hΦ n (scOf scope)).1 _ _ h2).1 env _ _ s₃ _ _ I3.cx e2) hp1 hq fun rv s₄ Cs₄ sm4 hV4 X4 F4 I4 h04 t4 _ => ?_) rfl)
  refine put_ok I4 SN.rt (keeps_refl _) hV4 hp2 fun s₅ f5 => ?_
  obtain ⟨sm5, t5, _, I5⟩ := f5
  obtain ⟨X5, F5⟩ := nam_prot X4 F4 I5 t5
  -- things = []; at = 0
  refine wpAny_execs_cons (x_sound (RZ := RZ0) G hΦ ER st3 _ h3 _ env _ _ _ s₅ (.next (some (.arg H) :: some (.ob x) :: some (.dat (.tup res)) :: some (.own []) :: none :: tl)) _ _ I5 PassesOwn.never rfl (fun fl s₆ f6 => ?_) fun c e s' hc _ _ => by cases hc)
  obtain ⟨sm6, t6, rfl, I6⟩ := f6
  obtain ⟨X6, F6⟩ := nam_prot X5 F5 I6 t6
  refine wpAny_execs_cons (x_sound (RZ := RZ0) G hΦ ER st4 _ h4 _ env _ _ _ s₆ (.next (rhoS H x (.tup res) [] 0 tl)) _ _ I6 PassesOwn.never rfl (fun fl s₇ f7 => ?_) fun c e s' hc _ _ => by cases hc)
  obtain ⟨sm7, t7, rfl, I7⟩ := f7
  obtain ⟨X7, F7⟩ := nam_prot X6 F6 I7 t7
  -- the loop
  refine wpAny_execs_cons (shape_loop G hΦ ER K SE SN h6 I7 X7 F7 h04 hb hbm (rowD_lim hq (Nat.zero_le _)) hth fun s₈ Cs₈ i sm8 I8 => ?_)
  -- the end
  have ex7 : ex Φ (rhoS H x (.tup res) th i tl) (.ret (.tup (.cons (.v 2) (.cons (.toTup (.v 3)) .nil)))) = some (.ret (.tup [.tup res, .tup th])) := rfl
  refine wpAny_execs_cons (x_sound (RZ := RZ0) G hΦ ER st7 _ h7 _ env _ _ _ s₈ _ _ _ I8 PassesOwn.never ex7 (fun fl s₉ f9 => ?_) fun c e s' hc _ _ => by cases hc)
  obtain ⟨sm9, t9, v', ρ', rfl, hV, I9⟩ := f9
  obtain ⟨h9, t9', rfl⟩ := sm3.trans (sm4.trans (sm5.trans (sm6.trans (sm7.trans (sm8.trans sm9)))))
  exact ⟨⟨h9, t9', rfl, I9.keep⟩, hV⟩
end
end Mine

namespace Mine
open PySem

/-! evaluation, in a shape that simp can walk -/
noncomputable def ifB {α : Type} (o : Option D) (x y : Option α) : Option α := o.bind fun d => ifT d x y
/-- what is left to do, and is not looked into yet -/
noncomputable def K (Φ : Fns) (r : Ss) : Rho → Option R := fun ρ => exs Φ ρ r
noncomputable def ifS (o : Option D) (Φ : Fns) (ρ : Rho) (a b : Ss) : Option R := o.bind fun d => ifT d (exs Φ ρ a) (exs Φ ρ b)
noncomputable def andS (o : Option D) (Φ : Fns) (ρ : Rho) (b : E) : Option D := ifB o ((ev Φ ρ b).bind fun y => (isTrueD y).map .bool) (some (.bool false))
noncomputable def orS (o : Option D) (Φ : Fns) (ρ : Rho) (b : E) : Option D := ifB o (some (.bool true)) ((ev Φ ρ b).bind fun y => (isTrueD y).map .bool)
noncomputable def seqR (o : Option R) (f : Rho → Option R) : Option R := o.bind (thenR f)
noncomputable def outR (keep : Bool) (o : Option R) : Option Out := o.bind (retR keep)
noncomputable def asgR (ρ : Rho) (x : Nat) (o : Option D) : Option R := o.bind fun d => putD ρ x d
noncomputable def boolR (o : Option D) : Option D := o.bind fun y => (isTrueD y).map .bool
noncomputable def callR (ρ : Rho) (t : Tg) (o : Option Out) : Option R := o.bind fun x => outT ρ t x
noncomputable def okR (o : Option Out) : Option D := o.bind okOf

section
variable {Φ : Fns} {ρ : Rho} {keep : Bool}
@[simp] theorem ex_iff (c : E) (a b : Ss) : ex Φ ρ (.iff c a b) = ifS (ev Φ ρ c) Φ ρ a b := (rfl)
@[simp] theorem exs_cons (s : S) (r : Ss) : exs Φ ρ (.cons s r) = seqR (ex Φ ρ s) (K Φ r) := (rfl)
@[simp] theorem exs_nil : exs Φ ρ .nil = some (.next ρ) := (rfl)
@[simp] theorem ex_asg (x : Nat) (e : E) : ex Φ ρ (.asg x e) = asgR ρ x (ev Φ ρ e) := (rfl)
@[simp] theorem ex_ret (e : E) : ex Φ ρ (.ret e) = (ev Φ ρ e).map .ret := (rfl)
@[simp] theorem ex_callS (t : Tg) (f : Nat) (es : Es) : ex Φ ρ (.callS t f es) = (evs Φ ρ es).bind fun ds => callR ρ t (Φ f ds) := (rfl)
theorem fnRun_eq {f : Fn} {ds : List D} (h : ds.length = f.ps.length) : fnRun keep Φ f ds = outR keep (exs Φ (rho0 f.names f.ps ds) f.body) := if_pos h
@[simp] theorem ev_and (a b : E) : ev Φ ρ (.and a b) = andS (ev Φ ρ a) Φ ρ b := (rfl)
@[simp] theorem ev_or (a b : E) : ev Φ ρ (.or a b) = orS (ev Φ ρ a) Φ ρ b := (rfl)
@[simp] theorem ev_call (f : Nat) (es : Es) : ev Φ ρ (.call f es) = (evs Φ ρ es).bind fun ds => okR (Φ f ds) := (rfl)
@[simp] theorem ifB_bool {α : Type} (p : Bool) (x y : Option α) : ifB (some (.bool p)) x y = if p = true then x else y := by cases p <;> rfl
@[simp] theorem ifS_bool (p : Bool) (a b : Ss) : ifS (some (.bool p)) Φ ρ a b = if p = true then exs Φ ρ a else exs Φ ρ b := (rfl)
@[simp] theorem andS_bool (p : Bool) (b : E) : andS (some (.bool p)) Φ ρ b = if p = true then boolR (ev Φ ρ b) else some (.bool false) := (rfl)
@[simp] theorem orS_bool (p : Bool) (b : E) : orS (some (.bool p)) Φ ρ b = if p = true then some (.bool true) else boolR (ev Φ ρ b) := (rfl)
@[simp] theorem ifS_ite (p : Prop) [Decidable p] (x y : Option D) (a b : Ss) : ifS (if p then x else y) Φ ρ a b = if p then ifS x Φ ρ a b else ifS y Φ ρ a b := by split <;> rfl
@[simp] theorem andS_ite (p : Prop) [Decidable p] (x y : Option D) (b : E) : andS (if p then x else y) Φ ρ b = if p then andS x Φ ρ b else andS y Φ ρ b := by split <;> rfl
@[simp] theorem orS_ite (p : Prop) [Decidable p] (x y : Option D) (b : E) : orS (if p then x else y) Φ ρ b = if p then orS x Φ ρ b else orS y Φ ρ b := by split <;> rfl
@[simp] theorem boolR_bool (p : Bool) : boolR (some (.bool p)) = some (.bool p) := rfl
@[simp] theorem seqR_next (ρ' : Rho) (r : Ss) : seqR (some (.next ρ')) (K Φ r) = exs Φ ρ' r := (rfl)
@[simp] theorem seqR_ret (d : D) (f : Rho → Option R) : seqR (some (.ret d)) f = some (.ret d) := (rfl)
@[simp] theorem seqR_cont (ρ' : Rho) (f : Rho → Option R) : seqR (some (.cont ρ')) f = some (.cont ρ') := (rfl)
@[simp] theorem seqR_err (c : Nat) (f : Rho → Option R) : seqR (some (.err c)) f = some (.err c) := (rfl)
@[simp] theorem outR_ret (d : D) : outR keep (some (.ret d)) = some (.ok d) := (rfl)
@[simp] theorem outR_next (ρ' : Rho) : outR keep (some (.next ρ')) = some (.ok .none) := (rfl)
@[simp] theorem outR_err (c : Nat) : outR true (some (.err c)) = some (.err c) := (rfl)
@[simp] theorem asgR_some (x : Nat) (d : D) : asgR ρ x (some d) = if d.pure = true then some (.next (ρ.set x (some (.dat d)))) else none := (rfl)
@[simp] theorem callR_ok (t : Tg) (d : D) : callR ρ t (some (.ok d)) = putT ρ d t := (rfl)
@[simp] theorem callR_err (t : Tg) (c : Nat) : callR ρ t (some (.err c)) = some (.err c) := (rfl)
@[simp] theorem okR_ok (d : D) : okR (some (.ok d)) = some d := rfl
@[simp] theorem seqR_ite (p : Prop) [Decidable p] (x y : Option R) (f : Rho → Option R) : seqR (if p then x else y) f = if p then seqR x f else seqR y f := by split <;> rfl
@[simp] theorem outR_ite (p : Prop) [Decidable p] (x y : Option R) : outR keep (if p then x else y) = if p then outR keep x else outR keep y := by split <;> rfl
@[simp] theorem boolR_ite (p : Prop) [Decidable p] (x y : Option D) : boolR (if p then x else y) = if p then boolR x else boolR y := by split <;> rfl
@[simp] theorem ifB_ite {α : Type} (p : Prop) [Decidable p] (a b : Option D) (x y : Option α) : ifB (if p then a else b) x y = if p then ifB a x y else ifB b x y := by split <;> rfl
@[simp] theorem asgR_ite (p : Prop) [Decidable p] (x : Nat) (a b : Option D) : asgR ρ x (if p then a else b) = if p then asgR ρ x a else asgR ρ x b := by split <;> rfl
@[simp] theorem map_ite {α β : Type} (p : Prop) [Decidable p] (a b : Option α) (f : α → β) : Option.map f (if p then a else b) = if p then Option.map f a else Option.map f b := by split <;> rfl
@[simp] theorem pure_int (i : Int) : D.pure (.int i) = true := rfl
@[simp] theorem eqb_int (a b : Int) : D.eqb (.int a) (.int b) = (a == b) := by simp [D.eqb]
@[simp] theorem eqb_str (a b : Str) : D.eqb (.str a) (.str b) = (a == b) := by simp [D.eqb]
@[simp] theorem eqb_bool (a b : Bool) : D.eqb (.bool a) (.bool b) = (a == b) := by simp [D.eqb]
end

theorem run_at {keep : Bool} {P : Prg} {n f : Nat} {g : Fn} {ds : List D} (h : P[f]? = some g) (hx : g.ext = none := by rfl) : run keep P (n + 1) f ds = fnRun keep (run keep P n) g ds := by
  show (P[f]?).bind _ = _
  rw [h, Option.bind_some, hx]
theorem run_ext {keep : Bool} {P : Prg} {n f : Nat} {g : Fn} {ds : List D} {X : Nat → Fns → List D → Option Out} (h : P[f]? = some g) (hx : g.ext = some X) : run keep P (n + 1) f ds = X n (run keep P n) ds := by
  show (P[f]?).bind _ = _
  rw [h, Option.bind_some, hx]

/-! loops -/
theorem loop_inv {α : Type} {body : α → Rho → Option R} (J : Nat → Rho → Prop) : ∀ (ds : List α) (i : Nat) (ρ : Rho), J i ρ → (∀ j d ρ, ds[j]? = some d → J (i + j) ρ → ∃ ρ', (body d ρ = some (.next ρ') ∨ body d ρ = some (.cont ρ')) ∧ J (i + j + 1) ρ') →
    ∃ ρ', loopO body ds ρ = some (.next ρ') ∧ J (i + ds.length) ρ'
  | [], i, ρ, h, _ => ⟨ρ, rfl, h⟩
  | d :: ds, i, ρ, h, hb => by
    obtain ⟨ρ', h1, h2⟩ := hb 0 d ρ rfl h
    obtain ⟨ρ'', h3, h4⟩ := loop_inv J ds (i + 1) ρ' h2 fun j d' ρ₁ hd hj => by
      have := hb (j + 1) d' ρ₁ (by simpa using hd) (by rw [show i + (j + 1) = i + 1 + j by omega]; exact hj)
      rwa [show i + (j + 1) + 1 = i + 1 + j + 1 by omega] at this
    refine ⟨ρ'', ?_, by rw [List.length_cons, show i + (ds.length + 1) = i + 1 + ds.length by omega]; exact h4⟩
    show (body d ρ).bind _ = _
    rcases h1 with h1 | h1 <;> rw [h1] <;> exact h3

/-- a loop that leaves at the first item of a kind -/
theorem loop_find {α : Type} {body : α → Rho → Option R} (J : Rho → Prop) (c : α → Bool) (d₀ : D) : ∀ (ds : List α) (ρ : Rho), J ρ → (∀ d ∈ ds, ∀ ρ, J ρ → (c d = true → body d ρ = some (.ret d₀)) ∧ (c d = false → ∃ ρ', body d ρ = some (.next ρ') ∧ J ρ')) →
    (ds.any c = true → loopO body ds ρ = some (.ret d₀)) ∧ (ds.any c = false → ∃ ρ', loopO body ds ρ = some (.next ρ') ∧ J ρ')
  | [], ρ, h, _ => ⟨fun q => by simp at q, fun _ => ⟨ρ, rfl, h⟩⟩
  | d :: ds, ρ, h, hb => by
    obtain ⟨h1, h2⟩ := hb d (.head _) ρ h
    cases hc : c d with
    | true =>
      refine ⟨fun _ => ?_, fun q => by simp [hc] at q⟩
      show (body d ρ).bind _ = _
      rw [h1 hc]; rfl
    | false =>
      obtain ⟨ρ', h3, h4⟩ := h2 hc
      have ih := loop_find J c d₀ ds ρ' h4 fun d' hd ρ₁ hj => hb d' (.tail _ hd) ρ₁ hj
      rw [List.any_cons, hc, Bool.false_or]
      have e : loopO body (d :: ds) ρ = loopO body ds ρ' := by
        show (body d ρ).bind _ = _
        rw [h3]; rfl
      rw [e]; exact ih

/-- a loop that leaves at the first item of a kind, with an error -/
theorem loop_err {α : Type} {body : α → Rho → Option R} (J : Rho → Prop) (c : α → Bool) (x : Nat) : ∀ (ds : List α) (ρ : Rho), J ρ → (∀ d ∈ ds, ∀ ρ, J ρ → (c d = true → body d ρ = some (.err x)) ∧ (c d = false → ∃ ρ', body d ρ = some (.next ρ') ∧ J ρ')) →
    (ds.any c = true → loopO body ds ρ = some (.err x)) ∧ (ds.any c = false → ∃ ρ', loopO body ds ρ = some (.next ρ') ∧ J ρ')
  | [], ρ, h, _ => ⟨fun q => by simp at q, fun _ => ⟨ρ, rfl, h⟩⟩
  | d :: ds, ρ, h, hb => by
    obtain ⟨h1, h2⟩ := hb d (.head _) ρ h
    cases hc : c d with
    | true =>
      refine ⟨fun _ => ?_, fun q => by simp [hc] at q⟩
      show (body d ρ).bind _ = _
      rw [h1 hc]; rfl
    | false =>
      obtain ⟨ρ', h3, h4⟩ := h2 hc
      have ih := loop_err J c x ds ρ' h4 fun d' hd ρ₁ hj => hb d' (.tail _ hd) ρ₁ hj
      rw [List.any_cons, hc, Bool.false_or]
      have e : loopO body (d :: ds) ρ = loopO body ds ρ' := by
        show (body d ρ).bind _ = _
        rw [h3]; rfl
      rw [e]; exact ih

/-- a loop over lists that may leave early: what it ends in is told by a fold -/
theorem comp_all {α β : Type} {c : α → Option Bool} {f : α → Option β} (Rel : α → β → Prop) : ∀ (ds : List α), (∀ d ∈ ds, c d = some true ∧ ∃ y, f d = some y ∧ Rel d y) → ∃ ys, compO c f ds = some ys ∧ ys.length = ds.length ∧ (∀ y ∈ ys, ∃ d ∈ ds, Rel d y)
  | [], _ => ⟨[], rfl, rfl, fun y hy => by cases hy⟩
  | d :: ds, h => by
    obtain ⟨h1, y, h2, h3⟩ := h d (.head _)
    obtain ⟨ys, h4, h5, h6⟩ := comp_all Rel ds fun d' hd => h d' (.tail _ hd)
    refine ⟨y :: ys, by show (c d).bind _ = _; rw [h1]; show (f d).bind _ = _; rw [h2]; show (compO c f ds).map _ = _; rw [h4]; rfl, by rw [List.length_cons, List.length_cons, h5], fun z hz => ?_⟩
    rcases List.mem_cons.mp hz with rfl | hz
    · exact ⟨d, .head _, h3⟩
    · obtain ⟨d', a, b⟩ := h6 z hz
      exact ⟨d', .tail _ a, b⟩
noncomputable def bin2 (o : Op) (x y : Option D) : Option D := x.bind fun a => y.bind fun b => evBin o a b
noncomputable def cmp2 (o : Cm) (x y : Option D) : Option D := x.bind fun a => y.bind fun b => (evCmp o a b).map .bool
noncomputable def idx2 (x y : Option D) : Option D := x.bind fun a => y.bind fun b => evIdx a b
noncomputable def len1 (x : Option D) : Option D := x.bind fun x => (items x).map fun ds => .int ds.length
noncomputable def neg1 (x : Option D) : Option D := x.bind negD
noncomputable def not1 (x : Option D) : Option D := x.bind notD
noncomputable def isi1 (t : Ty) (x : Option D) : Option D := x.map fun d => .bool (evIsi t d)
noncomputable def max2 (x y : Option D) : Option D := x.bind fun a => y.bind fun b => maxD a b
noncomputable def toInt1 (x : Option D) : Option D := x.bind toIntD
noncomputable def toTup1 (x : Option D) : Option D := x.bind fun x => (items x).map .tup
noncomputable def slFrom2 (x y : Option D) : Option D := x.bind fun a => y.bind fun b => cutFrom a b
noncomputable def cons2 (x : Option D) (y : Option (List D)) : Option (List D) := x.bind fun d => y.map fun ds => d :: ds
noncomputable def chain3 (o₁ o₂ : Cm) (x y z : Option D) : Option D := ifB (cmp2 o₁ x y) (cmp2 o₂ y z) (some (.bool false))
noncomputable def appR (ρ : Rho) (x : Nat) (o : Option D) : Option R := (ρ.own? x).bind fun ds => o.bind fun d => if d.pure = true ∧ ds.length < lim then some (.next (ρ.set x (some (.own (ds ++ [d]))))) else none
noncomputable def setR (ρ : Rho) (x : Nat) (i o : Option D) : Option R := (ρ.own? x).bind fun ds => i.bind fun y => o.bind fun d => (intOf y).bind fun j => if 0 ≤ j ∧ j < ds.length ∧ d.pure = true then some (.next (ρ.set x (some (.own (ds.set j.toNat d))))) else none
noncomputable def ownR (ρ : Rho) (x : Nat) (o : Option (List D)) : Option R := o.bind fun ds => putO ρ x ds
noncomputable def unpR (ρ : Rho) (xs : List Nat) (o : Option D) : Option R := o.bind fun d => putU ρ xs d

section
variable {Φ : Fns} {ρ : Rho} {keep : Bool}
@[simp] theorem ev_k (d : D) : ev Φ ρ (.k d) = some d := (rfl)
@[simp] theorem ev_v (i : Nat) : ev Φ ρ (.v i) = (ρ.get i).bind Lo.val? := (rfl)
@[simp] theorem ev_bin (o : Op) (a b : E) : ev Φ ρ (.bin o a b) = bin2 o (ev Φ ρ a) (ev Φ ρ b) := (rfl)
@[simp] theorem ev_cmp (o : Cm) (a b : E) : ev Φ ρ (.cmp o a b) = cmp2 o (ev Φ ρ a) (ev Φ ρ b) := (rfl)
@[simp] theorem ev_idx (a b : E) : ev Φ ρ (.idx a b) = idx2 (ev Φ ρ a) (ev Φ ρ b) := (rfl)
@[simp] theorem ev_len (a : E) : ev Φ ρ (.len a) = len1 (ev Φ ρ a) := (rfl)
@[simp] theorem ev_neg (a : E) : ev Φ ρ (.neg a) = neg1 (ev Φ ρ a) := (rfl)
@[simp] theorem ev_not (a : E) : ev Φ ρ (.not a) = not1 (ev Φ ρ a) := (rfl)
@[simp] theorem ev_isi (a : E) (t : Ty) : ev Φ ρ (.isi a t) = isi1 t (ev Φ ρ a) := (rfl)
@[simp] theorem ev_max (a b : E) : ev Φ ρ (.max a b) = max2 (ev Φ ρ a) (ev Φ ρ b) := (rfl)
@[simp] theorem ev_toInt (a : E) : ev Φ ρ (.toInt a) = toInt1 (ev Φ ρ a) := (rfl)
@[simp] theorem ev_toTup (a : E) : ev Φ ρ (.toTup a) = toTup1 (ev Φ ρ a) := (rfl)
@[simp] theorem ev_slFrom (a b : E) : ev Φ ρ (.slFrom a b) = slFrom2 (ev Φ ρ a) (ev Φ ρ b) := (rfl)
@[simp] theorem ev_tup (es : Es) : ev Φ ρ (.tup es) = (evs Φ ρ es).map .tup := (rfl)
@[simp] theorem ev_lst (es : Es) : ev Φ ρ (.lst es) = (evs Φ ρ es).map .lst := (rfl)
@[simp] theorem evs_nil : evs Φ ρ .nil = some [] := (rfl)
@[simp] theorem evs_cons (e : E) (es : Es) : evs Φ ρ (.cons e es) = cons2 (ev Φ ρ e) (evs Φ ρ es) := (rfl)
@[simp] theorem ev_chain (o₁ o₂ : Cm) (a b c : E) : ev Φ ρ (.chain o₁ o₂ a b c) = chain3 o₁ o₂ (ev Φ ρ a) (ev Φ ρ b) (ev Φ ρ c) := by
  show ((ev Φ ρ a).bind fun x => (ev Φ ρ b).bind fun y => (evCmp o₁ x y).bind fun p => if p = true then (ev Φ ρ c).bind fun z => (evCmp o₂ y z).map D.bool else some (D.bool false)) = _
  cases ev Φ ρ a with
  | none => rfl
  | some x =>
    cases ev Φ ρ b with
    | none => rfl
    | some y =>
      show ((evCmp o₁ x y).bind fun p => if p = true then (ev Φ ρ c).bind fun z => (evCmp o₂ y z).map D.bool else some (D.bool false)) = ifB ((evCmp o₁ x y).map D.bool) _ _
      cases evCmp o₁ x y <;> rfl
@[simp] theorem ex_app (x : Nat) (e : E) : ex Φ ρ (.app x e) = appR ρ x (ev Φ ρ e) := (rfl)
@[simp] theorem ex_seti (x : Nat) (i e : E) : ex Φ ρ (.seti x i e) = setR ρ x (ev Φ ρ i) (ev Φ ρ e) := (rfl)
@[simp] theorem ex_ownD (x : Nat) (es : Es) : ex Φ ρ (.ownD x es) = ownR ρ x (evs Φ ρ es) := (rfl)
@[simp] theorem ex_ownL (x : Nat) (e : E) : ex Φ ρ (.ownL x e) = ownR ρ x ((ev Φ ρ e).bind items) := by
  show (ev Φ ρ e).bind _ = ((ev Φ ρ e).bind items).bind _
  cases ev Φ ρ e <;> rfl
@[simp] theorem ex_unp (xs : List Nat) (e : E) : ex Φ ρ (.unp xs e) = unpR ρ xs (ev Φ ρ e) := (rfl)
@[simp] theorem ex_cont : ex Φ ρ .cont = some (.cont ρ) := (rfl)
end

section
variable {a b c : Int} {x y : List D} {s t : Str} {p q : Bool} {d e : D} {ρ : Rho}
@[simp] theorem b_add : bin2 .add (some (.int a)) (some (.int b)) = some (.int (a + b)) := (rfl)
@[simp] theorem b_sub : bin2 .sub (some (.int a)) (some (.int b)) = some (.int (a - b)) := (rfl)
@[simp] theorem b_mul : bin2 .mul (some (.int a)) (some (.int b)) = if a.natAbs < 1000000000 ∨ b.natAbs < 1000000000 then some (.int (a * b)) else none := (rfl)
@[simp] theorem b_div : bin2 .div (some (.int a)) (some (.int b)) = if 0 < b ∧ b < 1000000000 then some (.int (a / b)) else none := (rfl)
@[simp] theorem b_mod : bin2 .mod (some (.int a)) (some (.int b)) = if 0 < b then some (.int (a % b)) else none := (rfl)
@[simp] theorem b_pow : bin2 .pow (some (.int 10)) (some (.int 60)) = some (.int (10 ^ 60)) := (rfl)
@[simp] theorem b_addT : bin2 .add (some (.tup x)) (some (.tup y)) = if x.length + y.length ≤ lim then some (.tup (x ++ y)) else none := (rfl)
@[simp] theorem b_addL : bin2 .add (some (.lst x)) (some (.lst y)) = if x.length + y.length ≤ lim then some (.lst (x ++ y)) else none := (rfl)
@[simp] theorem c_eqI : cmp2 .eq (some (.int a)) (some (.int b)) = some (.bool (a == b)) := by simp [cmp2, evCmp]
@[simp] theorem c_eqS : cmp2 .eq (some (.str s)) (some (.str t)) = some (.bool (s == t)) := by simp [cmp2, evCmp]
@[simp] theorem c_eqB : cmp2 .eq (some (.bool p)) (some (.bool q)) = some (.bool (p == q)) := by simp [cmp2, evCmp]
@[simp] theorem c_neI : cmp2 .ne (some (.int a)) (some (.int b)) = some (.bool (!(a == b))) := by simp [cmp2, evCmp]
@[simp] theorem c_neS : cmp2 .ne (some (.str s)) (some (.str t)) = some (.bool (!(s == t))) := by simp [cmp2, evCmp]
@[simp] theorem c_lt : cmp2 .lt (some (.int a)) (some (.int b)) = some (.bool (decide (a < b))) := (rfl)
@[simp] theorem c_le : cmp2 .le (some (.int a)) (some (.int b)) = some (.bool (decide (a ≤ b))) := (rfl)
@[simp] theorem c_gt : cmp2 .gt (some (.int a)) (some (.int b)) = some (.bool (decide (a > b))) := (rfl)
@[simp] theorem c_ge : cmp2 .ge (some (.int a)) (some (.int b)) = some (.bool (decide (a ≥ b))) := (rfl)
@[simp] theorem i_tup : idx2 (some (.tup x)) (some (.int a)) = if 0 ≤ a then x[a.toNat]? else none := (rfl)
@[simp] theorem i_lst : idx2 (some (.lst x)) (some (.int a)) = if 0 ≤ a then x[a.toNat]? else none := (rfl)
@[simp] theorem l_tup : len1 (some (.tup x)) = some (.int x.length) := rfl
@[simp] theorem l_lst : len1 (some (.lst x)) = some (.int x.length) := rfl
@[simp] theorem n_int : neg1 (some (.int a)) = some (.int (-a)) := rfl
@[simp] theorem n_bool : not1 (some (.bool p)) = some (.bool (!p)) := rfl
@[simp] theorem s_isi {t : Ty} : isi1 t (some d) = some (.bool (evIsi t d)) := rfl
@[simp] theorem m_int : max2 (some (.int a)) (some (.int b)) = some (.int (if b > a then b else a)) := (rfl)
@[simp] theorem t_int : toInt1 (some (.bool p)) = some (.int (if p then 1 else 0)) := rfl
@[simp] theorem t_lst : toTup1 (some (.lst x)) = some (.tup x) := rfl
@[simp] theorem t_tup : toTup1 (some (.tup x)) = some (.tup x) := rfl
@[simp] theorem sl_from : slFrom2 (some (.tup x)) (some (.int a)) = if 0 ≤ a then some (.tup (x.drop a.toNat)) else none := (rfl)
@[simp] theorem k_some : cons2 (some d) (some x) = some (d :: x) := rfl
@[simp] theorem ch_some (o₁ o₂ : Cm) (u v w : Option D) : chain3 o₁ o₂ u v w = ifB (cmp2 o₁ u v) (cmp2 o₂ v w) (some (.bool false)) := rfl
@[simp] theorem isi_tt : evIsi .tuple (.tup x) = true := rfl
@[simp] theorem isi_ti : evIsi .tuple (.int a) = false := rfl
@[simp] theorem isi_tn : evIsi .tuple .none = false := rfl
@[simp] theorem isi_tb : evIsi .tuple (.bool p) = false := rfl
@[simp] theorem isi_ii : evIsi .int (.int a) = true := rfl
@[simp] theorem isi_it : evIsi .int (.tup x) = false := rfl
@[simp] theorem isi_in : evIsi .int .none = false := rfl
@[simp] theorem isi_ib : evIsi .int (.bool p) = true := rfl
@[simp] theorem isi_bb : evIsi .bool (.bool p) = true := rfl
@[simp] theorem isi_bi : evIsi .bool (.int a) = false := rfl
@[simp] theorem isi_bt : evIsi .bool (.tup x) = false := rfl
@[simp] theorem isi_bn : evIsi .bool .none = false := rfl
@[simp] theorem isi_ss : evIsi .str (.str s) = true := rfl
@[simp] theorem is_none : cmp2 .is (some .none) (some .none) = some (.bool true) := rfl
@[simp] theorem is_int : cmp2 .is (some (.int a)) (some .none) = some (.bool false) := rfl
@[simp] theorem is_tup : cmp2 .is (some (.tup x)) (some .none) = some (.bool false) := rfl
@[simp] theorem isn_none : cmp2 .isNot (some .none) (some .none) = some (.bool false) := rfl
@[simp] theorem isn_int : cmp2 .isNot (some (.int a)) (some .none) = some (.bool true) := rfl
@[simp] theorem isn_tup : cmp2 .isNot (some (.tup x)) (some .none) = some (.bool true) := rfl
@[simp] theorem get_0 (o : Option Lo) (r : Rho) : Rho.get (o :: r) 0 = o := rfl
@[simp] theorem get_s (o : Option Lo) (r : Rho) (i : Nat) : Rho.get (o :: r) (i + 1) = Rho.get r i := rfl
@[simp] theorem intOf_int : intOf (.int a) = some a := rfl
@[simp] theorem tupOf_tup : tupOf (.tup x) = some x := rfl
@[simp] theorem lstOf_lst : lstOf (.lst x) = some x := rfl
@[simp] theorem isTrueD_bool : isTrueD (.bool p) = some p := rfl
@[simp] theorem items_tup : items (.tup x) = some x := rfl
@[simp] theorem items_lst : items (.lst x) = some x := rfl
@[simp] theorem own_0 (r : Rho) : Rho.own? (some (.own x) :: r) 0 = some x := rfl
@[simp] theorem own_s (o : Option Lo) (r : Rho) (i : Nat) : Rho.own? (o :: r) (i + 1) = Rho.own? r i := rfl
@[simp] theorem putO_eq (i : Nat) : putO ρ i x = if D.pures x = true then some (.next (ρ.set i (some (.own x)))) else none := (rfl)
@[simp] theorem putD_eq (i : Nat) : putD ρ i d = if d.pure = true then some (.next (ρ.set i (some (.dat d)))) else none := (rfl)
@[simp] theorem valq_d : Lo.val? (.dat d) = some d := rfl
@[simp] theorem valq_a : Lo.val? (.arg d) = some d := rfl
@[simp] theorem valq_o : Lo.val? (.own x) = some (.lst x) := rfl
@[simp] theorem val_d : Lo.val (.dat d) = d := rfl
@[simp] theorem val_a : Lo.val (.arg d) = d := rfl
@[simp] theorem val_o : Lo.val (.own x) = .lst x := rfl
@[simp] theorem put_drop : putT ρ d .drop = some (.next ρ) := (rfl)
@[simp] theorem put_var (i : Nat) : putT ρ d (.var i) = if d.pure = true then some (.next (ρ.set i (some (.dat d)))) else none := (rfl)
@[simp] theorem ownR_some (i : Nat) : ownR ρ i (some x) = if D.pures x = true then some (.next (ρ.set i (some (.own x)))) else none := (rfl)
@[simp] theorem unpR_tup (xs : List Nat) : unpR ρ xs (some (.tup x)) = if x.length = xs.length ∧ D.pures x = true then some (.next (setAll ρ xs x)) else none := (rfl)
end
end Mine

namespace Mine
open PySem
noncomputable def F_l_cell_at : Fn := ⟨[(Str.ofString "_law_script"), (Str.ofString "_law_k")], [((Str.ofString "_law_script"), .local), ((Str.ofString "_law_k"), .local), ((Str.ofString "len"), .globalImplicit)],
 (.cons (.iff (.cmp .lt (.v 1) (.len (.v 0)))
 (.cons (.ret (.idx (.v 0) (.v 1)))
 .nil)
 .nil)
 (.cons (.ret (.k (.int (0))))
 .nil)), none⟩

noncomputable def F_l_mixed : Fn := ⟨[(Str.ofString "_law_script"), (Str.ofString "_law_k")], [((Str.ofString "_law_script"), .local), ((Str.ofString "_law_k"), .local), ((Str.ofString "_law_cell"), .local), ((Str.ofString "len"), .globalImplicit)],
 (.cons (.asg 2 (.k (.int (0))))
 (.cons (.iff (.cmp .gt (.len (.v 0)) (.k (.int (0))))
 (.cons (.asg 2 (.idx (.v 0) (.bin .mod (.v 1) (.len (.v 0)))))
 .nil)
 .nil)
 (.cons (.ret (.bin .mod (.bin .mul (.bin .add (.v 2) (.bin .mul (.k (.int (7919))) (.v 1))) (.k (.int (48271)))) (.k (.int (2147483647)))))
 .nil))), none⟩

noncomputable def F_l_value_by : Fn := ⟨[(Str.ofString "_law_script"), (Str.ofString "_law_k"), (Str.ofString "_law_sizes")], [((Str.ofString "_law_script"), .local), ((Str.ofString "_law_k"), .local), ((Str.ofString "_law_sizes"), .local), ((Str.ofString "_law_number"), .local), ((Str.ofString "_law_rest"), .local), ((Str.ofString "_law_mixed"), .globalImplicit), ((Str.ofString "_law_cell_at"), .globalImplicit), ((Str.ofString "max"), .globalImplicit), ((Str.ofString "len"), .globalImplicit)],
 (.cons (.callS (.var 3) 1 (.cons (.v 0) (.cons (.v 1) .nil)))
 (.cons (.asg 4 (.bin .div (.v 3) (.k (.int (8)))))
 (.cons (.iff (.cmp .eq (.bin .mod (.v 3) (.k (.int (8)))) (.k (.int (0))))
 (.cons (.ret (.k .none))
 .nil)
 .nil)
 (.cons (.iff (.cmp .eq (.bin .mod (.v 3) (.k (.int (8)))) (.k (.int (1))))
 (.cons (.ret (.bin .mul (.bin .mod (.call 0 (.cons (.v 0) (.cons (.bin .mod (.v 1) (.max (.k (.int (1))) (.len (.v 0)))) .nil))) (.bin .pow (.k (.int (10))) (.k (.int (60))))) (.idx (.lst (.cons (.k (.int (1))) (.cons (.neg (.k (.int (1)))) .nil))) (.bin .mod (.v 4) (.k (.int (2)))))))
 .nil)
 .nil)
 (.cons (.iff (.and (.cmp .lt (.bin .mod (.v 3) (.k (.int (8)))) (.k (.int (6)))) (.cmp .gt (.idx (.v 2) (.k (.int (0)))) (.k (.int (0)))))
 (.cons (.ret (.tup (.cons (.k (.str (Str.ofString "young"))) (.cons (.bin .mod (.v 4) (.idx (.v 2) (.k (.int (0))))) .nil))))
 .nil)
 .nil)
 (.cons (.iff (.and (.cmp .gt (.bin .mod (.v 3) (.k (.int (8)))) (.k (.int (4)))) (.cmp .gt (.idx (.v 2) (.k (.int (1)))) (.k (.int (0)))))
 (.cons (.ret (.tup (.cons (.k (.str (Str.ofString "old"))) (.cons (.bin .mod (.v 4) (.idx (.v 2) (.k (.int (1))))) .nil))))
 .nil)
 .nil)
 (.cons (.ret (.bin .sub (.bin .mod (.v 4) (.k (.int (7)))) (.k (.int (3)))))
 .nil))))))), none⟩

noncomputable def C_l_thing_by_1 : E :=
 (.call 2 (.cons (.v 0) (.cons (.bin .add (.bin .add (.v 1) (.k (.int (1)))) (.v 12)) (.cons (.v 2) .nil))))
noncomputable def F_l_thing_by : Fn := ⟨[(Str.ofString "_law_script"), (Str.ofString "_law_k"), (Str.ofString "_law_sizes")], [((Str.ofString "_law_script"), .cell), ((Str.ofString "_law_k"), .cell), ((Str.ofString "_law_sizes"), .cell), ((Str.ofString "_law_number"), .local), ((Str.ofString "_law_many"), .local), ((Str.ofString "_law_age"), .local), ((Str.ofString "_law_mixed"), .globalImplicit), ((Str.ofString "_law_cell_at"), .globalImplicit), ((Str.ofString "max"), .globalImplicit), ((Str.ofString "len"), .globalImplicit), ((Str.ofString "tuple"), .globalImplicit), ((Str.ofString "range"), .globalImplicit)],
 (.cons (.callS (.var 3) 1 (.cons (.v 0) (.cons (.v 1) .nil)))
 (.cons (.asg 4 (.bin .mod (.v 3) (.k (.int (4)))))
 (.cons (.iff (.cmp .eq (.bin .mod (.bin .div (.v 3) (.k (.int (4)))) (.k (.int (32)))) (.k (.int (3))))
 (.cons (.asg 4 (.bin .mod (.bin .div (.v 3) (.k (.int (128)))) (.k (.int (100)))))
 .nil)
 .nil)
 (.cons (.asg 5 (.bin .mod (.bin .div (.v 3) (.k (.int (12800)))) (.k (.int (4)))))
 (.cons (.iff (.cmp .eq (.bin .mod (.bin .div (.v 3) (.k (.int (51200)))) (.k (.int (8)))) (.k (.int (1))))
 (.cons (.asg 5 (.bin .mod (.call 0 (.cons (.v 0) (.cons (.bin .mod (.v 1) (.max (.k (.int (1))) (.len (.v 0)))) .nil))) (.bin .pow (.k (.int (10))) (.k (.int (60))))))
 .nil)
 .nil)
 (.cons (.ret (.tup (.cons (.v 5) (.cons (.toTup (.comp C_l_thing_by_1 (.range (.v 4)) (.k (.bool true)))) .nil))))
 .nil)))))), none⟩

noncomputable def B_l_book_of_1 : Ss :=
 (.cons (.asg 4 (.idx (.idx (.idx (.v 0) (.v 2)) (.k (.int (1)))) (.v 3)))
 (.cons (.iff (.and (.isi (.v 4) .tuple) (.cmp .eq (.idx (.v 4) (.k (.int (0)))) (.k (.str (Str.ofString "young")))))
 (.cons (.app 1 (.tup (.cons (.v 2) (.cons (.v 3) .nil))))
 .nil)
 .nil)
 .nil))
noncomputable def B_l_book_of_2 : Ss :=
 (.cons (.for1 3 (.range (.len (.idx (.idx (.v 0) (.v 2)) (.k (.int (1)))))) B_l_book_of_1)
 .nil)
noncomputable def F_l_book_of : Fn := ⟨[(Str.ofString "_law_old")], [((Str.ofString "_law_old"), .local), ((Str.ofString "_law_found"), .local), ((Str.ofString "_law_place"), .local), ((Str.ofString "_law_k"), .local), ((Str.ofString "_law_value"), .local), ((Str.ofString "range"), .globalImplicit), ((Str.ofString "len"), .globalImplicit), ((Str.ofString "isinstance"), .globalImplicit), ((Str.ofString "tuple"), .globalImplicit)],
 (.cons (.ownD 1 .nil)
 (.cons (.for1 2 (.range (.len (.v 0))) B_l_book_of_2)
 (.cons (.ret (.toTup (.v 1)))
 .nil))), none⟩

noncomputable def F_l_next : Fn := ⟨[(Str.ofString "_law_word"), (Str.ofString "_law_k"), (Str.ofString "_law_sizes")], [((Str.ofString "_law_word"), .local), ((Str.ofString "_law_k"), .local), ((Str.ofString "_law_sizes"), .local), ((Str.ofString "_law_other"), .local), ((Str.ofString "_law_at"), .local), ((Str.ofString "int"), .globalImplicit)],
 (.cons (.asg 3 (.idx (.lst (.cons (.k (.str (Str.ofString "young"))) (.cons (.k (.str (Str.ofString "old"))) .nil))) (.toInt (.cmp .eq (.v 0) (.k (.str (Str.ofString "young")))))))
 (.cons (.asg 4 (.idx (.lst (.cons (.v 1) (.cons (.bin .add (.v 1) (.k (.int (1)))) .nil))) (.toInt (.cmp .eq (.v 0) (.k (.str (Str.ofString "old")))))))
 (.cons (.iff (.cmp .lt (.v 4) (.idx (.v 2) (.toInt (.cmp .eq (.v 3) (.k (.str (Str.ofString "old")))))))
 (.cons (.ret (.tup (.cons (.v 3) (.cons (.v 4) .nil))))
 .nil)
 .nil)
 (.cons (.iff (.cmp .lt (.bin .add (.v 1) (.k (.int (1)))) (.idx (.v 2) (.toInt (.cmp .eq (.v 0) (.k (.str (Str.ofString "old")))))))
 (.cons (.ret (.tup (.cons (.v 0) (.cons (.bin .add (.v 1) (.k (.int (1)))) .nil))))
 .nil)
 .nil)
 (.cons (.ret (.k (.int (7))))
 .nil))))), none⟩

noncomputable def B_l_chained_1 : Ss :=
 (.cons (.app 3 (.tup (.cons (.idx (.idx (.v 0) (.v 4)) (.k (.int (0)))) (.cons (.bin .add (.idx (.idx (.v 0) (.v 4)) (.k (.int (1)))) (.tup (.cons (.call 5 (.cons (.v 1) (.cons (.v 4) (.cons (.v 2) .nil)))) .nil))) .nil))))
 .nil)
noncomputable def F_l_chained : Fn := ⟨[(Str.ofString "_law_half"), (Str.ofString "_law_word"), (Str.ofString "_law_sizes")], [((Str.ofString "_law_half"), .local), ((Str.ofString "_law_word"), .local), ((Str.ofString "_law_sizes"), .local), ((Str.ofString "_law_rows"), .local), ((Str.ofString "_law_k"), .local), ((Str.ofString "range"), .globalImplicit), ((Str.ofString "len"), .globalImplicit), ((Str.ofString "_law_next"), .globalImplicit), ((Str.ofString "tuple"), .globalImplicit)],
 (.cons (.ownD 3 .nil)
 (.cons (.for1 4 (.range (.len (.v 0))) B_l_chained_1)
 (.cons (.ret (.toTup (.v 3)))
 .nil))), none⟩

noncomputable def B_l_heap_by_1 : Ss :=
 (.cons (.iff (.cmp .eq (.bin .mod (.bin .div (.call 0 (.cons (.v 0) (.cons (.v 2) .nil))) (.k (.int (6)))) (.k (.int (6)))) (.k (.int (1))))
 (.cons (.seti 1 (.v 2) (.bin .mod (.bin .mod (.bin .mul (.call 0 (.cons (.v 0) (.cons (.v 2) .nil))) (.k (.int (48271)))) (.k (.int (2147483647)))) (.k (.int (71)))))
 .nil)
 .nil)
 .nil)
noncomputable def C_l_heap_by_2 : E :=
 (.call 3 (.cons (.v 0) (.cons (.bin .mul (.k (.int (100))) (.v 11)) (.cons (.v 1) .nil))))
noncomputable def C_l_heap_by_3 : E :=
 (.call 3 (.cons (.v 0) (.cons (.bin .add (.k (.int (10000))) (.bin .mul (.k (.int (100))) (.v 11))) (.cons (.v 1) .nil))))
noncomputable def C_l_heap_by_4 : E :=
 (.call 2 (.cons (.v 0) (.cons (.bin .add (.k (.int (20000))) (.v 11)) (.cons (.v 1) .nil))))
noncomputable def F_l_heap_by : Fn := ⟨[(Str.ofString "_law_script")], [((Str.ofString "_law_script"), .cell), ((Str.ofString "_law_sizes"), .cell), ((Str.ofString "_law_k"), .local), ((Str.ofString "_law_young"), .local), ((Str.ofString "_law_old"), .local), ((Str.ofString "_law_roots"), .local), ((Str.ofString "_law_cell_at"), .globalImplicit), ((Str.ofString "range"), .globalImplicit), ((Str.ofString "tuple"), .globalImplicit), ((Str.ofString "_law_chained"), .globalImplicit), ((Str.ofString "_law_book_of"), .globalImplicit)],
 (.cons (.ownD 1 (.cons (.bin .mod (.call 0 (.cons (.v 0) (.cons (.k (.int (0))) .nil))) (.k (.int (6)))) (.cons (.bin .mod (.call 0 (.cons (.v 0) (.cons (.k (.int (1))) .nil))) (.k (.int (6)))) (.cons (.bin .mod (.call 0 (.cons (.v 0) (.cons (.k (.int (2))) .nil))) (.k (.int (5)))) .nil))))
 (.cons (.for1 2 (.range (.k (.int (3)))) B_l_heap_by_1)
 (.cons (.asg 3 (.toTup (.comp C_l_heap_by_2 (.range (.idx (.v 1) (.k (.int (0))))) (.k (.bool true)))))
 (.cons (.asg 4 (.toTup (.comp C_l_heap_by_3 (.range (.idx (.v 1) (.k (.int (1))))) (.k (.bool true)))))
 (.cons (.asg 5 (.toTup (.comp C_l_heap_by_4 (.range (.idx (.v 1) (.k (.int (2))))) (.k (.bool true)))))
 (.cons (.iff (.or (.cmp .eq (.bin .mod (.bin .div (.call 0 (.cons (.v 0) (.cons (.k (.int (2))) .nil))) (.k (.int (2556)))) (.k (.int (8)))) (.k (.int (1)))) (.cmp .eq (.bin .mod (.call 0 (.cons (.v 0) (.cons (.k (.int (2))) .nil))) (.k (.int (11)))) (.k (.int (3)))))
 (.cons (.callS (.var 3) 6 (.cons (.v 3) (.cons (.k (.str (Str.ofString "young"))) (.cons (.v 1) .nil))))
 (.cons (.callS (.var 4) 6 (.cons (.v 4) (.cons (.k (.str (Str.ofString "old"))) (.cons (.v 1) .nil))))
 (.cons (.iff (.cmp .gt (.idx (.v 1) (.k (.int (0)))) (.k (.int (0))))
 (.cons (.asg 5 (.bin .add (.tup (.cons (.tup (.cons (.k (.str (Str.ofString "young"))) (.cons (.k (.int (0))) .nil))) .nil)) (.slFrom (.v 5) (.k (.int (1))))))
 .nil)
 .nil)
 .nil)))
 .nil)
 (.cons (.ret (.tup (.cons (.v 3) (.cons (.v 4) (.cons (.v 5) (.cons (.call 4 (.cons (.v 4) .nil)) .nil))))))
 .nil))))))), none⟩

noncomputable def F_is_pointer : Fn := ⟨[(Str.ofString "value")], [((Str.ofString "value"), .local), ((Str.ofString "isinstance"), .globalImplicit), ((Str.ofString "tuple"), .globalImplicit)],
 (.cons (.ret (.isi (.v 0) .tuple))
 .nil), none⟩

noncomputable def F_half_of : Fn := ⟨[(Str.ofString "heap"), (Str.ofString "pointer")], [((Str.ofString "heap"), .local), ((Str.ofString "pointer"), .local)],
 (.cons (.iff (.cmp .eq (.idx (.v 1) (.k (.int (0)))) (.k (.str (Str.ofString "young"))))
 (.cons (.ret (.idx (.v 0) (.k (.int (0)))))
 .nil)
 .nil)
 (.cons (.ret (.idx (.v 0) (.k (.int (1)))))
 .nil)), none⟩

noncomputable def F_leads : Fn := ⟨[(Str.ofString "heap"), (Str.ofString "pointer")], [((Str.ofString "heap"), .local), ((Str.ofString "pointer"), .local), ((Str.ofString "len"), .globalImplicit), ((Str.ofString "half_of"), .globalImplicit)],
 (.cons (.ret (.chain .le .lt (.k (.int (0))) (.idx (.v 1) (.k (.int (1)))) (.len (.call 9 (.cons (.v 0) (.cons (.v 1) .nil))))))
 .nil), none⟩

structure Common (P : Prg) : Prop where
  c0 : P[0]? = some F_l_cell_at
  c1 : P[1]? = some F_l_mixed
  c2 : P[2]? = some F_l_value_by
  c3 : P[3]? = some F_l_thing_by
  c4 : P[4]? = some F_l_book_of
  c5 : P[5]? = some F_l_next
  c6 : P[6]? = some F_l_chained
  c7 : P[7]? = some F_l_heap_by
  c8 : P[8]? = some F_is_pointer
  c9 : P[9]? = some F_half_of
  c10 : P[10]? = some F_leads
end Mine


namespace Mine
open PySem

abbrev wY : Str := Str.ofString "young"
abbrev wO : Str := Str.ofString "old"
theorem YO : (wY == wO) = false := by decide +kernel
theorem OY : (wO == wY) = false := by decide +kernel
theorem YY : (wY == wY) = true := by decide +kernel
theorem OO : (wO == wO) = true := by decide +kernel
theorem YneO : ¬ wY = wO := by decide +kernel
theorem OneY : ¬ wO = wY := by decide +kernel

theorem lim_eq : (lim : Int) = 1000000 := rfl
theorem lim_n : lim = 1000000 := rfl

section
variable {Φ : Fns} {ρ : Rho}
theorem evIt_range {a : E} {m : Int} (h : ev Φ ρ a = some (.int m)) (h0 : -1000000 ≤ m) (h1 : m ≤ 1000000) : evIt Φ ρ (.range a) = some (rangeD 0 m) := by
  show (ev Φ ρ a).bind _ = _
  rw [h]; exact if_pos ⟨h0, h1⟩
theorem evIt_seq {a : E} {d : D} {ds : List D} (h : ev Φ ρ a = some d) (hi : items d = some ds) (hp : D.pures ds = true) : evIt Φ ρ (.seq a) = some ds := by
  show (ev Φ ρ a).bind _ = _
  rw [h]; show (items d).bind _ = _
  rw [hi]; exact if_pos hp
theorem ex_for {x : Nat} {it : It} {b : Ss} {ds : List D} (h : evIt Φ ρ it = some ds) (ho : itOk Φ ρ it = true) : ex Φ ρ (.for1 x it b) = loopO (fun d ρ => exs Φ (ρ.set x (some (.dat d))) b) ds ρ := by
  show (evIt Φ ρ it).bind _ = _
  rw [h]; exact if_pos ho
theorem ex_for_range {x : Nat} {a : E} {b : Ss} {m : Int} (h : ev Φ ρ a = some (.int m)) (h0 : -1000000 ≤ m) (h1 : m ≤ 1000000) :
    ex Φ ρ (.for1 x (.range a) b) = loopO (fun d ρ => exs Φ (ρ.set x (some (.dat d))) b) (rangeD 0 m) ρ := ex_for (evIt_range h h0 h1) rfl
theorem ex_for_tup {x : Nat} {a : E} {b : Ss} {ds : List D} (h : ev Φ ρ a = some (.tup ds)) (hp : D.pures ds = true) :
    ex Φ ρ (.for1 x (.seq a) b) = loopO (fun d ρ => exs Φ (ρ.set x (some (.dat d))) b) ds ρ :=
  ex_for (evIt_seq h rfl hp) (by show (ρ.noOwn || ((ev Φ ρ a).bind tupOf).isSome) = true; rw [h]; exact Bool.or_true _)
theorem ex_for_lst {x : Nat} {a : E} {b : Ss} {ds : List D} (h : ev Φ ρ a = some (.lst ds)) (hp : D.pures ds = true) (hn : ρ.noOwn = true) :
    ex Φ ρ (.for1 x (.seq a) b) = loopO (fun d ρ => exs Φ (ρ.set x (some (.dat d))) b) ds ρ :=
  ex_for (evIt_seq h rfl hp) (by show (ρ.noOwn || ((ev Φ ρ a).bind tupOf).isSome) = true; rw [hn]; rfl)
theorem ex_forV {x y : Nat} {b : Ss} {lo : Lo} {ds : List D} (h : ρ.get y = some lo) (hi : items lo.val = some ds) (ho : lo.own?.isNone = true) (hp : D.pures ds = true) :
    ex Φ ρ (.forV x y b) = loopO (fun d ρ => exs Φ (ρ.set x (some (.dat d))) b) ds ρ := by
  show (ρ.get y).bind _ = _
  rw [h]; show (items lo.val).bind _ = _
  rw [hi]; exact if_pos ⟨ho, hp⟩
theorem ev_comp {el cd : E} {it : It} {ds res : List D} (h : evIt Φ ρ it = some ds) (hc : compO (fun d => (ev Φ (ρ ++ [some (.dat d)]) cd).bind isTrueD) (fun d => ev Φ (ρ ++ [some (.dat d)]) el) ds = some res) (hp : D.pures res = true) :
    ev Φ ρ (.comp el it cd) = some (.lst res) := by
  show (evIt Φ ρ it).bind _ = _
  rw [h]; show (compO _ _ ds).bind _ = _
  rw [hc]; exact if_pos hp
end
theorem rangeD_len (m : Int) : (rangeD 0 m).length = m.toNat := by simp [rangeD]
theorem rangeD_some {m : Int} {j : Nat} {d : D} (h : (rangeD 0 m)[j]? = some d) : d = .int j ∧ (j : Int) < m := by
  have hl := (List.getElem?_eq_some_iff.mp h).1
  rw [rangeD_get hl] at h
  rw [rangeD_len] at hl
  exact ⟨by simpa using h.symm, by omega⟩
theorem rangeD_mem {m : Int} {d : D} (h : d ∈ rangeD 0 m) : ∃ j : Nat, d = .int j ∧ (j : Int) < m := by
  obtain ⟨j, hj⟩ := List.getElem?_of_mem h
  exact ⟨j, rangeD_some hj⟩

noncomputable def scr (xs : List Int) : D := .lst (xs.map .int)
noncomputable def cellAt (xs : List Int) (k : Int) : Int := (xs[k.toNat]?).getD 0
noncomputable def mixed (xs : List Int) (k : Int) : Int := ((if 0 < xs.length then cellAt xs (k % xs.length) else 0) + 7919 * k) * 48271 % 2147483647
theorem mixed_range (xs : List Int) (k : Int) : 0 ≤ mixed xs k ∧ mixed xs k < 2147483647 := by unfold mixed; omega

/-! shapes -/
abbrev Bd := Str → Int → Prop
noncomputable def okV (b : Bd) (v : D) : Prop := v = .none ∨ (∃ i, v = .int i) ∨ ∃ s i, (s = wY ∨ s = wO) ∧ b s i ∧ v = .tup [.str s, .int i]
noncomputable def okTm (m : Nat) (b : Bd) (t : D) : Prop := ∃ a vs, t = .tup [.int a, .tup vs] ∧ vs.length ≤ m ∧ ∀ v ∈ vs, okV b v
abbrev okT (b : Bd) (t : D) : Prop := okTm 101 b t
noncomputable def inB (s0 s1 : Int) : Bd := fun s i => 0 ≤ i ∧ i < if s = wY then s0 else s1

theorem okV.okN {b : Bd} {v : D} (h : okV b v) : v.okN 1 = true := by
  rcases h with rfl | ⟨i, rfl⟩ | ⟨s, i, _, _, rfl⟩ <;> rfl
theorem okTm.okN {m : Nat} {b : Bd} {t : D} (h : okTm m b t) : t.okN 3 = true := by
  obtain ⟨a, vs, rfl, _, hv⟩ := h
  have : vs.all (D.okN 1) = true := List.all_eq_true.mpr fun v hv' => (hv v hv').okN
  rw [D.okN_tup, List.all_cons, List.all_cons, D.okN_int, D.okN_tup, this]; rfl
theorem okV.pure {b : Bd} {v : D} (h : okV b v) : v.pure = true := D.okN_le (by decide) h.okN
theorem okTm.pure {m : Nat} {b : Bd} {t : D} (h : okTm m b t) : t.pure = true := D.okN_le (by decide) h.okN
theorem okVs.pures {b : Bd} {vs : List D} (h : ∀ v ∈ vs, okV b v) : D.pures vs = true := List.all_eq_true.mpr fun v hv => (h v hv).pure
theorem okTs.pures {m : Nat} {b : Bd} {vs : List D} (h : ∀ v ∈ vs, okTm m b v) : D.pures vs = true := List.all_eq_true.mpr fun v hv => (h v hv).pure
theorem okTs.tup {m : Nat} {b : Bd} {vs : List D} (h : ∀ v ∈ vs, okTm m b v) : D.pure (.tup vs) = true :=
  D.okN_le (n := 4) (by decide) (by rw [D.okN_tup]; exact List.all_eq_true.mpr fun v hv => (h v hv).okN)
theorem okVs.tup {b : Bd} {vs : List D} (h : ∀ v ∈ vs, okV b v) : D.pure (.tup vs) = true :=
  D.okN_le (n := 2) (by decide) (by rw [D.okN_tup]; exact List.all_eq_true.mpr fun v hv => (h v hv).okN)

section
variable {keep : Bool} {P : Prg} (C : Common P) {n : Nat} {xs : List Int} {k : Int}

theorem rho_cell_at (a b : D) : rho0 F_l_cell_at.names F_l_cell_at.ps [a, b] = [some (.arg a), some (.arg b), none] := by kernel_rfl
include C in
theorem r_cell_at (hk : 0 ≤ k) : run keep P (n + 1) 0 [scr xs, .int k] = some (.ok (.int (cellAt xs k))) := by
  rw [run_at C.c0, fnRun_eq rfl, rho_cell_at]
  simp [F_l_cell_at, scr, hk, cellAt]
  by_cases h : k < xs.length
  · have h' : k.toNat < xs.length := by omega
    simp [h, h', List.getElem?_eq_getElem h']
  · have h' : ¬ k.toNat < xs.length := by omega
    simp [h, List.getElem?_eq_none (Nat.le_of_not_lt h')]

theorem rho_mixed (a b : D) : rho0 F_l_mixed.names F_l_mixed.ps [a, b] = [some (.arg a), some (.arg b), none, none] := by kernel_rfl
include C in
theorem r_mixed (hk : 0 ≤ k) : run keep P (n + 1) 1 [scr xs, .int k] = some (.ok (.int (mixed xs k))) := by
  rw [run_at C.c1, fnRun_eq rfl, rho_mixed]
  by_cases h : 0 < xs.length
  · have h1 : 0 ≤ k % (xs.length : Int) := Int.emod_nonneg _ (by omega)
    have h2 : k % (xs.length : Int) < xs.length := Int.emod_lt_of_pos _ (by omega)
    have h' : (k % (xs.length : Int)).toNat < xs.length := by omega
    simp [F_l_mixed, scr, mixed, h, h1, h', List.getElem?_eq_getElem h', cellAt]
  · simp [F_l_mixed, scr, mixed, h]

/-! the sizes -/
noncomputable def szs (s0 s1 s2 : Int) : D := .lst [.int s0, .int s1, .int s2]
structure Sz (s0 s1 s2 : Int) : Prop where
  a0 : 0 ≤ s0
  a1 : s0 ≤ 70
  b0 : 0 ≤ s1
  b1 : s1 ≤ 70
  c0 : 0 ≤ s2
  c1 : s2 ≤ 70

theorem rho_value_by (a b c : D) : rho0 F_l_value_by.names F_l_value_by.ps [a, b, c] = [some (.arg a), some (.arg b), some (.arg c), none, none, none, none, none, none] := by kernel_rfl
include C in
theorem r_value_byL {s0 s1 : Int} {tl : List D} (hk : 0 ≤ k) : ∃ v, run keep P (n + 2) 2 [scr xs, .int k, .lst (.int s0 :: .int s1 :: tl)] = some (.ok v) ∧ okV (inB s0 s1) v := by
  rw [run_at C.c2, fnRun_eq rfl, rho_value_by]
  have hm := r_mixed (keep := keep) C (n := n) (xs := xs) hk
  obtain ⟨m0, m1⟩ := mixed_range xs k
  have hmx : (0 : Int) < if ((xs.length : Nat) : Int) > 1 then ((xs.length : Nat) : Int) else 1 := by split <;> omega
  have hc := r_cell_at (keep := keep) C (n := n) (xs := xs) (k := k % if ((xs.length : Nat) : Int) > 1 then ((xs.length : Nat) : Int) else 1) (Int.emod_nonneg _ (by omega))
  simp only [scr] at hm hc
  by_cases h0 : mixed xs k % 8 = 0
  · simp [F_l_value_by, hm, scr, h0]
    exact .inl rfl
  by_cases h1 : mixed xs k % 8 = 1
  · have h2 : mixed xs k / 8 % 2 = 0 ∨ mixed xs k / 8 % 2 = 1 := by omega
    rcases h2 with h2 | h2 <;> simp [F_l_value_by, hm, hc, scr, hmx, h0, h1, h2] <;> exact .inr (.inl ⟨_, rfl⟩)
  by_cases h2 : mixed xs k % 8 < 6 ∧ 0 < s0
  · simp [F_l_value_by, hm, scr, h0, h1, h2.1, h2.2]
    exact .inr (.inr ⟨wY, _, .inl rfl, ⟨Int.emod_nonneg _ (by omega), by rw [if_pos rfl]; exact Int.emod_lt_of_pos _ h2.2⟩, rfl⟩)
  by_cases h3 : 4 < mixed xs k % 8 ∧ 0 < s1
  · have e : (∃ v, outR keep (exs (run keep P (n + 1)) [some (.arg (scr xs)), some (.arg (.int k)), some (.arg (.lst (.int s0 :: .int s1 :: tl))), none, none, none, none, none, none] F_l_value_by.body) = some (.ok v) ∧ v = .tup [.str wO, .int (mixed xs k / 8 % s1)]) := by
      by_cases h4 : mixed xs k % 8 < 6
      · have h5 : ¬ 0 < s0 := fun q => h2 ⟨h4, q⟩
        simp [F_l_value_by, hm, scr, h0, h1, h4, h5, h3.1, h3.2]
      · simp [F_l_value_by, hm, scr, h0, h1, h4, h3.1, h3.2]
    obtain ⟨v, e1, rfl⟩ := e
    exact ⟨_, e1, .inr (.inr ⟨wO, _, .inr rfl, ⟨Int.emod_nonneg _ (by omega), by rw [if_neg OneY]; exact Int.emod_lt_of_pos _ h3.2⟩, rfl⟩)⟩
  · refine ⟨.int (mixed xs k / 8 % 7 - 3), ?_, .inr (.inl ⟨_, rfl⟩)⟩
    by_cases h4 : mixed xs k % 8 < 6 <;> by_cases h5 : 4 < mixed xs k % 8 <;> by_cases h6 : 0 < s0 <;> by_cases h7 : 0 < s1 <;> simp [h4, h5, h6, h7] at h2 h3 <;> simp [F_l_value_by, hm, scr, h0, h1, h4, h5, h6, h7]
include C in
theorem r_value_by {s0 s1 s2 : Int} (Z : Sz s0 s1 s2) (hk : 0 ≤ k) : ∃ v, run keep P (n + 2) 2 [scr xs, .int k, szs s0 s1 s2] = some (.ok v) ∧ okV (inB s0 s1) v := r_value_byL C hk

theorem rho_thing_by (a b c : D) : rho0 F_l_thing_by.names F_l_thing_by.ps [a, b, c] = [some (.arg a), some (.arg b), some (.arg c), none, none, none, none, none, none, none, none, none] := by kernel_rfl
include C in
theorem r_thing_by {s0 s1 s2 : Int} (Z : Sz s0 s1 s2) (hk : 0 ≤ k) : ∃ t, run keep P (n + 3) 3 [scr xs, .int k, szs s0 s1 s2] = some (.ok t) ∧ okTm 99 (inB s0 s1) t := by
  rw [run_at C.c3, fnRun_eq rfl, rho_thing_by]
  have hm := r_mixed (keep := keep) C (n := n + 1) (xs := xs) hk
  obtain ⟨m0, m1⟩ := mixed_range xs k
  have hmx : (0 : Int) < if ((xs.length : Nat) : Int) > 1 then ((xs.length : Nat) : Int) else 1 := by split <;> omega
  have hc := r_cell_at (keep := keep) C (n := n + 1) (xs := xs) (k := k % if ((xs.length : Nat) : Int) > 1 then ((xs.length : Nat) : Int) else 1) (Int.emod_nonneg _ (by omega))
  have hcomp : ∀ (num age : D) (many : Int), 0 ≤ many → many ≤ 99 → ∃ res, ev (run keep P (n + 2)) [some (.arg (scr xs)), some (.arg (.int k)), some (.arg (szs s0 s1 s2)), some (.dat num), some (.dat (.int many)), some (.dat age), none, none, none, none, none, none] (.comp C_l_thing_by_1 (.range (.v 4)) (.k (.bool true))) = some (.lst res) ∧ res.length = many.toNat ∧ ∀ v ∈ res, okV (inB s0 s1) v := by
    intro num age many h0 h1
    obtain ⟨res, e1, e2, e3⟩ := comp_all (c := fun d => (ev (run keep P (n + 2)) ([some (.arg (scr xs)), some (.arg (.int k)), some (.arg (szs s0 s1 s2)), some (.dat num), some (.dat (.int many)), some (.dat age), none, none, none, none, none, none] ++ [some (.dat d)]) (.k (.bool true))).bind isTrueD)
      (f := fun d => ev (run keep P (n + 2)) ([some (.arg (scr xs)), some (.arg (.int k)), some (.arg (szs s0 s1 s2)), some (.dat num), some (.dat (.int many)), some (.dat age), none, none, none, none, none, none] ++ [some (.dat d)]) C_l_thing_by_1) (fun _ v => okV (inB s0 s1) v) (rangeD 0 many) (fun d hd => by
        obtain ⟨j, rfl, hj⟩ := rangeD_mem hd
        refine ⟨by simp [isTrueD], ?_⟩
        obtain ⟨v, hv1, hv2⟩ := r_value_by (keep := keep) C (n := n) (xs := xs) (k := k + 1 + j) Z (by omega)
        exact ⟨v, by simp [C_l_thing_by_1, hv1], hv2⟩)
    have hok : ∀ v ∈ res, okV (inB s0 s1) v := fun v hv => (e3 v hv).elim fun _ q => q.2
    exact ⟨res, ev_comp (evIt_range (by simp) (by omega) (by omega)) e1 (okVs.pures hok), by rw [e2, rangeD_len], hok⟩
  simp only [scr] at hm hc hcomp ⊢
  have big : (10 : Int) ^ 60 = 1000000000000000000000000000000000000000000000000000000000000 := by decide +kernel
  by_cases h1 : mixed xs k / 4 % 32 = 3 <;> by_cases h2 : mixed xs k / 51200 % 8 = 1
  · obtain ⟨res, e1, e2, e3⟩ := hcomp (.int (mixed xs k)) (.int (cellAt xs (k % if ((xs.length : Nat) : Int) > 1 then ((xs.length : Nat) : Int) else 1) % 10 ^ 60)) (mixed xs k / 128 % 100) (by omega) (by omega)
    simp [F_l_thing_by, hm, hc, h1, h2, hmx] at e1 ⊢
    rw [e1]
    exact ⟨_, rfl, _, res, rfl, by omega, e3⟩
  · obtain ⟨res, e1, e2, e3⟩ := hcomp (.int (mixed xs k)) (.int (mixed xs k / 12800 % 4)) (mixed xs k / 128 % 100) (by omega) (by omega)
    simp [F_l_thing_by, hm, hc, h1, h2, hmx] at e1 ⊢
    rw [e1]
    exact ⟨_, rfl, _, res, rfl, by omega, e3⟩
  · obtain ⟨res, e1, e2, e3⟩ := hcomp (.int (mixed xs k)) (.int (cellAt xs (k % if ((xs.length : Nat) : Int) > 1 then ((xs.length : Nat) : Int) else 1) % 10 ^ 60)) (mixed xs k % 4) (by omega) (by omega)
    simp [F_l_thing_by, hm, hc, h1, h2, hmx] at e1 ⊢
    rw [e1]
    exact ⟨_, rfl, _, res, rfl, by omega, e3⟩
  · obtain ⟨res, e1, e2, e3⟩ := hcomp (.int (mixed xs k)) (.int (mixed xs k / 12800 % 4)) (mixed xs k % 4) (by omega) (by omega)
    simp [F_l_thing_by, hm, hc, h1, h2, hmx] at e1 ⊢
    rw [e1]
    exact ⟨_, rfl, _, res, rfl, by omega, e3⟩

/-! the book -/
noncomputable def isYoung : D → Bool
  | .tup (.str s :: _) => s == wY
  | _ => false
noncomputable def fieldsOf : D → List D
  | .tup [_, .tup vs] => vs
  | _ => []
noncomputable def pairsAt (p : Nat) (vs : List D) : List D := (vs.zipIdx.filter fun q => isYoung q.1).map fun q => .tup [.int p, .int (q.2 : Nat)]
noncomputable def bookOf (o : List D) : List D := (o.zipIdx.map fun q => pairsAt q.2 (fieldsOf q.1)).flatten

theorem zipIdx_get {α : Type} {ds : List α} {j : Nat} {d : α} (h : ds[j]? = some d) : ds.zipIdx[j]? = some (d, j) := by
  rw [List.getElem?_zipIdx, h]; simp
theorem take_snoc {α : Type} {l : List α} {j : Nat} {a : α} (h : l[j]? = some a) : l.take (j + 1) = l.take j ++ [a] := by
  rw [List.take_add_one, h]; rfl
theorem pairsAt_len (p : Nat) (vs : List D) : (pairsAt p vs).length ≤ vs.length := by
  unfold pairsAt
  rw [List.length_map]
  exact Nat.le_trans (List.length_filter_le _ _) (by simp)
noncomputable def pairsTo (p : Nat) (vs : List D) (j : Nat) : List D := ((vs.zipIdx.take j).filter fun q => isYoung q.1).map fun q => .tup [.int p, .int (q.2 : Nat)]
noncomputable def bookTo (o : List D) (i : Nat) : List D := ((o.zipIdx.take i).map fun q => pairsAt q.2 (fieldsOf q.1)).flatten
theorem pairsTo_all (p : Nat) (vs : List D) : pairsTo p vs vs.length = pairsAt p vs := by
  unfold pairsTo pairsAt; rw [List.take_of_length_le (by simp)]
theorem bookTo_all (o : List D) : bookTo o o.length = bookOf o := by
  unfold bookTo bookOf; rw [List.take_of_length_le (by simp)]
theorem pairsTo_succ {p : Nat} {vs : List D} {j : Nat} {v : D} (h : vs[j]? = some v) : pairsTo p vs (j + 1) = pairsTo p vs j ++ (if isYoung v then [.tup [.int p, .int (j : Nat)]] else []) := by
  unfold pairsTo
  rw [take_snoc (zipIdx_get h), List.filter_append, List.map_append]
  congr 1
  by_cases q : isYoung v = true <;> simp [q]
theorem bookTo_succ {o : List D} {i : Nat} {t : D} (h : o[i]? = some t) : bookTo o (i + 1) = bookTo o i ++ pairsAt i (fieldsOf t) := by
  unfold bookTo
  rw [take_snoc (zipIdx_get h), List.map_append, List.flatten_append]
  simp
theorem pairsTo_len (p : Nat) (vs : List D) (j : Nat) : (pairsTo p vs j).length ≤ j := by
  unfold pairsTo
  rw [List.length_map]
  refine Nat.le_trans (List.length_filter_le _ _) ?_
  rw [List.length_take]; omega
theorem pair_pure (a b : Int) : D.pure (.tup [.int a, .int b]) = true := rfl
theorem pairsTo_pures (p : Nat) (vs : List D) (j : Nat) : D.pures (pairsTo p vs j) = true := by
  unfold pairsTo
  simp only [D.pures, List.all_map, List.all_eq_true]
  intro x _; rfl
theorem pairsAt_pures (p : Nat) (vs : List D) : D.pures (pairsAt p vs) = true := by rw [← pairsTo_all]; exact pairsTo_pures _ _ _
theorem bookTo_pures (o : List D) (i : Nat) : D.pures (bookTo o i) = true := by
  unfold bookTo
  simp only [D.pures, List.all_flatten, List.all_map, List.all_eq_true]
  intro x _
  exact pairsAt_pures _ _
theorem bookTo_len {m : Nat} {b : Bd} {o : List D} (h : ∀ t ∈ o, okTm m b t) : ∀ i, i ≤ o.length → (bookTo o i).length ≤ i * m
  | 0, _ => by simp [bookTo]
  | i + 1, hi => by
    have ht : o[i]? = some o[i] := List.getElem?_eq_getElem (by omega)
    rw [bookTo_succ ht, List.length_append]
    have := bookTo_len h i (by omega)
    have h2 := pairsAt_len i (fieldsOf o[i])
    obtain ⟨a, vs, e, hl, _⟩ := h o[i] (List.getElem_mem _)
    rw [e] at h2 ⊢
    simp only [fieldsOf] at h2 ⊢
    rw [Nat.add_mul]; omega

theorem okV_young {b : Bd} {v : D} (h : okV b v) : (∃ i, v = .tup [.str wY, .int i]) ∧ isYoung v = true ∨ isYoung v = false := by
  rcases h with rfl | ⟨i, rfl⟩ | ⟨s, i, hs, _, rfl⟩
  · exact .inr rfl
  · exact .inr rfl
  · rcases hs with rfl | rfl
    · exact .inl ⟨⟨i, rfl⟩, YY⟩
    · exact .inr OY

theorem rho_lbook_of (a : D) : rho0 F_l_book_of.names F_l_book_of.ps [a] = [some (.arg a), none, none, none, none, none, none, none, none] := by kernel_rfl
include C in
theorem r_lbook_of {b : Bd} {o : List D} (ho : ∀ t ∈ o, okT b t) (hl : o.length ≤ 100) : run keep P (n + 1) 4 [.tup o] = some (.ok (.tup (bookOf o))) := by
  rw [run_at C.c4, fnRun_eq rfl, rho_lbook_of]
  have outer : ∃ ρ', loopO (fun d ρ => exs (run keep P n) (ρ.set 2 (some (.dat d))) B_l_book_of_2) (rangeD 0 (o.length : Int)) [some (.arg (.tup o)), some (.own []), none, none, none, none, none, none, none] = some (.next ρ') ∧
      ∃ c d e, ρ' = [some (.arg (.tup o)), some (.own (bookTo o (0 + (rangeD 0 (o.length : Int)).length))), c, d, e, none, none, none, none] := by
    refine loop_inv (fun i ρ => ∃ c d e, ρ = [some (.arg (.tup o)), some (.own (bookTo o i)), c, d, e, none, none, none, none]) _ 0 _ ⟨_, _, _, rfl⟩ ?_
    rintro i d ρ hd ⟨c, d', e, rfl⟩
    obtain ⟨rfl, hi⟩ := rangeD_some hd
    rw [Nat.zero_add]
    have hi' : i < o.length := by omega
    have hoi : o[i]? = some o[i] := List.getElem?_eq_getElem hi'
    obtain ⟨a, vs, et, hvl, hvs⟩ := ho o[i] (List.getElem_mem _)
    have hb0 := bookTo_len ho i (by omega)
    have inner : ∃ ρ', loopO (fun d ρ => exs (run keep P n) (ρ.set 3 (some (.dat d))) B_l_book_of_1) (rangeD 0 (vs.length : Int)) [some (.arg (.tup o)), some (.own (bookTo o i)), some (.dat (.int i)), d', e, none, none, none, none] = some (.next ρ') ∧
        ∃ d e, ρ' = [some (.arg (.tup o)), some (.own (bookTo o i ++ pairsTo i vs (0 + (rangeD 0 (vs.length : Int)).length))), some (.dat (.int i)), d, e, none, none, none, none] := by
      refine loop_inv (fun j ρ => ∃ d e, ρ = [some (.arg (.tup o)), some (.own (bookTo o i ++ pairsTo i vs j)), some (.dat (.int i)), d, e, none, none, none, none]) _ 0 _ ⟨d', e, by simp [pairsTo]⟩ ?_
      rintro j d ρ hd ⟨d'', e'', rfl⟩
      obtain ⟨rfl, hj⟩ := rangeD_some hd
      rw [Nat.zero_add]
      have hj' : j < vs.length := by omega
      have hvj : vs[j]? = some vs[j] := List.getElem?_eq_getElem hj'
      have hp := pairsTo_len i vs j
      have hv := hvs vs[j] (List.getElem_mem _)
      have hpu := hv.pure
      have hlen : (bookTo o i).length + (pairsTo i vs j).length < lim := by
        rw [lim_n]
        have : i * 101 ≤ 100 * 101 := Nat.mul_le_mul_right _ (by omega)
        omega
      rw [pairsTo_succ hvj]
      rcases okV_young hv with ⟨⟨z, hz⟩, hy⟩ | hy
      · refine ⟨_, .inl ?_, some (.dat (.int j)), some (.dat vs[j]), rfl⟩
        rw [hz] at hvj hy
        simp [B_l_book_of_1, hoi, et, hvj, hz, hy, appR, hlen, YY, D.pure, D.okN]
      · refine ⟨_, .inl ?_, some (.dat (.int j)), some (.dat vs[j]), rfl⟩
        rcases hv with hz | ⟨z, hz⟩ | ⟨w, z, hw, _, hz⟩
        · rw [hz] at hvj hy; simp [B_l_book_of_1, hoi, et, hvj, hz, hy]
        · rw [hz] at hvj hy; simp [B_l_book_of_1, hoi, et, hvj, hz, hy]
        · have hw' : (w == wY) = false := by rw [hz] at hy; exact hy
          rw [hz] at hvj hy
          simp [B_l_book_of_1, hoi, et, hvj, hz, hy, hw', D.pure, D.okN]
    obtain ⟨ρ1, l1, d1, e1, hρ⟩ := inner
    refine ⟨ρ1, .inl ?_, some (.dat (.int i)), d1, e1, ?_⟩
    · unfold B_l_book_of_2
      rw [exs_cons, ex_for_range (m := (vs.length : Int)) (by simp [hoi, et]) (by omega) (by omega)]
      simp only [List.set_cons_succ, List.set_cons_zero]
      rw [l1]; simp
    · rw [hρ, rangeD_len, Int.toNat_natCast, Nat.zero_add, pairsTo_all, bookTo_succ hoi, et]; rfl
  obtain ⟨ρ1, l1, c1, d1, e1, hρ⟩ := outer
  unfold F_l_book_of
  simp only [exs_cons, ex_ownD, evs_nil, ownR_some]
  rw [if_pos (show D.pures [] = true from rfl), seqR_next]
  simp only [List.set_cons_succ, List.set_cons_zero]
  rw [exs_cons, ex_for_range (m := (o.length : Int)) (by simp) (by omega) (by omega)]
  rw [l1, hρ, rangeD_len, Int.toNat_natCast, Nat.zero_add, bookTo_all]
  simp
end
end Mine

namespace Mine
open PySem

section
variable {keep : Bool} {P : Prg} (C : Common P) {n : Nat} {xs : List Int} {k : Int}

theorem rho_next (a b c : D) : rho0 F_l_next.names F_l_next.ps [a, b, c] = [some (.arg a), some (.arg b), some (.arg c), none, none, none] := by kernel_rfl
include C in
theorem r_next {s0 s1 s2 : Int} {w : Str} (hw : w = wY ∨ w = wO) (hk : 0 ≤ k) : ∃ v, run keep P (n + 1) 5 [.str w, .int k, szs s0 s1 s2] = some (.ok v) ∧ okV (inB s0 s1) v := by
  rw [run_at C.c5, fnRun_eq rfl, rho_next]
  have e1 : Int.toNat 1 = 1 := rfl
  rcases hw with rfl | rfl
  · by_cases h1 : k < s1
    · refine ⟨.tup [.str wO, .int k], ?_, .inr (.inr ⟨wO, k, .inr rfl, ⟨hk, by rw [if_neg OneY]; exact h1⟩, rfl⟩)⟩
      simp [F_l_next, szs, YY, YO, OO, h1]
    · by_cases h2 : k + 1 < s0
      · refine ⟨.tup [.str wY, .int (k + 1)], ?_, .inr (.inr ⟨wY, k + 1, .inl rfl, ⟨by omega, by rw [if_pos rfl]; exact h2⟩, rfl⟩)⟩
        simp [F_l_next, szs, YY, YO, OO, h1, h2]
      · refine ⟨.int 7, ?_, .inr (.inl ⟨_, rfl⟩)⟩
        simp [F_l_next, szs, YY, YO, OO, h1, h2]
  · by_cases h1 : k + 1 < s0
    · refine ⟨.tup [.str wY, .int (k + 1)], ?_, .inr (.inr ⟨wY, k + 1, .inl rfl, ⟨by omega, by rw [if_pos rfl]; exact h1⟩, rfl⟩)⟩
      simp [F_l_next, szs, OY, OO, YO, h1]
    · by_cases h2 : k + 1 < s1
      · refine ⟨.tup [.str wO, .int (k + 1)], ?_, .inr (.inr ⟨wO, k + 1, .inr rfl, ⟨by omega, by rw [if_neg OneY]; exact h2⟩, rfl⟩)⟩
        simp [F_l_next, szs, OY, OO, YO, h1, h2]
      · refine ⟨.int 7, ?_, .inr (.inl ⟨_, rfl⟩)⟩
        simp [F_l_next, szs, OY, OO, YO, h1, h2]

theorem rho_chained (a b c : D) : rho0 F_l_chained.names F_l_chained.ps [a, b, c] = [some (.arg a), some (.arg b), some (.arg c), none, none, none, none, none, none] := by kernel_rfl
include C in
theorem r_chained {s0 s1 s2 : Int} {w : Str} (hw : w = wY ∨ w = wO) {h : List D} (hh : ∀ t ∈ h, okTm 99 (inB s0 s1) t) (hl : h.length ≤ 70) :
    ∃ h', run keep P (n + 2) 6 [.tup h, .str w, szs s0 s1 s2] = some (.ok (.tup h')) ∧ h'.length = h.length ∧ ∀ t ∈ h', okTm 100 (inB s0 s1) t := by
  rw [run_at C.c6, fnRun_eq rfl, rho_chained]
  have lp : ∃ ρ', loopO (fun d ρ => exs (run keep P (n + 1)) (ρ.set 4 (some (.dat d))) B_l_chained_1) (rangeD 0 (h.length : Int)) [some (.arg (.tup h)), some (.arg (.str w)), some (.arg (szs s0 s1 s2)), some (.own []), none, none, none, none, none] = some (.next ρ') ∧
      ∃ rows e, ρ' = [some (.arg (.tup h)), some (.arg (.str w)), some (.arg (szs s0 s1 s2)), some (.own rows), e, none, none, none, none] ∧ rows.length = 0 + (rangeD 0 (h.length : Int)).length ∧ ∀ t ∈ rows, okTm 100 (inB s0 s1) t := by
    refine loop_inv (fun j ρ => ∃ rows e, ρ = [some (.arg (.tup h)), some (.arg (.str w)), some (.arg (szs s0 s1 s2)), some (.own rows), e, none, none, none, none] ∧ rows.length = j ∧ ∀ t ∈ rows, okTm 100 (inB s0 s1) t) _ 0 _ ⟨[], none, rfl, rfl, fun t ht => by cases ht⟩ ?_
    rintro j d ρ hd ⟨rows, e, rfl, hrl, hrows⟩
    obtain ⟨rfl, hj⟩ := rangeD_some hd
    have hj' : j < h.length := by omega
    have hhj : h[j]? = some h[j] := List.getElem?_eq_getElem hj'
    obtain ⟨a, vs, et, hvl, hvs⟩ := hh h[j] (List.getElem_mem _)
    obtain ⟨v, hv1, hv2⟩ := r_next (keep := keep) C (n := n) (s0 := s0) (s1 := s1) (s2 := s2) hw (k := (j : Int)) (by omega)
    have okn : okTm 100 (inB s0 s1) (.tup [.int a, .tup (vs ++ [v])]) := ⟨a, vs ++ [v], rfl, by simp; omega, fun x hx => by
      rcases List.mem_append.mp hx with q | q
      · exact hvs x q
      · rw [List.mem_singleton.mp q]; exact hv2⟩
    have hlim : vs.length + 1 ≤ lim := by rw [lim_n]; omega
    have hlim2 : rows.length < lim := by rw [lim_n]; omega
    refine ⟨_, .inl ?_, rows ++ [.tup [.int a, .tup (vs ++ [v])]], some (.dat (.int j)), rfl, by simp [hrl], fun t ht => ?_⟩
    · simp [B_l_chained_1, hhj, et, hv1, appR, hlim, hlim2, okn.pure]
    · rcases List.mem_append.mp ht with q | q
      · exact hrows t q
      · rw [List.mem_singleton.mp q]; exact okn
  obtain ⟨ρ1, l1, rows, e, hρ, hrl, hrows⟩ := lp
  refine ⟨rows, ?_, by rw [hrl, rangeD_len]; simp, hrows⟩
  unfold F_l_chained
  simp only [exs_cons, ex_ownD, evs_nil, ownR_some]
  rw [if_pos (show D.pures [] = true from rfl), seqR_next]
  simp only [List.set_cons_succ, List.set_cons_zero]
  rw [exs_cons, ex_for_range (m := (h.length : Int)) (by simp) (by omega) (by omega)]
  rw [l1, hρ]
  simp
end

structure HeapOk (b : Bd) (y o r : List D) : Prop where
  yl : y.length ≤ 70
  ol : o.length ≤ 70
  rl : r.length ≤ 71
  ty : ∀ t ∈ y, okTm 100 b t
  to : ∀ t ∈ o, okTm 100 b t
  vr : ∀ v ∈ r, okV b v
theorem okTm.le {m m' : Nat} {b : Bd} {t : D} (h : okTm m b t) (hm : m ≤ m') : okTm m' b t := by
  obtain ⟨a, vs, e, l, v⟩ := h; exact ⟨a, vs, e, by omega, v⟩
theorem okV.le {b b' : Bd} {v : D} (h : okV b v) (hb : ∀ s i, b s i → b' s i) : okV b' v := by
  rcases h with h | h | ⟨s, i, h1, h2, h3⟩
  · exact .inl h
  · exact .inr (.inl h)
  · exact .inr (.inr ⟨s, i, h1, hb _ _ h2, h3⟩)
theorem okTm.leB {m : Nat} {b b' : Bd} {t : D} (h : okTm m b t) (hb : ∀ s i, b s i → b' s i) : okTm m b' t := by
  obtain ⟨a, vs, e, l, v⟩ := h; exact ⟨a, vs, e, l, fun x hx => (v x hx).le hb⟩

section
variable {keep : Bool} {P : Prg} (C : Common P) {n : Nat} {xs : List Int} {k : Int}
theorem rho_heap_by (a : D) : rho0 F_l_heap_by.names F_l_heap_by.ps [a] = [some (.arg a), none, none, none, none, none, none, none, none, none, none] := by kernel_rfl

include C in
theorem comp_things {s0 s1 s2 : Int} (Z : Sz s0 s1 s2) {el : E} {ρ : Rho} {m off : Int} {it : E} (hm : 0 ≤ m ∧ m ≤ 70) (hoff : 0 ≤ off) (hit : ev (run keep P (n + 3)) ρ it = some (.int m))
    (hel : ∀ j : Nat, ev (run keep P (n + 3)) (ρ ++ [some (.dat (.int j))]) el = okR (run keep P (n + 3) 3 [scr xs, .int (off + 100 * j), szs s0 s1 s2])) :
    ∃ res, ev (run keep P (n + 3)) ρ (.comp el (.range it) (.k (.bool true))) = some (.lst res) ∧ res.length = m.toNat ∧ ∀ t ∈ res, okTm 99 (inB s0 s1) t := by
  obtain ⟨res, e1, e2, e3⟩ := comp_all (c := fun d => (ev (run keep P (n + 3)) (ρ ++ [some (.dat d)]) (.k (.bool true))).bind isTrueD) (f := fun d => ev (run keep P (n + 3)) (ρ ++ [some (.dat d)]) el) (fun _ v => okTm 99 (inB s0 s1) v) (rangeD 0 m) (fun d hd => by
    obtain ⟨j, rfl, hj⟩ := rangeD_mem hd
    refine ⟨by simp [isTrueD], ?_⟩
    obtain ⟨v, hv1, hv2⟩ := r_thing_by (keep := keep) C (n := n) (xs := xs) (k := off + 100 * j) Z (by omega)
    exact ⟨v, by rw [hel, hv1]; rfl, hv2⟩)
  have hok : ∀ v ∈ res, okTm 99 (inB s0 s1) v := fun v hv => (e3 v hv).elim fun _ q => q.2
  exact ⟨res, ev_comp (evIt_range hit (by omega) (by omega)) e1 (okTs.pures hok), by rw [e2, rangeD_len], hok⟩
include C in
theorem comp_values {s0 s1 s2 : Int} (Z : Sz s0 s1 s2) {el : E} {ρ : Rho} {m off : Int} {it : E} (hm : 0 ≤ m ∧ m ≤ 70) (hoff : 0 ≤ off) (hit : ev (run keep P (n + 2)) ρ it = some (.int m))
    (hel : ∀ j : Nat, ev (run keep P (n + 2)) (ρ ++ [some (.dat (.int j))]) el = okR (run keep P (n + 2) 2 [scr xs, .int (off + j), szs s0 s1 s2])) :
    ∃ res, ev (run keep P (n + 2)) ρ (.comp el (.range it) (.k (.bool true))) = some (.lst res) ∧ res.length = m.toNat ∧ ∀ t ∈ res, okV (inB s0 s1) t := by
  obtain ⟨res, e1, e2, e3⟩ := comp_all (c := fun d => (ev (run keep P (n + 2)) (ρ ++ [some (.dat d)]) (.k (.bool true))).bind isTrueD) (f := fun d => ev (run keep P (n + 2)) (ρ ++ [some (.dat d)]) el) (fun _ v => okV (inB s0 s1) v) (rangeD 0 m) (fun d hd => by
    obtain ⟨j, rfl, hj⟩ := rangeD_mem hd
    refine ⟨by simp [isTrueD], ?_⟩
    obtain ⟨v, hv1, hv2⟩ := r_value_by (keep := keep) C (n := n) (xs := xs) (k := off + j) Z (by omega)
    exact ⟨v, by rw [hel, hv1]; rfl, hv2⟩)
  have hok : ∀ v ∈ res, okV (inB s0 s1) v := fun v hv => (e3 v hv).elim fun _ q => q.2
  exact ⟨res, ev_comp (evIt_range hit (by omega) (by omega)) e1 (okVs.pures hok), by rw [e2, rangeD_len], hok⟩

include C in
theorem r_heap_by : ∃ y o r, run keep P (n + 4) 7 [scr xs] = some (.ok (.tup [.tup y, .tup o, .tup r, .tup (bookOf o)])) ∧ HeapOk (inB y.length o.length) y o r := by
  rw [run_at C.c7, fnRun_eq rfl, rho_heap_by]
  have c0 := r_cell_at (keep := keep) C (n := n + 2) (xs := xs) (k := 0) (by omega)
  have c1 := r_cell_at (keep := keep) C (n := n + 2) (xs := xs) (k := 1) (by omega)
  have c2 := r_cell_at (keep := keep) C (n := n + 2) (xs := xs) (k := 2) (by omega)
  have lp : ∃ ρ', loopO (fun d ρ => exs (run keep P (n + 3)) (ρ.set 2 (some (.dat d))) B_l_heap_by_1) (rangeD 0 3) [some (.arg (scr xs)), some (.own [.int (cellAt xs 0 % 6), .int (cellAt xs 1 % 6), .int (cellAt xs 2 % 5)]), none, none, none, none, none, none, none, none, none] = some (.next ρ') ∧
      ∃ s0 s1 s2 e, ρ' = [some (.arg (scr xs)), some (.own [.int s0, .int s1, .int s2]), e, none, none, none, none, none, none, none, none] ∧ Sz s0 s1 s2 := by
    refine loop_inv (fun j ρ => ∃ s0 s1 s2 e, ρ = [some (.arg (scr xs)), some (.own [.int s0, .int s1, .int s2]), e, none, none, none, none, none, none, none, none] ∧ Sz s0 s1 s2) _ 0 _ ⟨_, _, _, _, rfl, ⟨by omega, by omega, by omega, by omega, by omega, by omega⟩⟩ ?_
    rintro j d ρ hd ⟨s0, s1, s2, e, rfl, Z⟩
    obtain ⟨rfl, hj⟩ := rangeD_some hd
    have cj := r_cell_at (keep := keep) C (n := n + 2) (xs := xs) (k := (j : Int)) (by omega)
    by_cases h : cellAt xs j / 6 % 6 = 1
    · have hr : 0 ≤ cellAt xs j * 48271 % 2147483647 % 71 ∧ cellAt xs j * 48271 % 2147483647 % 71 ≤ 70 := by omega
      have hj3 : j = 0 ∨ j = 1 ∨ j = 2 := by omega
      rcases hj3 with rfl | rfl | rfl
      · exact ⟨_, .inl (by simp [B_l_heap_by_1] at cj h ⊢; simp [cj, h, setR]; rfl), _, s1, s2, _, rfl, ⟨hr.1, hr.2, Z.b0, Z.b1, Z.c0, Z.c1⟩⟩
      · exact ⟨_, .inl (by simp [B_l_heap_by_1] at cj h ⊢; simp [cj, h, setR]; rfl), s0, _, s2, _, rfl, ⟨Z.a0, Z.a1, hr.1, hr.2, Z.c0, Z.c1⟩⟩
      · exact ⟨_, .inl (by simp [B_l_heap_by_1] at cj h ⊢; simp [cj, h, setR]; rfl), s0, s1, _, _, rfl, ⟨Z.a0, Z.a1, Z.b0, Z.b1, hr.1, hr.2⟩⟩
    · exact ⟨_, .inl (by simp [B_l_heap_by_1, cj, h]), s0, s1, s2, some (.dat (.int j)), rfl, Z⟩
  obtain ⟨ρ1, l1, s0, s1, s2, e, hρ, Z⟩ := lp
  subst hρ
  obtain ⟨y, y1, y2, y3⟩ := comp_things (keep := keep) C (n := n) (xs := xs) Z (el := C_l_heap_by_2) (ρ := [some (.arg (scr xs)), some (.own [.int s0, .int s1, .int s2]), e, none, none, none, none, none, none, none, none]) (m := s0) (off := 0) (it := .idx (.v 1) (.k (.int 0))) ⟨Z.a0, Z.a1⟩ (by omega) (by simp) (by intro j; simp [C_l_heap_by_2, szs])
  obtain ⟨o, o1, o2, o3⟩ := comp_things (keep := keep) C (n := n) (xs := xs) Z (el := C_l_heap_by_3) (ρ := [some (.arg (scr xs)), some (.own [.int s0, .int s1, .int s2]), e, some (.dat (.tup y)), none, none, none, none, none, none, none]) (m := s1) (off := 10000) (it := .idx (.v 1) (.k (.int 1))) ⟨Z.b0, Z.b1⟩ (by omega) (by simp) (by intro j; simp [C_l_heap_by_3, szs])
  obtain ⟨r, r1, r2, r3⟩ := comp_values (keep := keep) C (n := n + 1) (xs := xs) Z (el := C_l_heap_by_4) (ρ := [some (.arg (scr xs)), some (.own [.int s0, .int s1, .int s2]), e, some (.dat (.tup y)), some (.dat (.tup o)), none, none, none, none, none, none]) (m := s2) (off := 20000) (it := .idx (.v 1) (.k (.int 2))) ⟨Z.c0, Z.c1⟩ (by omega) (by simp) (by intro j; simp [C_l_heap_by_4, szs])
  have yl : (y.length : Int) = s0 := by rw [y2]; exact Int.toNat_of_nonneg Z.a0
  have ol : (o.length : Int) = s1 := by rw [o2]; exact Int.toNat_of_nonneg Z.b0
  have rl : (r.length : Int) = s2 := by rw [r2]; exact Int.toNat_of_nonneg Z.c0
  have a0 := Z.a1; have b0 := Z.b1; have d0 := Z.c1
  have yp := okTs.tup y3
  have op := okTs.tup o3
  have rp := okVs.tup r3
  have start : ∀ b : Ss, exs (run keep P (n + 3)) [some (.arg (scr xs)), none, none, none, none, none, none, none, none, none, none] (.cons (.ownD 1 (.cons (.bin .mod (.call 0 (.cons (.v 0) (.cons (.k (.int (0))) .nil))) (.k (.int (6)))) (.cons (.bin .mod (.call 0 (.cons (.v 0) (.cons (.k (.int (1))) .nil))) (.k (.int (6)))) (.cons (.bin .mod (.call 0 (.cons (.v 0) (.cons (.k (.int (2))) .nil))) (.k (.int (5)))) .nil)))) (.cons (.for1 2 (.range (.k (.int 3))) B_l_heap_by_1) b)) =
      exs (run keep P (n + 3)) [some (.arg (scr xs)), some (.own [.int s0, .int s1, .int s2]), e, none, none, none, none, none, none, none, none] b := by
    intro b
    rw [exs_cons]
    simp only [ex_ownD, evs_cons, evs_nil, ev_bin, ev_call, ev_v, ev_k, get_0, Option.map_some, valq_a, k_some, Option.bind_some, c0, c1, c2, okR_ok, b_mod]
    simp only [Int.reduceLT, if_true, k_some, ownR_some]
    rw [if_pos (show D.pures [D.int _, D.int _, D.int _] = true from rfl), seqR_next]
    simp only [List.set_cons_succ, List.set_cons_zero]
    rw [exs_cons, ex_for_range (m := 3) (by simp) (by omega) (by omega), l1, seqR_next]
  have book : ∀ o' : List D, (∀ t ∈ o', okTm 100 (inB s0 s1) t) → o'.length ≤ 70 → run keep P (n + 3) 4 [.tup o'] = some (.ok (.tup (bookOf o'))) := fun o' h1 h2 => r_lbook_of (keep := keep) C (n := n + 2) (b := inB s0 s1) (fun t ht => (h1 t ht).le (by omega)) (by omega)
  have hcond : ev (run keep P (n + 3)) [some (.arg (scr xs)), some (.own [.int s0, .int s1, .int s2]), e, some (.dat (.tup y)), some (.dat (.tup o)), some (.dat (.tup r)), none, none, none, none, none] (.or (.cmp .eq (.bin .mod (.bin .div (.call 0 (.cons (.v 0) (.cons (.k (.int (2))) .nil))) (.k (.int (2556)))) (.k (.int (8)))) (.k (.int (1)))) (.cmp .eq (.bin .mod (.call 0 (.cons (.v 0) (.cons (.k (.int (2))) .nil))) (.k (.int (11)))) (.k (.int (3))))) =
      some (.bool (decide (cellAt xs 2 / 2556 % 8 = 1 ∨ cellAt xs 2 % 11 = 3))) := by
    by_cases h1 : cellAt xs 2 / 2556 % 8 = 1 <;> by_cases h2 : cellAt xs 2 % 11 = 3 <;> simp [c2, h1, h2]
  unfold F_l_heap_by
  rw [start]
  rw [exs_cons, ex_asg, ev_toTup, y1, t_lst, asgR_some, if_pos yp, seqR_next]
  simp only [List.set_cons_succ, List.set_cons_zero]
  rw [exs_cons, ex_asg, ev_toTup, o1, t_lst, asgR_some, if_pos op, seqR_next]
  simp only [List.set_cons_succ, List.set_cons_zero]
  rw [exs_cons, ex_asg, ev_toTup, r1, t_lst, asgR_some, if_pos rp, seqR_next]
  simp only [List.set_cons_succ, List.set_cons_zero]
  rw [exs_cons, ex_iff, hcond, ifS_bool]
  by_cases hc : cellAt xs 2 / 2556 % 8 = 1 ∨ cellAt xs 2 % 11 = 3
  · rw [if_pos (by simpa using hc)]
    obtain ⟨y', e1, e2, e3⟩ := r_chained (keep := keep) C (n := n + 1) (s0 := s0) (s1 := s1) (s2 := s2) (w := wY) (.inl rfl) y3 (by omega)
    obtain ⟨o', f1, f2, f3⟩ := r_chained (keep := keep) C (n := n + 1) (s0 := s0) (s1 := s1) (s2 := s2) (w := wO) (.inr rfl) o3 (by omega)
    have e1' : run keep P (n + 3) 6 [.tup y, .str (Str.ofString "young"), .lst [.int s0, .int s1, .int s2]] = some (.ok (.tup y')) := e1
    have f1' : run keep P (n + 3) 6 [.tup o, .str (Str.ofString "old"), .lst [.int s0, .int s1, .int s2]] = some (.ok (.tup o')) := f1
    have yp' := okTs.tup e3
    have op' := okTs.tup f3
    have bk := book o' f3 (by omega)
    by_cases hs : 0 < s0
    · have hr : ∀ v ∈ D.tup [.str wY, .int 0] :: r.drop 1, okV (inB s0 s1) v := fun v hv => by
        rcases List.mem_cons.mp hv with rfl | hv
        · exact .inr (.inr ⟨wY, 0, .inl rfl, ⟨by omega, by rw [if_pos rfl]; exact hs⟩, rfl⟩)
        · exact r3 v (List.mem_of_mem_drop hv)
      have hrp : D.pure (.tup (D.tup [.str (Str.ofString "young"), .int 0] :: r.drop 1)) = true := okVs.tup hr
      have hlim : 1 + (r.length - 1) ≤ lim := by rw [lim_n]; omega
      refine ⟨y', o', D.tup [.str wY, .int 0] :: r.drop 1, ?_, ⟨by omega, by omega, by simp; omega, fun t ht => ?_, fun t ht => ?_, fun t ht => ?_⟩⟩
      · rw [List.drop_one] at hrp
        simp [e1', f1', yp', op', hs, bk, hrp, hlim]
      · rw [e2, f2, yl, ol]; exact e3 t ht
      · rw [e2, f2, yl, ol]; exact f3 t ht
      · rw [e2, f2, yl, ol]; exact hr t ht
    · refine ⟨y', o', r, ?_, ⟨by omega, by omega, by omega, fun t ht => ?_, fun t ht => ?_, fun t ht => ?_⟩⟩
      · simp [e1', f1', yp', op', hs, bk]
      · rw [e2, f2, yl, ol]; exact e3 t ht
      · rw [e2, f2, yl, ol]; exact f3 t ht
      · rw [e2, f2, yl, ol]; exact r3 t ht
  · rw [if_neg (by simpa using hc)]
    have bk := book o (fun t ht => (o3 t ht).le (by omega)) (by omega)
    refine ⟨y, o, r, ?_, ⟨by omega, by omega, by omega, fun t ht => ?_, fun t ht => ?_, fun t ht => ?_⟩⟩
    · simp [bk]
    · rw [yl, ol]; exact (y3 t ht).le (by omega)
    · rw [yl, ol]; exact (o3 t ht).le (by omega)
    · rw [yl, ol]; exact r3 t ht
end
end Mine

namespace Mine
open PySem

noncomputable def heapD (y o r bk : List D) : D := .tup [.tup y, .tup o, .tup r, .tup bk]
noncomputable def bT : Bd := fun _ _ => True
noncomputable def halfOf (y o : List D) (s : Str) : List D := if s == wY then y else o
/-- does a pointer lead -/
noncomputable def lead (y o : List D) : D → Bool
  | .tup [.str s, .int i] => decide (0 ≤ i) && decide (i < (halfOf y o s).length)
  | _ => true
noncomputable def isPtr : D → Bool
  | .tup _ => true
  | _ => false

theorem okV.ptr {b : Bd} {v : D} (h : okV b v) : (isPtr v = false ∧ (v = .none ∨ ∃ i, v = .int i)) ∨ ∃ s i, (s = wY ∨ s = wO) ∧ b s i ∧ v = .tup [.str s, .int i] := by
  rcases h with rfl | ⟨i, rfl⟩ | h
  · exact .inl ⟨rfl, .inl rfl⟩
  · exact .inl ⟨rfl, .inr ⟨i, rfl⟩⟩
  · exact .inr h

section
variable {keep : Bool} {P : Prg} (C : Common P) {n : Nat}

theorem rho_is_pointer (a : D) : rho0 F_is_pointer.names F_is_pointer.ps [a] = [some (.arg a), none, none] := by kernel_rfl
include C in
theorem r_is_pointer (v : D) : run keep P (n + 1) 8 [v] = some (.ok (.bool (evIsi .tuple v))) := by
  rw [run_at C.c8, fnRun_eq rfl, rho_is_pointer]
  simp [F_is_pointer]
theorem isi_ptr (v : D) : evIsi .tuple v = isPtr v := by cases v <;> rfl

theorem rho_half_of (a b : D) : rho0 F_half_of.names F_half_of.ps [a, b] = [some (.arg a), some (.arg b)] := by kernel_rfl
include C in
theorem r_half_of {y o r bk : List D} {s : Str} {q : List D} : run keep P (n + 1) 9 [heapD y o r bk, .tup (.str s :: q)] = some (.ok (.tup (halfOf y o s))) := by
  rw [run_at C.c9, fnRun_eq rfl, rho_half_of]
  by_cases h : (s == wY) = true <;> simp [F_half_of, heapD, halfOf, h]

theorem rho_leads (a b : D) : rho0 F_leads.names F_leads.ps [a, b] = [some (.arg a), some (.arg b), none, none] := by kernel_rfl
include C in
theorem r_leads {y o r bk : List D} {s : Str} {i : Int} : run keep P (n + 2) 10 [heapD y o r bk, .tup [.str s, .int i]] = some (.ok (.bool (lead y o (.tup [.str s, .int i])))) := by
  rw [run_at C.c10, fnRun_eq rfl, rho_leads]
  have h := r_half_of (keep := keep) C (n := n) (y := y) (o := o) (r := r) (bk := bk) (s := s) (q := [.int i])
  by_cases h0 : 0 ≤ i <;> simp [F_leads, h, lead, h0]

end
end Mine

namespace Mine
open PySem
noncomputable def F_thing_at : Fn := ⟨[(Str.ofString "heap"), (Str.ofString "pointer")], [((Str.ofString "heap"), .local), ((Str.ofString "pointer"), .local), ((Str.ofString "is_pointer"), .globalImplicit), ((Str.ofString "leads"), .globalImplicit), ((Str.ofString "NoThing"), .globalImplicit), ((Str.ofString "half_of"), .globalImplicit)],
 (.cons (.iff (.or (.not (.call 8 (.cons (.v 1) .nil))) (.not (.call 10 (.cons (.v 0) (.cons (.v 1) .nil)))))
 (.cons (.rais 0)
 .nil)
 .nil)
 (.cons (.ret (.idx (.call 9 (.cons (.v 0) (.cons (.v 1) .nil))) (.idx (.v 1) (.k (.int (1))))))
 .nil)), none⟩

noncomputable def N_shape9 : List (Str × NameKind) := [((Str.ofString "heap"), .local), ((Str.ofString "namer"), .local), ((Str.ofString "roots"), .local), ((Str.ofString "things"), .local), ((Str.ofString "at"), .local), ((Str.ofString "Namer"), .globalImplicit), ((Str.ofString "len"), .globalImplicit), ((Str.ofString "thing_at"), .globalImplicit), ((Str.ofString "tuple"), .globalImplicit)]

noncomputable def F_l_whole : Fn := ⟨[(Str.ofString "_law_found")], [((Str.ofString "_law_found"), .local), ((Str.ofString "isinstance"), .globalImplicit), ((Str.ofString "int"), .globalImplicit), ((Str.ofString "bool"), .globalImplicit)],
 (.cons (.ret (.and (.isi (.v 0) .int) (.not (.isi (.v 0) .bool))))
 .nil), none⟩

noncomputable def F_l_alike : Fn := ⟨[(Str.ofString "_law_found"), (Str.ofString "_law_due")], [((Str.ofString "_law_found"), .local), ((Str.ofString "_law_due"), .local), ((Str.ofString "isinstance"), .globalImplicit), ((Str.ofString "tuple"), .globalImplicit), ((Str.ofString "_law_whole"), .globalImplicit), ((Str.ofString "len"), .globalImplicit), ((Str.ofString "str"), .globalImplicit)],
 (.cons (.iff (.cmp .is (.v 1) (.k .none))
 (.cons (.ret (.cmp .is (.v 0) (.k .none)))
 .nil)
 .nil)
 (.cons (.iff (.not (.isi (.v 1) .tuple))
 (.cons (.ret (.and (.call 13 (.cons (.v 0) .nil)) (.cmp .eq (.v 0) (.v 1))))
 .nil)
 .nil)
 (.cons (.iff (.or (.not (.isi (.v 0) .tuple)) (.or (.cmp .ne (.len (.v 0)) (.k (.int (2)))) (.not (.isi (.idx (.v 0) (.k (.int (0)))) .str))))
 (.cons (.ret (.k (.bool false)))
 .nil)
 .nil)
 (.cons (.ret (.and (.call 13 (.cons (.idx (.v 0) (.k (.int (1)))) .nil)) (.cmp .eq (.v 0) (.v 1))))
 .nil)))), none⟩

noncomputable def B_l_row_alike_1 : Ss :=
 (.cons (.iff (.not (.call 14 (.cons (.idx (.v 0) (.v 2)) (.cons (.idx (.v 1) (.v 2)) .nil))))
 (.cons (.ret (.k (.bool false)))
 .nil)
 .nil)
 .nil)
noncomputable def F_l_row_alike : Fn := ⟨[(Str.ofString "_law_found"), (Str.ofString "_law_due")], [((Str.ofString "_law_found"), .local), ((Str.ofString "_law_due"), .local), ((Str.ofString "_law_k"), .local), ((Str.ofString "isinstance"), .globalImplicit), ((Str.ofString "tuple"), .globalImplicit), ((Str.ofString "len"), .globalImplicit), ((Str.ofString "range"), .globalImplicit), ((Str.ofString "_law_alike"), .globalImplicit)],
 (.cons (.iff (.or (.not (.isi (.v 0) .tuple)) (.cmp .ne (.len (.v 0)) (.len (.v 1))))
 (.cons (.ret (.k (.bool false)))
 .nil)
 .nil)
 (.cons (.for1 2 (.range (.len (.v 1))) B_l_row_alike_1)
 (.cons (.ret (.k (.bool true)))
 .nil))), none⟩

noncomputable def F_l_fields : Fn := ⟨[(Str.ofString "_law_heap"), (Str.ofString "_law_pointer")], [((Str.ofString "_law_heap"), .local), ((Str.ofString "_law_pointer"), .local)],
 (.cons (.iff (.cmp .eq (.idx (.v 1) (.k (.int (0)))) (.k (.str (Str.ofString "young"))))
 (.cons (.ret (.idx (.idx (.idx (.v 0) (.k (.int (0)))) (.idx (.v 1) (.k (.int (1))))) (.k (.int (1)))))
 .nil)
 .nil)
 (.cons (.ret (.idx (.idx (.idx (.v 0) (.k (.int (1)))) (.idx (.v 1) (.k (.int (1))))) (.k (.int (1)))))
 .nil)), none⟩

noncomputable def C_l_heap_asked_1 : E :=
 (.tup (.cons (.k (.int (0))) (.cons (.tup (.cons (.tup (.cons (.k (.str (Str.ofString "young"))) (.cons (.bin .add (.v 7) (.k (.int (1)))) .nil))) .nil)) .nil)))
noncomputable def F_l_heap_asked : Fn := ⟨[(Str.ofString "_law_script")], [((Str.ofString "_law_script"), .local), ((Str.ofString "_law_many"), .local), ((Str.ofString "_law_young"), .local), ((Str.ofString "_law_cell_at"), .globalImplicit), ((Str.ofString "_law_heap_by"), .globalImplicit), ((Str.ofString "tuple"), .globalImplicit), ((Str.ofString "range"), .globalImplicit)],
 (.cons (.iff (.cmp .ne (.bin .mod (.call 0 (.cons (.v 0) (.cons (.k (.int (3))) .nil))) (.k (.int (32)))) (.k (.int (23))))
 (.cons (.ret (.call 7 (.cons (.v 0) .nil)))
 .nil)
 .nil)
 (.cons (.asg 1 (.bin .add (.k (.int (1000))) (.bin .mod (.call 0 (.cons (.v 0) (.cons (.k (.int (4))) .nil))) (.k (.int (200))))))
 (.cons (.asg 2 (.toTup (.bin .add (.comp C_l_heap_asked_1 (.range (.bin .sub (.v 1) (.k (.int (1))))) (.k (.bool true))) (.lst (.cons (.tup (.cons (.k (.int (0))) (.cons (.tup (.cons (.k .none) .nil)) .nil))) .nil)))))
 (.cons (.ret (.tup (.cons (.v 2) (.cons (.tup .nil) (.cons (.tup (.cons (.k .none) (.cons (.tup (.cons (.k (.str (Str.ofString "young"))) (.cons (.k (.int (0))) .nil))) .nil))) (.cons (.tup .nil) .nil))))))
 .nil)))), none⟩

noncomputable def B_law9_1 : Ss :=
 (.cons (.iff (.and (.isi (.v 8) .tuple) (.inD true (.v 8) 2))
 (.cons (.setd 2 (.v 8) (.len (.v 3)))
 (.cons (.app 3 (.v 8))
 .nil))
 .nil)
 (.cons (.iff (.isi (.v 8) .tuple)
 (.cons (.asg 8 (.tup (.cons (.k (.str (Str.ofString "thing"))) (.cons (.get 2 (.v 8)) .nil))))
 .nil)
 .nil)
 (.cons (.app 7 (.v 8))
 .nil)))
noncomputable def B_law9_2 : Ss :=
 (.cons (.asg 6 (.idx (.v 1) (.k (.int (2)))))
 (.cons (.iff (.cmp .ge (.v 5) (.k (.int (0))))
 (.cons (.callS (.var 6) 16 (.cons (.v 1) (.cons (.idx (.v 3) (.v 5)) .nil)))
 .nil)
 .nil)
 (.cons (.ownD 7 .nil)
 (.cons (.forV 8 6 B_law9_1)
 (.cons (.app 4 (.toTup (.v 7)))
 (.cons (.asg 5 (.bin .add (.v 5) (.k (.int (1)))))
 .nil))))))
noncomputable def B_law9_3 : Ss :=
 (.cons (.iff (.not (.call 15 (.cons (.idx (.idx (.v 9) (.k (.int (1)))) (.bin .sub (.v 10) (.k (.int (1))))) (.cons (.idx (.v 4) (.v 10)) .nil))))
 (.cons (.ret (.k (.bool false)))
 .nil)
 .nil)
 .nil)
noncomputable def F_law9 : Fn := ⟨[(Str.ofString "_law_script")], [((Str.ofString "_law_script"), .local), ((Str.ofString "_law_heap"), .local), ((Str.ofString "_law_numbers"), .local), ((Str.ofString "_law_todo"), .local), ((Str.ofString "_law_rows"), .local), ((Str.ofString "_law_at"), .local), ((Str.ofString "_law_row"), .local), ((Str.ofString "_law_told"), .local), ((Str.ofString "_law_value"), .local), ((Str.ofString "_law_found"), .local), ((Str.ofString "_law_k"), .local), ((Str.ofString "_law_heap_asked"), .globalImplicit), ((Str.ofString "len"), .globalImplicit), ((Str.ofString "_law_fields"), .globalImplicit), ((Str.ofString "isinstance"), .globalImplicit), ((Str.ofString "tuple"), .globalImplicit), ((Str.ofString "shape"), .globalImplicit), ((Str.ofString "_law_row_alike"), .globalImplicit), ((Str.ofString "range"), .globalImplicit)],
 (.cons (.callS (.var 1) 17 (.cons (.v 0) .nil))
 (.cons (.newD 2)
 (.cons (.ownD 3 .nil)
 (.cons (.ownD 4 .nil)
 (.cons (.asg 5 (.neg (.k (.int (1)))))
 (.cons (.whl (.cmp .lt (.v 5) (.len (.v 3))) B_law9_2)
 (.cons (.callS (.var 9) 12 (.cons (.v 1) .nil))
 (.cons (.iff (.or (.not (.isi (.v 9) .tuple)) (.or (.cmp .ne (.len (.v 9)) (.k (.int (2)))) (.not (.call 15 (.cons (.idx (.v 9) (.k (.int (0)))) (.cons (.idx (.v 4) (.k (.int (0)))) .nil))))))
 (.cons (.ret (.k (.bool false)))
 .nil)
 .nil)
 (.cons (.iff (.or (.not (.isi (.idx (.v 9) (.k (.int (1)))) .tuple)) (.cmp .ne (.len (.idx (.v 9) (.k (.int (1))))) (.bin .sub (.len (.v 4)) (.k (.int (1))))))
 (.cons (.ret (.k (.bool false)))
 .nil)
 .nil)
 (.cons (.for1 10 (.range2 (.k (.int (1))) (.len (.v 4))) B_law9_3)
 (.cons (.ret (.k (.bool true)))
 .nil))))))))))), none⟩

/-- shape, given whole -/
noncomputable def shapeX : Nat → Fns → List D → Option Out := fun n Φ ds => if 4 ≤ n then (one ds).bind fun H => (shapeD Φ H).map .ok else none
noncomputable def F_shape9 : Fn := ⟨[Str.ofString "heap"], N_shape9, .nil, some shapeX⟩
noncomputable def fns09 : List Str := ["_law_cell_at", "_law_mixed", "_law_value_by", "_law_thing_by", "_law_book_of", "_law_next", "_law_chained", "_law_heap_by", "is_pointer", "half_of", "leads", "thing_at", "shape", "_law_whole", "_law_alike", "_law_row_alike", "_law_fields", "_law_heap_asked", "law"]
noncomputable def P09 : Prg := [F_l_cell_at, F_l_mixed, F_l_value_by, F_l_thing_by, F_l_book_of, F_l_next, F_l_chained, F_l_heap_by, F_is_pointer, F_half_of, F_leads, F_thing_at, F_shape9, F_l_whole, F_l_alike, F_l_row_alike, F_l_fields, F_l_heap_asked, F_law9]
theorem com09 : Common P09 := ⟨rfl, rfl, rfl, rfl, rfl, rfl, rfl, rfl, rfl, rfl, rfl⟩
end Mine

namespace Mine
open PySem PySem.Calls PyProof.Rows PySem.SeqAt

/-! where words stand -/
noncomputable def plE : Nat → Expr → List Pos
  | 0, _ => []
  | n + 1, e => match e with
    | .Name _ p => [p]
    | .Attribute o _ p => plE n o ++ [p]
    | .Call f as _ p => plE n f ++ as.flatMap (plE n) ++ [p]
    | .Compare l _ rs p => plE n l ++ rs.flatMap (plE n) ++ [p]
    | .Subscript v i p => plE n v ++ plE n i ++ [p]
    | .Constant _ _ p => [p]
    | .Tuple es _ p => es.flatMap (plE n) ++ [p]
    | .Dict _ _ p => [p]
    | .List _ p => [p]
    | .ListComp elt gens _ p => plE n elt ++ gens.flatMap (fun g => plE n g.target ++ plE n g.iter) ++ [p]
    | _ => []
noncomputable def plS : Nat → Stmt → List Pos
  | 0, _ => []
  | n + 1, s => match s with
    | .If t a _ p => plE 9 t ++ a.flatMap (plS n) ++ [p]
    | .Assign ts v p => ts.flatMap (plE 9) ++ plE 9 v ++ [p]
    | .Expr v p => plE 9 v ++ [p]
    | .Return e p => (e.map (plE 9)).getD [] ++ [p]
    | .While t a _ p => plE 9 t ++ (a.take 1).flatMap (plS n) ++ [p]
    | _ => []
noncomputable def posAt (l : List Pos) (i : Nat) : Pos := (l[i]?).getD ⟨0, 0, 0, 0⟩
noncomputable def posF (b : List Stmt) : Nat → Pos := posAt (b.flatMap (plS 9))
noncomputable def stAt (b : List Stmt) (i : Nat) : Stmt := (b[i]?).getD (.Pass ⟨0, 0, 0, 0⟩)
noncomputable def whileAt : Stmt → List Stmt
  | .While _ a _ _ => a
  | _ => []
noncomputable def compScope : Stmt → Scope
  | .Return (some (.Call _ [.ListComp _ _ sc _] _ _)) _ => sc
  | _ => ⟨.function, [], false, false, []⟩
noncomputable def posSh (b : List Stmt) : Nat → Pos := posF [stAt b 0, stAt b 1, stAt b 4]

noncomputable def methCheck (m : MethRec) (ps : List Str) : Bool :=
  m.params.posonlyargs.isEmpty && m.params.kwonlyargs.isEmpty && m.params.vararg.isNone && m.params.kwarg.isNone && !m.scope.isCoroutine && !m.scope.isGenerator && m.scope.kind == .function &&
  decide ((m.params.args.map (·.arg)).Nodup) && (m.params.args.map (·.arg)).all (fun x => m.scope.names.lookup x == some .local || m.scope.names.lookup x == some .cell) && (m.params.args.map (·.arg)) == ps

section
variable {prog : Program} {w : World} {base : Heap} {fns : List Str} {mg mb : Str → Option Value} {C N : Addr} {mN : Str → Option Value}
theorem meth_at {c : ClsRec} {m : MethRec} {ps : List Str} (P : PlainAt base c C N mN) (hm : m ∈ c.meths) (hc : methCheck m ps = true) : ∃ f o fd, mN m.name = some (.ref f) ∧ o.cls = .type "function" ∧ FnAt base f ps m.body m.scope o fd := by
  obtain ⟨f, o, pm, cd, doc, h1, h2, h3, h4, h5⟩ := P.meths m hm
  simp only [methCheck, Bool.and_eq_true, decide_eq_true_eq, Bool.not_eq_true', beq_iff_eq, List.isEmpty_iff, Option.isNone_iff_eq_none, List.all_eq_true, Bool.or_eq_true] at hc
  obtain ⟨⟨⟨⟨⟨⟨⟨⟨⟨c1, c2⟩, c3⟩, c4⟩, c5⟩, c6⟩, c7⟩, c8⟩, c9⟩, rfl⟩ := hc
  exact ⟨f, o, methDef m.name (c.name ++ "." ++ m.name) m.params m.body m.scope pm cd doc, h1, h3, h2, h4, h5, rfl, rfl, rfl, rfl, rfl, fun vals hl => binds_plain c1 c2 c3 c4 rfl (by simpa [methDef] using hl) c8, c5, c6, c7, c8, c9⟩

noncomputable abbrev X9 : Exts := [(Str.ofString "shape", shapeX)]
theorem X9_some {n : Str} {x : Nat → Fns → List D → Option Out} (h : X9.lookup n = some x) : n = "shape" ∧ x = shapeX := by
  rw [X9, List.lookup_cons] at h
  split at h
  · rename_i e
    exact ⟨beq_iff_eq.mp e, (Option.some.inj h).symm⟩
  · cases h
theorem shapeX_some {n : Nat} {Φ : Fns} {ds : List D} {o : Out} (h : shapeX n Φ ds = some o) : 4 ≤ n ∧ ∃ H d, ds = [H] ∧ shapeD Φ H = some d ∧ o = .ok d := by
  replace h := oi' h
  obtain ⟨h1, h⟩ := h
  replace h := ob h
  obtain ⟨H, h2, h⟩ := h
  replace h := om h
  obtain ⟨d, h3, rfl⟩ := h
  exact ⟨h1, H, d, one_some h2, h3, rfl⟩
theorem X9_noerr {P : Prg} : ∀ n x f ds c, X9.lookup n = some x → x f (run false P f) ds ≠ some (.err c) := by
  intro n x f ds c h e
  obtain ⟨_, rfl⟩ := X9_some h
  obtain ⟨_, H, d, _, _, q⟩ := shapeX_some e
  cases q

/-- what must be seen of the text -/
structure See9 (q : Program) (fns : List Str) (c : ClsRec) (mi mt mr : MethRec) (d : DefRec) : Prop where
  q1 : (["__getattribute__", "__getattr__", "__setattr__", nNum, nMet] : List Str).all (fun x => c.quiet.contains x) = true
  i1 : mi.name = "__init__"
  i2 : methCheck mi [nSelf] = true
  i3 : mi.body = initBody (posF mi.body)
  i4 : idxVar (scOf mi.scope) nSelf = some 0
  i5 : ∀ a, rhoL mi.scope.names [nSelf] [a] = [some a]
  t1 : mt.name = "told"
  t2 : methCheck mt [nSelf, nVal] = true
  t3 : mt.body = stAt mt.body 0 :: toldTail (posF (mt.body.drop 1))
  t4 : cS fns [] 40 (scOf mt.scope) (stAt mt.body 0) = some (.iff (.not (.call 8 (.cons (.v 1) .nil))) (.cons (.ret (.v 1)) .nil) .nil)
  t5 : idxVar (scOf mt.scope) nSelf = some 0
  t6 : idxVar (scOf mt.scope) nVal = some 1
  t7 : glob (scOf mt.scope) "len" = true
  t8 : ∀ a b, rhoL mt.scope.names [nSelf, nVal] [a, b] = [some a, some b, none, none]
  t9 : ((posF (mt.body.drop 1) 15).endLine == (posF (mt.body.drop 1) 17).line) = true
  r1 : mr.name = "told_row"
  r2 : methCheck mr [nSelf, "row"] = true
  r3 : mr.body = rowBody (posF mr.body) (compScope (stAt mr.body 0))
  r4 : compOk (scOf mr.scope) (compScope (stAt mr.body 0)) nVal = true
  r5 : glob (scOf mr.scope) "tuple" = true
  r6 : idxVar (scOf mr.scope) "row" = some 1
  r7 : idxVar (compSc (scOf mr.scope) (compScope (stAt mr.body 0)).names nVal) nSelf = some 0
  r8 : idxVar (compSc (scOf mr.scope) (compScope (stAt mr.body 0)).names nVal) nVal = some (scOf mr.scope).n
  r9 : decide (0 < (scOf mr.scope).n) = true
  r10 : ∀ a b, rhoL mr.scope.names [nSelf, "row"] [a, b] = [some a, some b, none]
  r11 : ((posF mr.body 2).endLine == (posF mr.body 4).line) = true
  d1 : (recsOf q).find? (fun e => e.name == ("shape" : Str)) = some d
  d2 : d.params.args.map (·.arg) = [nHp]
  d3 : d.body = shapeBody (posSh d.body) (stAt d.body 2) (stAt d.body 3) (stAt (whileAt (stAt d.body 4)) 1) (stAt d.body 5)
  d4 : ∀ a, rhoL d.scope.names [nHp] [a] = some a :: none :: none :: none :: none :: [none, none, none, none]
  d5 : cE fns 40 (scOf d.scope) (.Subscript (.Name nHp (posSh d.body 7)) (.Constant (.int 2) 0 (posSh d.body 8)) (posSh d.body 9)) = some (.idx (.v 0) (.k (.int 2)))
  d6 : cS fns [] 40 (scOf d.scope) (stAt d.body 2) = some (.ownD 3 .nil)
  d7 : cS fns [] 40 (scOf d.scope) (stAt d.body 3) = some (.asg 4 (.k (.int 0)))
  d8 : cS fns [] 40 (scOf d.scope) (stAt (whileAt (stAt d.body 4)) 1) = some (.asg 4 (.bin .add (.v 4) (.k (.int 1))))
  d9 : cS fns [] 40 (scOf d.scope) (stAt d.body 5) = some (.ret (.tup (.cons (.v 2) (.cons (.toTup (.v 3)) .nil))))
  sn : ShapeNames (scOf d.scope) fns (posSh d.body)

theorem exts9 {q : Program} {loose : List Str} {mean : ExcName → Option Value} {Nn : Nat} {P : Prg} {c : ClsRec} {mi mt mr : MethRec} {d : DefRec} (T : Top q loose mean mg mb base) (hp : prepAll X9 fns [] Nn (recsOf q) fns = some P) (hb : blNames.all (freeIn q loose) = true) (CP : Common P)
    (hC : mg "Namer" = some (.ref C)) (Pl : PlainAt base c C N mN) (m1 : mi ∈ c.meths) (m2 : mt ∈ c.meths) (m3 : mr ∈ c.meths) (S : See9 q fns c mi mt mr d) : ExtsOk prog w q base X9 fns (faOf fns mg) P := by
  intro n i g d' o fd x ds dd A s vs E ih hg hd F hx hrun O hv
  obtain ⟨hn, rfl⟩ := X9_some hx
  rw [hn, S.d1] at hd
  cases hd
  obtain ⟨h4, H, d0, rfl, hsh, e⟩ := shapeX_some hrun
  cases e
  obtain ⟨k, rfl⟩ : ∃ k, n = k + 4 := ⟨n - 4, by omega⟩
  have G := gl_of T hp hb
  have hqq := List.all_eq_true.mp S.q1
  have hquiet : ∀ y ∈ (["__getattribute__", "__getattr__", "__setattr__", nNum, nMet] : List Str), mN y = none := fun y hy => Pl.quiet y (List.contains_iff_mem.mp (hqq y hy))
  have K : ClsOk base C N mN := ⟨Pl.cls, hquiet _ (by simp), hquiet _ (by simp), hquiet _ (by simp), hquiet _ (by simp), hquiet _ (by simp)⟩
  have ER : ∀ m, Errs prog w base (run false P m) (faOf fns mg) m [] RZ0 := fun m => ⟨fun sc f ds c h₀ env T' ρ A s vs h => (run_noerr X9_noerr hp T h).elim⟩
  obtain ⟨fi, oi', fdi, i1, i2, FI⟩ := meth_at Pl m1 S.i2
  obtain ⟨ft, oft, fdt, t1, t2, FT⟩ := meth_at Pl m2 S.t2
  obtain ⟨fr, ofr, fdr, r1, r2, FR⟩ := meth_at Pl m3 S.r2
  rw [S.i1] at i1
  rw [S.t1] at t1
  rw [S.r1] at r1
  rw [S.i3] at FI
  rw [S.t3] at FT
  rw [S.r3] at FR
  have TR : TellsR prog w base (k + 4) C fr := by
    intro x dx nd ml A s v ds res met met' E X hv hp' hr hbn hbm O
    refine row_ok (k := k + 3) G K FR t1 FT.at' t2 FT.data ?_ S.r4 S.r5 S.r6 S.r7 S.r8 (of_decide_eq_true S.r9) S.r10 S.r11 X hv hp' hr O hbn hbm
    intro A s v d d' met met' E X hv ht O
    exact told_ok (k := k + 2) (Φ := run false P (k + 2)) (n := 40) G (ih (k + 2) (by omega)) (ER (k + 2)) K FT S.t4 S.t5 S.t6 S.t7 S.t8 S.t9 (r_is_pointer CP d) X hv ht O hbn hbm
  rw [S.d2, S.d3] at F
  cases hv with
  | cons hv hnil =>
    cases hnil
    exact shape_ok (k := k + 2) (n := 40) G (ih (k + 4) (Nat.le_refl _)) (ER (k + 4)) K hC F ⟨r1, FR.at', r2, FR.data, TR⟩ S.sn i1 i2 FI S.i4 S.i5 S.d4 S.d5 S.d6 S.d7 S.d8 S.d9 hv hsh O
end
end Mine

namespace Mine
open PySem

theorem cmp_same {d : D} (hp : d.pure = true) (he : d.eqb d = true) : cmp2 .eq (some d) (some d) = some (.bool true) := by
  have h : (d.pure && d.pure) = true := by rw [hp]; rfl
  show ((if (d.pure && d.pure) = true then some (d.eqb d) else none).map D.bool) = _
  rw [if_pos h, he]; rfl
/-- what a told row holds -/
noncomputable def tdV (v : D) : Prop := v = .none ∨ (∃ i, v = .int i) ∨ ∃ s i, v = .tup [.str s, .int i]
theorem tdV.same {v : D} (h : tdV v) : v.eqb v = true := by
  rcases h with rfl | ⟨i, rfl⟩ | ⟨s, i, rfl⟩
  · simp [D.eqb]
  · simp [D.eqb]
  · simp [D.eqb, D.eqbs]
theorem tdV.okN {v : D} (h : tdV v) : v.okN 1 = true := by
  rcases h with rfl | ⟨i, rfl⟩ | ⟨s, i, rfl⟩ <;> rfl
theorem tdV.pure {v : D} (h : tdV v) : v.pure = true := D.okN_le (by decide) h.okN
theorem tdVs.okN {vs : List D} (h : ∀ v ∈ vs, tdV v) : D.okN 2 (.tup vs) = true := by
  rw [D.okN_tup]; exact List.all_eq_true.mpr fun v hv => (h v hv).okN
theorem tdVs.tup {vs : List D} (h : ∀ v ∈ vs, tdV v) : D.pure (.tup vs) = true := D.okN_le (by decide) (tdVs.okN h)

section
variable {keep : Bool} {P : Prg} {n : Nat} (hw : P[13]? = some F_l_whole)
theorem rho_whole (a : D) : rho0 F_l_whole.names F_l_whole.ps [a] = [some (.arg a), none, none, none] := by kernel_rfl
include hw in
theorem r_whole (i : Int) : run keep P (n + 1) 13 [.int i] = some (.ok (.bool true)) := by
  rw [run_at hw, fnRun_eq rfl, rho_whole]
  simp [F_l_whole]
variable (ha : P[14]? = some F_l_alike)
theorem rho_alike (a b : D) : rho0 F_l_alike.names F_l_alike.ps [a, b] = [some (.arg a), some (.arg b), none, none, none, none, none] := by kernel_rfl
include hw ha in
theorem r_alike {v : D} (hv : tdV v) : run keep P (n + 2) 14 [v, v] = some (.ok (.bool true)) := by
  rw [run_at ha, fnRun_eq rfl, rho_alike]
  have hc := cmp_same hv.pure hv.same
  rcases hv with rfl | ⟨i, rfl⟩ | ⟨s, i, rfl⟩
  · simp [F_l_alike]
  · simp [F_l_alike, r_whole hw i]
  · simp [F_l_alike, r_whole hw i, hc]
variable (hr : P[15]? = some F_l_row_alike)
theorem rho_row (a b : D) : rho0 F_l_row_alike.names F_l_row_alike.ps [a, b] = [some (.arg a), some (.arg b), none, none, none, none, none, none] := by kernel_rfl
include hw ha hr in
theorem r_row {vs : List D} (hv : ∀ v ∈ vs, tdV v) (hl : vs.length ≤ 1000) : run keep P (n + 3) 15 [.tup vs, .tup vs] = some (.ok (.bool true)) := by
  rw [run_at hr, fnRun_eq rfl, rho_row]
  obtain ⟨ρ', l, _, rfl⟩ := loop_inv (body := fun d ρ => exs (run keep P (n + 2)) (ρ.set 2 (some (.dat d))) B_l_row_alike_1) (fun _ ρ => ∃ c, ρ = [some (.arg (.tup vs)), some (.arg (.tup vs)), c, none, none, none, none, none]) (rangeD 0 (vs.length : Int)) 0 _ ⟨none, rfl⟩ (by
    rintro j d ρ hd ⟨c, rfl⟩
    obtain ⟨rfl, hj⟩ := rangeD_some hd
    have hj' : j < vs.length := by omega
    have e := List.getElem?_eq_getElem hj'
    have h1 := r_alike (keep := keep) (n := n) hw ha (hv vs[j] (List.getElem_mem _))
    exact ⟨_, .inl (by simp [B_l_row_alike_1, e, h1]), some (.dat (.int j)), rfl⟩)
  unfold F_l_row_alike
  rw [exs_cons, ex_iff]
  simp only [ev_or, ev_not, ev_isi, ev_v, get_0, get_s, Option.bind_some, valq_a, s_isi, isi_tt, n_bool, orS_bool, ev_cmp, ev_len, l_tup, c_neI, boolR_bool, ifS_bool]
  simp only [Bool.not_true, Bool.false_eq_true, if_false, beq_self_eq_true, boolR_bool, ifS_bool, exs_nil]
  rw [seqR_next, exs_cons, ex_for_range (m := (vs.length : Int)) (by simp) (by omega) (by omega), l, seqR_next]
  simp
end

/-! heaps -/
noncomputable def half (y o : List D) (p : Pt) : List D := if p.1 = wY then y else o
/-- a pointer that leads to a thing -/
noncomputable def okP (y o : List D) (p : Pt) : Prop := (p.1 = wY ∨ p.1 = wO) ∧ inB y.length o.length p.1 p.2
structure HG (y o r bk : List D) : Prop where
  yl : y.length ≤ 1200
  ol : o.length ≤ 1200
  rl : r.length ≤ 100
  ty : ∀ t ∈ y, okTm 100 (inB y.length o.length) t
  to : ∀ t ∈ o, okTm 100 (inB y.length o.length) t
  vr : ∀ v ∈ r, okV (inB y.length o.length) v
  pr : D.pure (heapD y o r bk) = true

theorem HG.at {y o r bk : List D} (G : HG y o r bk) {p : Pt} (hp : okP y o p) : ∃ a row, (half y o p)[p.2.toNat]? = some (.tup [.int a, .tup row]) ∧ 0 ≤ p.2 ∧ p.2 < (half y o p).length ∧ row.length ≤ 100 ∧ ∀ v ∈ row, okV (inB y.length o.length) v := by
  obtain ⟨hs, h0, h1⟩ := hp
  unfold half
  by_cases e : p.1 = wY
  · rw [if_pos e] at h1 ⊢
    have hlt : p.2.toNat < y.length := by omega
    obtain ⟨a, row, q1, q2, q3⟩ := G.ty y[p.2.toNat] (List.getElem_mem _)
    exact ⟨a, row, by rw [List.getElem?_eq_getElem hlt, q1], h0, h1, q2, q3⟩
  · rw [if_neg e] at h1 ⊢
    have hlt : p.2.toNat < o.length := by omega
    obtain ⟨a, row, q1, q2, q3⟩ := G.to o[p.2.toNat] (List.getElem_mem _)
    exact ⟨a, row, by rw [List.getElem?_eq_getElem hlt, q1], h0, h1, q2, q3⟩
theorem half_eq {y o : List D} {p : Pt} : halfOf y o p.1 = half y o p := by
  unfold halfOf half
  by_cases e : p.1 = wY
  · rw [if_pos e, e]; simp
  · rw [if_neg e]; simp [e]

section
variable {keep : Bool} {P : Prg} (C : Common P) {n : Nat} {y o r bk : List D}
theorem rho_thing_at (a b : D) : rho0 F_thing_at.names F_thing_at.ps [a, b] = [some (.arg a), some (.arg b), none, none, none, none] := by kernel_rfl
include C in
theorem r_thing_at (ht : P[11]? = some F_thing_at) (G : HG y o r bk) {p : Pt} (hp : okP y o p) : ∃ a row, run keep P (n + 3) 11 [heapD y o r bk, ptr p] = some (.ok (.tup [.int a, .tup row])) ∧ (half y o p)[p.2.toNat]? = some (.tup [.int a, .tup row]) ∧ row.length ≤ 100 ∧ ∀ v ∈ row, okV (inB y.length o.length) v := by
  obtain ⟨a, row, e, h0, h1, h2, h3⟩ := G.at hp
  refine ⟨a, row, ?_, e, h2, h3⟩
  rw [run_at ht, fnRun_eq rfl, rho_thing_at]
  have i1 := r_is_pointer (keep := keep) C (n := n + 1) (ptr p)
  have i2 := r_leads (keep := keep) C (n := n) (y := y) (o := o) (r := r) (bk := bk) (s := p.1) (i := p.2)
  have i3 := r_half_of (keep := keep) C (n := n + 1) (y := y) (o := o) (r := r) (bk := bk) (s := p.1) (q := [.int p.2])
  have il : lead y o (.tup [.str p.1, .int p.2]) = true := by
    simp [lead, half_eq, h0, h1]
  rw [il] at i2
  rw [half_eq] at i3
  simp [F_thing_at, ptr] at i1 ⊢
  simp [i1, i2, i3, h0, e]
theorem rho_fields (a b : D) : rho0 F_l_fields.names F_l_fields.ps [a, b] = [some (.arg a), some (.arg b)] := by kernel_rfl
theorem r_fields (hf : P[16]? = some F_l_fields) {p : Pt} {a : Int} {row : List D} (e : (half y o p)[p.2.toNat]? = some (.tup [.int a, .tup row])) (h0 : 0 ≤ p.2) : run keep P (n + 1) 16 [heapD y o r bk, ptr p] = some (.ok (.tup row)) := by
  rw [run_at hf, fnRun_eq rfl, rho_fields]
  unfold half at e
  by_cases q : p.1 = wY
  · rw [if_pos q] at e
    simp [F_l_fields, ptr, heapD, q, e, h0]
  · rw [if_neg q] at e
    simp [F_l_fields, ptr, heapD, q, e, h0]

theorem book_okN {bk : List D} (h : ∀ p ∈ bk, ∃ a b : Int, p = .tup [.int a, .int b]) : D.okN 2 (.tup bk) = true := by
  rw [D.okN_tup]; exact List.all_eq_true.mpr fun p hp => by obtain ⟨a, b, rfl⟩ := h p hp; rfl
theorem bookOf_pairs (o : List D) : ∀ p ∈ bookOf o, ∃ a b : Int, p = .tup [.int a, .int b] := by
  intro p hp
  obtain ⟨l, hl, hp⟩ := List.mem_flatten.mp hp
  obtain ⟨q, _, rfl⟩ := List.mem_map.mp hl
  obtain ⟨z, _, rfl⟩ := List.mem_map.mp hp
  exact ⟨_, _, rfl⟩
theorem heap_pure {m : Nat} {b : Bd} (hy : ∀ t ∈ y, okTm m b t) (ho : ∀ t ∈ o, okTm m b t) (hr : ∀ v ∈ r, okV b v) (hb : ∀ p ∈ bk, ∃ a b : Int, p = .tup [.int a, .int b]) : D.pure (heapD y o r bk) = true := by
  have t : ∀ l : List D, (∀ t ∈ l, okTm m b t) → D.okN 4 (.tup l) = true := fun l h => by rw [D.okN_tup]; exact List.all_eq_true.mpr fun v hv => (h v hv).okN
  have v : D.okN 2 (.tup r) = true := by rw [D.okN_tup]; exact List.all_eq_true.mpr fun v hv => (hr v hv).okN
  refine D.okN_le (n := 5) (by decide) ?_
  rw [heapD, D.okN_tup]
  simp [t y hy, t o ho, D.okN_le (by decide : 2 ≤ 4) v, D.okN_le (by decide : 2 ≤ 4) (book_okN hb)]

theorem rho_asked (a : D) : rho0 F_l_heap_asked.names F_l_heap_asked.ps [a] = [some (.arg a), none, none, none, none, none, none] := by kernel_rfl
include C in
theorem r_asked (hq : P[17]? = some F_l_heap_asked) {xs : List Int} : ∃ y o r bk, run keep P (n + 5) 17 [scr xs] = some (.ok (heapD y o r bk)) ∧ HG y o r bk := by
  rw [run_at hq, fnRun_eq rfl, rho_asked]
  have c3 := r_cell_at (keep := keep) C (n := n + 3) (xs := xs) (k := 3) (by omega)
  have c4 := r_cell_at (keep := keep) C (n := n + 3) (xs := xs) (k := 4) (by omega)
  by_cases h : cellAt xs 3 % 32 = 23
  · obtain ⟨m, hm⟩ : ∃ m : Nat, 1000 + cellAt xs 4 % 200 = (m : Int) + 1 := ⟨(999 + cellAt xs 4 % 200).toNat, by omega⟩
    have hml : m ≤ 1198 := by omega
    obtain ⟨ys, y1, y2, y3⟩ := comp_all (c := fun d => (ev (run keep P (n + 4)) ([some (.arg (scr xs)), some (.dat (.int ((m : Int) + 1))), none, none, none, none, none] ++ [some (.dat d)]) (.k (.bool true))).bind isTrueD) (f := fun d => ev (run keep P (n + 4)) ([some (.arg (scr xs)), some (.dat (.int ((m : Int) + 1))), none, none, none, none, none] ++ [some (.dat d)]) C_l_heap_asked_1)
      (fun d t => okTm 100 (inB ((m + 1 : Nat) : Int) 0) t) (rangeD 0 (m : Int)) (fun d hd => by
        obtain ⟨j, rfl, hj⟩ := rangeD_mem hd
        refine ⟨rfl, .tup [.int 0, .tup [.tup [.str wY, .int ((j : Int) + 1)]]], by simp [C_l_heap_asked_1], 0, _, rfl, by simp, fun v hv => ?_⟩
        rw [List.mem_singleton.mp hv]
        exact .inr (.inr ⟨wY, _, .inl rfl, ⟨by omega, by rw [if_pos rfl]; omega⟩, rfl⟩))
    have hlast : okTm 100 (inB ((m + 1 : Nat) : Int) 0) (.tup [.int 0, .tup [.none]]) := ⟨0, _, rfl, by decide, fun v hv => by rw [List.mem_singleton.mp hv]; exact .inl rfl⟩
    have hys : ∀ t ∈ ys ++ [.tup [.int 0, .tup [.none]]], okTm 100 (inB ((m + 1 : Nat) : Int) 0) t := fun t ht => by
      rcases List.mem_append.mp ht with ht | ht
      · obtain ⟨d, _, q⟩ := y3 t ht; exact q
      · rw [List.mem_singleton.mp ht]; exact hlast
    have hl : ys.length = m := by rw [y2, rangeD_len]; simp
    have hr : ∀ v ∈ [D.none, .tup [.str wY, .int 0]], okV (inB ((m + 1 : Nat) : Int) 0) v := fun v hv => by
      simp only [List.mem_cons, List.not_mem_nil, or_false] at hv
      rcases hv with rfl | rfl
      · exact .inl rfl
      · exact .inr (.inr ⟨wY, 0, .inl rfl, ⟨by omega, by rw [if_pos rfl]; omega⟩, rfl⟩)
    have hB : inB ((ys ++ [D.tup [.int 0, .tup [.none]]]).length : Int) (([] : List D).length : Int) = inB ((m + 1 : Nat) : Int) 0 := by
      rw [List.length_append, hl]; rfl
    refine ⟨ys ++ [.tup [.int 0, .tup [.none]]], [], [.none, .tup [.str wY, .int 0]], [], ?_, ⟨by simp [hl]; omega, by simp, by simp, by rw [hB]; exact hys, by simp, by rw [hB]; exact hr, heap_pure hys (by simp) hr (by simp)⟩⟩
    have hp := okTs.tup hys
    have ec := ev_comp (Φ := run keep P (n + 4)) (ρ := [some (.arg (scr xs)), some (.dat (.int ((m : Int) + 1))), none, none, none, none, none]) (el := C_l_heap_asked_1) (cd := .k (.bool true)) (it := .range (.bin .sub (.v 1) (.k (.int 1)))) (ds := rangeD 0 (m : Int)) (res := ys)
      (evIt_range (by simp) (by omega) (by omega)) y1 (okTs.pures fun t ht => hys t (List.mem_append_left _ ht))
    have hlim : ys.length + 1 ≤ lim := by rw [hl, lim_n]; omega
    unfold F_l_heap_asked
    rw [exs_cons, ex_iff]
    simp [c3, h]
    simp [c4, hm, ec, hlim, hp, heapD]
  · obtain ⟨y, o, r, h1, h2⟩ := r_heap_by (keep := keep) C (n := n) (xs := xs)
    refine ⟨y, o, r, bookOf o, ?_, ⟨by have := h2.yl; omega, by have := h2.ol; omega, by have := h2.rl; omega, h2.ty, h2.to, h2.vr, heap_pure h2.ty h2.to h2.vr (bookOf_pairs o)⟩⟩
    simp [F_l_heap_asked, c3, h, h1, heapD]
end
end Mine

namespace Mine
open PySem

noncomputable def inD2 (neg : Bool) (o : Option D) (m : Option (List (Ky × D))) : Option D := o.bind fun d => (keyD d).bind fun k => m.bind fun kvs => if kindOk kvs k = true then some (.bool (if neg = true then !(lookK kvs k).isSome else (lookK kvs k).isSome)) else none
noncomputable def get2 (o : Option D) (m : Option (List (Ky × D))) : Option D := o.bind fun d => (keyD d).bind fun k => m.bind fun kvs => if kindOk kvs k = true then lookK kvs k else none
noncomputable def setd2 (ρ : Rho) (x : Nat) (e : Option D) (m : Option (List (Ky × D))) (i : Option D) : Option R := e.bind fun d => m.bind fun kvs => i.bind fun y => (keyD y).bind fun k => if kindOk kvs k = true ∧ flat d = true ∧ kvs.length < lim then some (.next (ρ.set x (some (.dic (putK kvs k d))))) else none
section
variable {Φ : Fns} {ρ : Rho} {s : Str} {i : Int} {met : List Pt} {j : Nat}
@[simp] theorem ev_inD (neg : Bool) (a : E) (x : Nat) : ev Φ ρ (.inD neg a x) = inD2 neg (ev Φ ρ a) (ρ.dic? x) := (rfl)
@[simp] theorem ev_get (x : Nat) (a : E) : ev Φ ρ (.get x a) = get2 (ev Φ ρ a) (ρ.dic? x) := (rfl)
@[simp] theorem ex_setd (x : Nat) (i e : E) : ex Φ ρ (.setd x i e) = setd2 ρ x (ev Φ ρ e) (ρ.dic? x) (ev Φ ρ i) := (rfl)
@[simp] theorem ex_newD (x : Nat) : ex Φ ρ (.newD x) = some (.next (ρ.set x (some (.dic [])))) := (rfl)
theorem ex_whl (c : E) (b : Ss) : ex Φ ρ (.whl c b) = loopW (fun ρ => (ev Φ ρ c).bind isTrueD) (fun ρ => exs Φ ρ b) lim ρ := (rfl)
theorem loopW_turn {cond : Rho → Option Bool} {body : Rho → Option R} {f : Nat} {ρ ρ' : Rho} {r : Option R} (hf : 1 ≤ f) (hc : cond ρ = some true) (hb : body ρ = some (.next ρ')) (h : loopW cond body (f - 1) ρ' = r) : loopW cond body f ρ = r := by
  obtain ⟨g, rfl⟩ : ∃ g, f = g + 1 := ⟨f - 1, by omega⟩
  show (cond ρ).bind _ = _
  rw [hc]
  show (body ρ).bind _ = _
  rw [hb]
  exact h
@[simp] theorem dic_0 (kvs : List (Ky × D)) (r : Rho) : Rho.dic? (some (.dic kvs) :: r) 0 = some kvs := rfl
@[simp] theorem dic_s (o : Option Lo) (r : Rho) (i : Nat) : Rho.dic? (o :: r) (i + 1) = Rho.dic? r i := rfl
@[simp] theorem inD2_ptr : inD2 true (some (.tup [.str s, .int i])) (some (nums met)) = some (.bool (met.idxOf? (s, i)).isNone) := by
  show (if kindOk (nums met) (some s, i) = true then some (D.bool (if true = true then !(lookK (nums met) (some s, i)).isSome else (lookK (nums met) (some s, i)).isSome)) else none) = _
  rw [if_pos (kind_num (s, i) met), if_pos rfl, look_num (s, i) met]
  cases met.idxOf? (s, i) <;> rfl
theorem get2_ptr (h : met.idxOf? (s, i) = some j) : get2 (some (.tup [.str s, .int i])) (some (nums met)) = some (.int j) := by
  show (if kindOk (nums met) (some s, i) = true then lookK (nums met) (some s, i) else none) = _
  rw [if_pos (kind_num (s, i) met), look_num (s, i) met, h]; rfl
theorem setd2_ptr {x : Nat} (h : met.idxOf? (s, i) = none) (hl : met.length < lim) : setd2 ρ x (some (.int met.length)) (some (nums met)) (some (.tup [.str s, .int i])) = some (.next (ρ.set x (some (.dic (nums (met ++ [(s, i)])))))) := by
  show (if kindOk (nums met) (some s, i) = true ∧ flat (.int met.length) = true ∧ (nums met).length < lim then some (R.next (ρ.set x (some (.dic (putK (nums met) (some s, i) (.int met.length)))))) else none) = _
  rw [if_pos ⟨kind_num (s, i) met, rfl, by rw [nums_len]; exact hl⟩, put_num (s, i) met h]
end

/-! the pointers met -/
theorem nodup_le {α : Type} [DecidableEq α] : ∀ {l m : List α}, l.Nodup → (∀ x ∈ l, x ∈ m) → l.length ≤ m.length
  | [], _, _, _ => Nat.zero_le _
  | a :: l, m, hn, hs => by
    obtain ⟨h1, h2⟩ := List.nodup_cons.mp hn
    have ha := hs a (.head _)
    have ih := nodup_le (l := l) (m := m.erase a) h2 fun x hx => (List.mem_erase_of_ne (by intro e; subst e; exact h1 hx)).mpr (hs x (.tail _ hx))
    rw [List.length_erase_of_mem ha] at ih
    have := List.length_pos_of_mem ha
    rw [List.length_cons]; omega
structure Gm (y o : List D) (met : List Pt) : Prop where
  nd : met.Nodup
  ok : ∀ p ∈ met, okP y o p
noncomputable def allP (y o : List D) : List Pt := (List.range y.length).map (fun (i : Nat) => (wY, (i : Int))) ++ (List.range o.length).map (fun (i : Nat) => (wO, (i : Int)))
theorem okP_all {y o : List D} {p : Pt} (h : okP y o p) : p ∈ allP y o := by
  obtain ⟨s, i⟩ := p
  obtain ⟨hs, h0, h1⟩ := h
  dsimp only at hs h0 h1
  unfold allP
  by_cases e : s = wY
  · rw [if_pos e] at h1
    refine List.mem_append_left _ (List.mem_map.mpr ⟨i.toNat, List.mem_range.mpr (by omega), ?_⟩)
    rw [e]; simp; omega
  · rw [if_neg e] at h1
    have e2 : s = wO := hs.resolve_left e
    refine List.mem_append_right _ (List.mem_map.mpr ⟨i.toNat, List.mem_range.mpr (by omega), ?_⟩)
    rw [e2]; simp; omega
theorem Gm.len {y o : List D} {met : List Pt} (g : Gm y o met) : met.length ≤ y.length + o.length := by
  have := nodup_le g.nd (m := allP y o) fun p hp => okP_all (g.ok p hp)
  simpa [allP] using this
theorem idx_none {met : List Pt} {p : Pt} (h : met.idxOf? p = none) : p ∉ met := by
  induction met with
  | nil => simp
  | cons q met ih =>
    rw [List.idxOf?_cons] at h
    cases e : q == p with
    | true => rw [e] at h; simp at h
    | false =>
      rw [e] at h
      have h : met.idxOf? p = none := by simpa using h
      intro hm
      rcases List.mem_cons.mp hm with rfl | hm
      · simp at e
      · exact ih h hm
theorem Gm.snoc {y o : List D} {met : List Pt} (g : Gm y o met) {p : Pt} (h : met.idxOf? p = none) (hp : okP y o p) : Gm y o (met ++ [p]) := by
  refine ⟨List.nodup_append.mpr ⟨g.nd, by simp, fun a ha b hb e => ?_⟩, fun q hq => ?_⟩
  · rw [List.mem_singleton.mp hb] at e
    exact idx_none h (e ▸ ha)
  · rcases List.mem_append.mp hq with hq | hq
    · exact g.ok q hq
    · rw [List.mem_singleton.mp hq]; exact hp

noncomputable abbrev rho9 (S H : D) (met : List Pt) (rows : List D) (i : Int) (row told val : Option Lo) : Rho := [some (.arg S), some (.dat H), some (.dic (nums met)), some (.own (met.map ptr)), some (.own rows), some (.dat (.int i)), row, told, val, none, none, none, none, none, none, none, none, none, none]

section
variable {Φ : Fns} {S H : D} {y o : List D} {rows acc : List D} {i : Int} {row val : Option Lo} {met : List Pt} {v : D}
/-- one value is told -/
theorem tell9 (hv : okV (inB y.length o.length) v) (g : Gm y o met) (hM : y.length + o.length ≤ 2400) (hacc : acc.length ≤ 1000) : ∃ d met' val', toldD met v = some (d, met') ∧ Gm y o met' ∧ tdV d ∧
    exs Φ (rho9 S H met rows i row (some (.own acc)) (some (.dat v))) B_law9_1 = some (.next (rho9 S H met' rows i row (some (.own (acc ++ [d]))) val')) := by
  have hl : acc.length < lim := by rw [lim_n]; omega
  have hm : met.length < lim := by have := g.len; rw [lim_n]; omega
  have hpv := hv.pure
  have simple : evIsi .tuple v = false → tdV v → ∃ d met' val', toldD met v = some (d, met') ∧ Gm y o met' ∧ tdV d ∧
      exs Φ (rho9 S H met rows i row (some (.own acc)) (some (.dat v))) B_law9_1 = some (.next (rho9 S H met' rows i row (some (.own (acc ++ [d]))) val')) := fun h1 h2 => by
    refine ⟨v, met, some (.dat v), ?_, g, h2, ?_⟩
    · unfold toldD; rw [if_neg (by rw [h1]; exact Bool.false_ne_true), if_pos hpv]
    · simp [B_law9_1, h1, appR, hpv, hl]
  rcases hv with rfl | ⟨k, rfl⟩ | ⟨s, k, hs, hb, rfl⟩
  · exact simple rfl (.inl rfl)
  · exact simple rfl (.inr (.inl ⟨k, rfl⟩))
  · cases hi : met.idxOf? (s, k) with
    | some j =>
      refine ⟨thing j, met, some (.dat (thing j)), ?_, g, .inr (.inr ⟨_, _, rfl⟩), ?_⟩
      · unfold toldD
        rw [if_pos (show evIsi .tuple (.tup [.str s, .int k]) = true from rfl)]
        show (match met.idxOf? (s, k) with | some j => some (thing j, met) | none => if met.length < lim then some (thing met.length, met ++ [(s, k)]) else none) = _
        rw [hi]
      · have ht : D.pure (.tup [.str (Str.ofString "thing"), .int (j : Nat)]) = true := rfl
        simp [B_law9_1, hi, get2_ptr hi, appR, ht, hl, thing]
    | none =>
      refine ⟨thing met.length, met ++ [(s, k)], some (.dat (thing met.length)), ?_, g.snoc hi ⟨hs, hb⟩, .inr (.inr ⟨_, _, rfl⟩), ?_⟩
      · unfold toldD
        rw [if_pos (show evIsi .tuple (.tup [.str s, .int k]) = true from rfl)]
        show (match met.idxOf? (s, k) with | some j => some (thing j, met) | none => if met.length < lim then some (thing met.length, met ++ [(s, k)]) else none) = _
        rw [hi]
        exact if_pos hm
      · have ht : D.pure (.tup [.str (Str.ofString "thing"), .int (met.length : Nat)]) = true := rfl
        have hs2 := idx_snoc (p := (s, k)) met hi
        simp [B_law9_1, hi, setd2_ptr hi hm, get2_ptr hs2, appR, ht, hl, hm, hpv, thing, ptr]

/-- a row is told -/
theorem row9 (hM : y.length + o.length ≤ 2400) : ∀ (vs : List D) (met : List Pt) (acc : List D) (val : Option Lo), (∀ v ∈ vs, okV (inB y.length o.length) v) → Gm y o met → acc.length + vs.length ≤ 1000 → ∃ ds met' val', rowD met vs = some (ds, met') ∧ Gm y o met' ∧ (∀ d ∈ ds, tdV d) ∧ ds.length = vs.length ∧
    loopO (fun d ρ => exs Φ (ρ.set 8 (some (.dat d))) B_law9_1) vs (rho9 S H met rows i row (some (.own acc)) val) = some (.next (rho9 S H met' rows i row (some (.own (acc ++ ds))) val'))
  | [], met, acc, val, _, g, _ => ⟨[], met, val, rfl, g, fun d hd => (by cases hd), rfl, by rw [List.append_nil]; rfl⟩
  | v :: vs, met, acc, val, hv, g, hl => by
    rw [List.length_cons] at hl
    obtain ⟨d, met1, val1, h1, g1, t1, e1⟩ := tell9 (Φ := Φ) (S := S) (H := H) (rows := rows) (acc := acc) (i := i) (row := row) (hv v (.head _)) g hM (by omega)
    obtain ⟨ds, met2, val2, h2, g2, t2, l2, e2⟩ := row9 hM vs met1 (acc ++ [d]) val1 (fun v hv' => hv v (.tail _ hv')) g1 (by rw [List.length_append, List.length_singleton]; omega)
    refine ⟨d :: ds, met2, val2, ?_, g2, fun x hx => ?_, by rw [List.length_cons, List.length_cons, l2], ?_⟩
    · show (toldD met v).bind _ = _
      rw [h1]
      show (rowD met1 vs).map _ = _
      rw [h2]; rfl
    · rcases List.mem_cons.mp hx with rfl | hx
      · exact t1
      · exact t2 x hx
    · show (exs Φ ((rho9 S H met rows i row (some (.own acc)) val).set 8 (some (.dat v))) B_law9_1).bind _ = _
      rw [show (rho9 S H met rows i row (some (.own acc)) val).set 8 (some (.dat v)) = rho9 S H met rows i row (some (.own acc)) (some (.dat v)) from rfl, e1]
      show loopO _ vs _ = _
      rw [e2]; simp
end
end Mine

namespace Mine
open PySem

/-- rows that are told -/
noncomputable def rowsOk (th : List D) : Prop := ∀ t ∈ th, ∃ ds, t = .tup ds ∧ ds.length ≤ 100 ∧ ∀ d ∈ ds, tdV d
theorem rowsOk.snoc {th ds : List D} (h : rowsOk th) (hl : ds.length ≤ 100) (hd : ∀ d ∈ ds, tdV d) : rowsOk (th ++ [.tup ds]) := fun t ht => by
  rcases List.mem_append.mp ht with ht | ht
  · exact h t ht
  · exact ⟨ds, List.mem_singleton.mp ht, hl, hd⟩
theorem rowsOk.okN {th : List D} (h : rowsOk th) : D.okN 3 (.tup th) = true := by
  rw [D.okN_tup]; exact List.all_eq_true.mpr fun t ht => by obtain ⟨ds, rfl, _, hd⟩ := h t ht; exact tdVs.okN hd

section
variable {Φ : Fns} {S : D} {y o r bk : List D} {rows : List D} {i : Int} {row told val : Option Lo} {met : List Pt}

/-- a turn of the law's loop, once its row is known -/
theorem turn9 {vs : List D} (G : HG y o r bk) (hv : ∀ v ∈ vs, okV (inB y.length o.length) v) (g : Gm y o met) (hl : vs.length ≤ 100) (hr : rows.length ≤ 5000)
    (h1 : exs Φ (rho9 S (heapD y o r bk) met rows i row told val) (.cons (.asg 6 (.idx (.v 1) (.k (.int (2))))) (.cons (.iff (.cmp .ge (.v 5) (.k (.int (0)))) (.cons (.callS (.var 6) 16 (.cons (.v 1) (.cons (.idx (.v 3) (.v 5)) .nil))) .nil) .nil) .nil)) = some (.next (rho9 S (heapD y o r bk) met rows i (some (.dat (.tup vs))) told val))) :
    ∃ ds met' told' val', rowD met vs = some (ds, met') ∧ Gm y o met' ∧ (∀ d ∈ ds, tdV d) ∧ ds.length = vs.length ∧
      exs Φ (rho9 S (heapD y o r bk) met rows i row told val) B_law9_2 = some (.next (rho9 S (heapD y o r bk) met' (rows ++ [.tup ds]) (i + 1) (some (.dat (.tup vs))) told' val')) := by
  have hM : y.length + o.length ≤ 2400 := by have := G.yl; have := G.ol; omega
  obtain ⟨ds, met', val', q1, q2, q3, q4, q5⟩ := row9 (Φ := Φ) (S := S) (H := heapD y o r bk) (rows := rows) (i := i) (row := some (.dat (.tup vs))) hM vs met [] val hv g (by simp; omega)
  refine ⟨ds, met', some (.own ds), val', q1, q2, q3, q4, ?_⟩
  have hp := okVs.pures hv
  have hdp : D.pure (.tup ds) = true := tdVs.tup q3
  have hrl : rows.length < lim := by rw [lim_n]; omega
  have step : ∀ (a b : Mine.S) (t : Ss) (ρ ρ' : Rho), exs Φ ρ (.cons a (.cons b .nil)) = some (.next ρ') → exs Φ ρ (.cons a (.cons b t)) = exs Φ ρ' t := by
    intro a b t ρ ρ' h
    have h : (ex Φ ρ a).bind (thenR fun ρ₁ => (ex Φ ρ₁ b).bind (thenR fun ρ₂ => some (.next ρ₂))) = some (.next ρ') := h
    show (ex Φ ρ a).bind (thenR fun ρ₁ => (ex Φ ρ₁ b).bind (thenR fun ρ₂ => exs Φ ρ₂ t)) = _
    obtain ⟨ra, ha, h⟩ := ob h
    rw [ha]
    cases ra with
    | next ρ₁ =>
      obtain ⟨rb, hb, h⟩ := ob (show ((ex Φ ρ₁ b).bind (thenR fun ρ₂ => some (.next ρ₂))) = some (.next ρ') from h)
      show (ex Φ ρ₁ b).bind _ = _
      rw [hb]
      cases rb with
      | next ρ₂ => cases h; rfl
      | cont ρ₂ => cases h
      | ret d => cases h
      | err c => cases h
    | cont ρ₁ => cases h
    | ret d => cases h
    | err c => cases h
  unfold B_law9_2
  rw [step _ _ _ _ _ h1]
  rw [exs_cons, ex_ownD]
  simp only [evs_nil, ownR_some]
  rw [if_pos (show D.pures [] = true from rfl), seqR_next]
  simp only [List.set_cons_succ, List.set_cons_zero]
  rw [exs_cons, ex_forV (lo := .dat (.tup vs)) (by rfl) (by rfl) (by rfl) hp, q5, seqR_next]
  simp [appR, hdp, hrl]
end

theorem toldD_grows {met met' : List Pt} {d d' : D} (h : toldD met d = some (d', met')) : met.length ≤ met'.length := by
  unfold toldD at h
  split at h
  · replace h := ob h
    obtain ⟨p, _, h⟩ := h
    split at h
    · cases h; exact Nat.le_refl _
    · replace h := oi h
      obtain ⟨_, h⟩ := h
      cases h; simp
  · replace h := oi h
    obtain ⟨_, h⟩ := h
    cases h; exact Nat.le_refl _
theorem rowD_grows : ∀ {ds : List D} {met met' : List Pt} {rs : List D}, rowD met ds = some (rs, met') → met.length ≤ met'.length
  | [], met, met', rs, h => by cases h; exact Nat.le_refl _
  | d :: ds, met, met', rs, h => by
    replace h := ob h
    obtain ⟨⟨r1, r2⟩, h1, h⟩ := h
    replace h := om h
    obtain ⟨⟨q1, q2⟩, h2, h⟩ := h
    cases h
    exact Nat.le_trans (toldD_grows h1) (rowD_grows h2)

section
variable {P : Prg} (C : Common P) {n n' : Nat} {S : D} {y o r bk : List D}

include C in
/-- the two loops go alike -/
theorem loop9 (ht : P[11]? = some F_thing_at) (hf : P[16]? = some F_l_fields) (G : HG y o r bk) (R0 : D) : ∀ (m i : Nat) (met : List Pt) (th : List D) (row told val : Option Lo), Gm y o met → i ≤ met.length → y.length + o.length + 1 ≤ i + m → th.length = i → rowsOk th →
    ∃ th' i' met' row' told' val', shL (run false P (n + 3)) (heapD y o r bk) m i met th = some th' ∧ rowsOk th' ∧ th'.length ≤ 2400 ∧
      ∀ fuel, m ≤ fuel → loopW (fun ρ => (ev (run false P (n' + 1)) ρ (.cmp .lt (.v 5) (.len (.v 3)))).bind isTrueD) (fun ρ => exs (run false P (n' + 1)) ρ B_law9_2) fuel (rho9 S (heapD y o r bk) met (R0 :: th) (i : Int) row told val) =
        some (.next (rho9 S (heapD y o r bk) met' (R0 :: th') i' row' told' val'))
  | 0, i, met, th, row, told, val, g, hi, hm, hl, hr => by have := g.len; omega
  | m + 1, i, met, th, row, told, val, g, hi, hm, hl, hr => by
    have hM : y.length + o.length ≤ 2400 := by have := G.yl; have := G.ol; omega
    have gl := g.len
    have cond : (ev (run false P (n' + 1)) (rho9 S (heapD y o r bk) met (R0 :: th) (i : Int) row told val) (.cmp .lt (.v 5) (.len (.v 3)))).bind isTrueD = some (decide (i < met.length)) := by simp
    by_cases hlt : i < met.length
    · have hp : met[i]? = some met[i] := List.getElem?_eq_getElem hlt
      have okp := g.ok _ (List.getElem_mem hlt)
      obtain ⟨a, vs, t1, t2, t3, t4⟩ := r_thing_at (keep := false) C (n := n) ht G okp
      have f1 := r_fields (keep := false) (n := n') (r := r) (bk := bk) hf t2 okp.2.1
      have hvp : D.pure (.tup vs) = true := okVs.tup t4
      have hrp : D.pure (.tup r) = true := okVs.tup G.vr
      obtain ⟨ds, met', told', val', q1, q2, q3, q4, q5⟩ := turn9 (Φ := run false P (n' + 1)) (S := S) (rows := R0 :: th) (i := (i : Int)) (row := row) (told := told) (val := val) (vs := vs) G t4 g t3 (by simp; omega) (by
        have e : (met.map ptr)[i]? = some (ptr met[i]) := by rw [List.getElem?_map, hp]; rfl
        have f1' : run false P (n' + 1) 16 [.tup [.tup y, .tup o, .tup r, .tup bk], ptr met[i]] = some (.ok (.tup vs)) := f1
        simp [heapD, hrp, hp, f1', hvp])
      obtain ⟨th', i', met2, row2, told2, val2, s1, s2, s3, s4⟩ := loop9 ht hf G R0 m (i + 1) met' (th ++ [.tup ds]) (some (.dat (.tup vs))) told' val' q2 (by
        have := rowD_grows q1; omega) (by omega) (by rw [List.length_append, hl]; rfl) (hr.snoc (by omega) q3)
      refine ⟨th', i', met2, row2, told2, val2, ?_, s2, s3, fun fuel hfu => ?_⟩
      · unfold shL
        rw [hp]
        show ((run false P (n + 3) 11 [heapD y o r bk, ptr met[i]]).bind okOf).bind _ = _
        rw [t1]
        show (if D.pure (.tup vs) = true ∧ th.length < lim ∧ met.length ≤ lim then (rowD met vs).bind _ else none) = _
        rw [if_pos ⟨hvp, by rw [lim_n]; omega, by rw [lim_n]; omega⟩, q1]
        show (if D.pure (.tup ds) = true then _ else none) = _
        rw [if_pos (tdVs.tup q3)]
        exact s1
      · obtain ⟨fuel, rfl⟩ : ∃ f, fuel = f + 1 := ⟨fuel - 1, by omega⟩
        show ((ev _ _ _).bind isTrueD).bind _ = _
        rw [cond, decide_eq_true hlt]
        show (exs _ _ B_law9_2).bind _ = _
        rw [q5]
        exact s4 fuel (by omega)
    · have hp : met[i]? = none := List.getElem?_eq_none (Nat.le_of_not_lt hlt)
      refine ⟨th, i, met, row, told, val, ?_, hr, by omega, fun fuel hfu => ?_⟩
      · unfold shL; rw [hp]
      · obtain ⟨fuel, rfl⟩ : ∃ f, fuel = f + 1 := ⟨fuel - 1, by omega⟩
        show ((ev _ _ _).bind isTrueD).bind _ = _
        rw [cond, decide_eq_false hlt]; rfl
end
end Mine

namespace Mine
open PySem

theorem evIt_range2 {Φ : Fns} {ρ : Rho} {a b : E} {m : Int} (h1 : ev Φ ρ a = some (.int 1)) (h2 : ev Φ ρ b = some (.int m)) (h0 : -1000000 ≤ m) (h3 : m ≤ 1000000) : evIt Φ ρ (.range2 a b) = some (rangeD 1 m) := by
  show (ev Φ ρ a).bind _ = _
  rw [h1]
  show (ev Φ ρ b).bind _ = _
  rw [h2]
  exact if_pos ⟨by omega, by decide, h0, h3⟩
theorem rangeD1_some {m : Int} {j : Nat} {d : D} (h : (rangeD 1 m)[j]? = some d) : d = .int (1 + (j : Int)) ∧ 1 + (j : Int) < m := by
  have hl := (List.getElem?_eq_some_iff.mp h).1
  rw [rangeD_get hl] at h
  simp only [rangeD, List.length_map, List.length_range] at hl
  exact ⟨(Option.some.inj h).symm, by omega⟩

theorem shL_more {Φ : Fns} {H : D} : ∀ {m m' i : Nat} {met : List Pt} {th th' : List D}, shL Φ H m i met th = some th' → m ≤ m' → shL Φ H m' i met th = some th'
  | 0, _, i, met, th, th', h, _ => by cases h
  | m + 1, 0, i, met, th, th', h, hm => by omega
  | m + 1, m' + 1, i, met, th, th', h, hm => by
    unfold shL at h ⊢
    split
    · rename_i e; rw [e] at h; exact h
    · rename_i p e
      rw [e] at h
      dsimp only at h
      replace h := ob h
      obtain ⟨t, ht, h⟩ := h
      replace h := ob h
      obtain ⟨r, hr, h⟩ := h
      replace h := ob h
      obtain ⟨row, hrow, h⟩ := h
      replace h := oi' h
      obtain ⟨hc, h⟩ := h
      replace h := ob h
      obtain ⟨q, hq, h⟩ := h
      replace h := oi' h
      obtain ⟨hp, h⟩ := h
      rw [ht, Option.bind_some, hr, Option.bind_some, hrow, Option.bind_some, if_pos hc, hq, Option.bind_some, if_pos hp]
      exact shL_more h (Nat.le_of_succ_le_succ hm)
theorem rho_law9 (a : D) : rho0 F_law9.names F_law9.ps [a] = [some (.arg a), none, none, none, none, none, none, none, none, none, none, none, none, none, none, none, none, none, none] := by kernel_rfl

theorem r_law09 {xs : List Int} : run false P09 20 18 [scr xs] = some (.ok (.bool true)) := by
  have hw : P09[13]? = some F_l_whole := rfl
  have ha : P09[14]? = some F_l_alike := rfl
  have hr : P09[15]? = some F_l_row_alike := rfl
  have hf : P09[16]? = some F_l_fields := rfl
  have ht : P09[11]? = some F_thing_at := rfl
  obtain ⟨y, o, r, bk, hq, G⟩ := r_asked (keep := false) com09 (n := 14) (xs := xs) (rfl : P09[17]? = some F_l_heap_asked)
  rw [run_at (show P09[18]? = some F_law9 from rfl), fnRun_eq rfl, rho_law9]
  have hM : y.length + o.length ≤ 2400 := by have := G.yl; have := G.ol; omega
  have hrp : D.pure (.tup r) = true := okVs.tup G.vr
  have hpr := G.pr
  -- the first turn
  obtain ⟨rs, met, told1, val1, q1, q2, q3, q4, q5⟩ := turn9 (Φ := run false P09 19) (S := scr xs) (rows := []) (i := -1) (row := none) (told := none) (val := none) (vs := r) (met := []) G G.vr ⟨List.nodup_nil, fun p hp => by cases hp⟩ G.rl (by simp) (by
    simp [heapD, hrp])
  obtain ⟨th, i', met', row', told', val', s1, s2, s3, s4⟩ := loop9 com09 (n := 15) (n' := 18) (S := scr xs) ht hf G (.tup rs) (lim - 1) 0 met [] (some (.dat (.tup r))) told1 val1 q2 (Nat.zero_le _) (by rw [lim_n]; omega) rfl (fun t h => by cases h)
  have hrsp : D.pure (.tup rs) = true := tdVs.tup q3
  -- the loop
  have hloop : ex (run false P09 19) (rho9 (scr xs) (heapD y o r bk) [] [] (-1) none none none) (.whl (.cmp .lt (.v 5) (.len (.v 3))) B_law9_2) = some (.next (rho9 (scr xs) (heapD y o r bk) met' (.tup rs :: th) i' row' told' val')) := by
    have cond : (ev (run false P09 19) (rho9 (scr xs) (heapD y o r bk) [] [] (-1) none none none) (.cmp .lt (.v 5) (.len (.v 3)))).bind isTrueD = some true := by simp
    rw [ex_whl]
    exact loopW_turn (by rw [lim_n]; omega) cond q5 (s4 (lim - 1) (Nat.le_refl _))
  have hloop' : ex (run false P09 19) [some (.arg (scr xs)), some (.dat (heapD y o r bk)), some (.dic []), some (.own []), some (.own []), some (.dat (.int (-1))), none, none, none, none, none, none, none, none, none, none, none, none, none] (.whl (.cmp .lt (.v 5) (.len (.v 3))) B_law9_2) = some (.next (rho9 (scr xs) (heapD y o r bk) met' (.tup rs :: th) i' row' told' val')) := hloop
  have hp0 : D.pures [] = true := rfl
  -- shape
  have hshL : shL (run false P09 18) (heapD y o r bk) lim 0 met [] = some th := shL_more s1 (by rw [lim_n]; omega)
  have hsh : run false P09 19 12 [heapD y o r bk] = some (.ok (.tup [.tup rs, .tup th])) := by
    rw [run_ext (show P09[12]? = some F_shape9 from rfl) (show F_shape9.ext = some shapeX from rfl)]
    show (if 4 ≤ 18 then (one [heapD y o r bk]).bind fun H => (shapeD (run false P09 18) H).map Out.ok else none) = _
    rw [if_pos (by decide)]
    show (shapeD (run false P09 18) (heapD y o r bk)).map Out.ok = _
    have : shapeD (run false P09 18) (heapD y o r bk) = some (.tup [.tup rs, .tup th]) := by
      unfold shapeD
      show (if D.pure (.tup r) = true then (rowD [] r).bind _ else none) = _
      rw [if_pos hrp, q1]
      show (if D.pure (.tup rs) = true then (shL _ _ lim 0 met []).map _ else none) = _
      rw [if_pos hrsp, hshL]; rfl
    rw [this]; rfl
  have hfp : D.pure (.tup [.tup rs, .tup th]) = true := by
    refine D.okN_le (n := 4) (by decide) ?_
    rw [D.okN_tup]
    simp [D.okN_le (by decide : 2 ≤ 3) (tdVs.okN q3), s2.okN]
  have hrow0 := r_row (keep := false) (n := 16) hw ha hr (vs := rs) q3 (by have := G.rl; omega)
  -- the last loop
  obtain ⟨ρ', l, _, rfl⟩ := loop_inv (body := fun d ρ => exs (run false P09 19) (ρ.set 10 (some (.dat d))) B_law9_3) (fun _ ρ => ∃ c, ρ = [some (.arg (scr xs)), some (.dat (heapD y o r bk)), some (.dic (nums met')), some (.own (met'.map ptr)), some (.own (.tup rs :: th)), some (.dat (.int i')), row', told', val', some (.dat (.tup [.tup rs, .tup th])), c, none, none, none, none, none, none, none, none]) (rangeD 1 ((th.length : Int) + 1)) 0 [some (.arg (scr xs)), some (.dat (heapD y o r bk)), some (.dic (nums met')), some (.own (met'.map ptr)), some (.own (.tup rs :: th)), some (.dat (.int i')), row', told', val', some (.dat (.tup [.tup rs, .tup th])), none, none, none, none, none, none, none, none, none] ⟨none, rfl⟩ (by
    rintro j d ρ hd ⟨c, rfl⟩
    obtain ⟨rfl, hj⟩ := rangeD1_some hd
    have hj' : j < th.length := by omega
    have e := List.getElem?_eq_getElem hj'
    obtain ⟨ds, e1, e2, e3⟩ := s2 th[j] (List.getElem_mem _)
    rw [e1] at e
    have h1 := r_row (keep := false) (n := 16) hw ha hr (vs := ds) e3 (by omega)
    have a1 : (1 + (j : Int) - 1).toNat = j := by omega
    have a2 : (1 + (j : Int)).toNat = j + 1 := by omega
    have a3 : 0 ≤ 1 + (j : Int) - 1 := by omega
    have a4 : 0 ≤ 1 + (j : Int) := by omega
    have a5 : 1 ≤ 1 + (j : Int) := by omega
    exact ⟨_, .inl (by simp [B_law9_3, a1, a2, a3, a4, a5, e, h1]), some (.dat (.int (1 + (j : Int)))), rfl⟩)
  unfold F_law9
  rw [exs_cons]
  simp [hq, hpr, hp0]
  rw [hloop']
  simp [hsh, hfp, hrow0]
  rw [ex_for (evIt_range2 (m := (th.length : Int) + 1) (by rfl) (by simp) (by omega) (by omega)) (by rfl), l]
  simp
end Mine


open PySem PySem.W PyProof.Rows
namespace Mine
/-- the text's statements but those that set its name -/
noncomputable def q09 : Program := { PySem.Challenge.pw_uf040005_09 with main := { PySem.Challenge.pw_uf040005_09.main with body := ((((PySem.Challenge.pw_uf040005_09.main.body.eraseIdx 11).eraseIdx 8).eraseIdx 3).eraseIdx 0) } }
theorem left09 : LeftO PySem.Challenge.pw_uf040005_09 q09 [] (fun s => xlAt q09 [] s && recOk (RowW.records (PySem.Challenge.rw_uf040005_09.row.toRowW)) s) (Hook.obs Hook.none) (Hook.val Hook.none) 3300 := by
  intro w
  kernel_rfl
noncomputable def c09 : ClsRec := ((plainsOf q09 (looseW q09 [])).find? (fun c => c.name == ("Namer" : Str))).get (by kernel_rfl)
noncomputable def mi09 : MethRec := (c09.meths.find? (fun c => c.name == ("__init__" : Str))).get (by kernel_rfl)
noncomputable def mt09 : MethRec := (c09.meths.find? (fun c => c.name == ("told" : Str))).get (by kernel_rfl)
noncomputable def mr09 : MethRec := (c09.meths.find? (fun c => c.name == ("told_row" : Str))).get (by kernel_rfl)
noncomputable def d09 : DefRec := ((recsOf q09).find? (fun d => d.name == ("shape" : Str))).get (by kernel_rfl)
theorem see09 : See9 q09 fns09 c09 mi09 mt09 mr09 d09 where
  q1 := by kernel_rfl
  i1 := by kernel_rfl
  i2 := by kernel_rfl
  i3 := by kernel_rfl
  i4 := by kernel_rfl
  i5 := fun _ => by kernel_rfl
  t1 := by kernel_rfl
  t2 := by kernel_rfl
  t3 := by kernel_rfl
  t4 := by kernel_rfl
  t5 := by kernel_rfl
  t6 := by kernel_rfl
  t7 := by kernel_rfl
  t8 := fun _ _ => by kernel_rfl
  t9 := by kernel_rfl
  r1 := by kernel_rfl
  r2 := by kernel_rfl
  r3 := by kernel_rfl
  r4 := by kernel_rfl
  r5 := by kernel_rfl
  r6 := by kernel_rfl
  r7 := by kernel_rfl
  r8 := by kernel_rfl
  r9 := by kernel_rfl
  r10 := fun _ _ => by kernel_rfl
  r11 := by kernel_rfl
  d1 := (Option.some_get _).symm
  d2 := by kernel_rfl
  d3 := by kernel_rfl
  d4 := fun _ => by kernel_rfl
  d5 := by kernel_rfl
  d6 := by kernel_rfl
  d7 := by kernel_rfl
  d8 := by kernel_rfl
  d9 := by kernel_rfl
  sn := ⟨by kernel_rfl, by kernel_rfl, by kernel_rfl, by kernel_rfl, by kernel_rfl, by kernel_rfl, by kernel_rfl, by kernel_rfl, by kernel_rfl, by kernel_rfl, by kernel_rfl, by kernel_rfl⟩
end Mine
set_option maxHeartbeats 8000000 in
theorem PySem.Challenge.cw_uf040005_09_holds : PySem.Challenge.rw_uf040005_09.Holds := by
  w_on
  refine holds_law (by decide +kernel) fun said => ?_
  refine holds_open (q := Mine.q09) (loose := []) (Xt := fun s => xlAt Mine.q09 [] s && recOk (RowW.records (PySem.Challenge.rw_uf040005_09.row.toRowW)) s) (XP := XL Mine.q09 []) (Yf := Hook.obs Hook.none) (Ya := Hook.val Hook.none) (YP := Hook.says Hook.none) (N := 3300) Mine.left09 (Hook.of Hook.none) (Hook.keeps Hook.none) (fun s e => xl_of s (Bool.and_eq_true_iff.mp e).1) XL.keeps (by rfl) (by rfl) (by rfl) (fun s e => recFacts_of (Bool.and_eq_true_iff.mp e).2) (by rfl) said (by decide +kernel) ⟨rfl, rfl, rfl, rfl, rfl, by decide +kernel⟩ ?hw ?hc
  case hw => w_witness2
  intro w s₀ s₁ mg mb G Y fa o pm cd doc dV kV ho hd hcd hD hmg hg args vals as hpre hlay hrd hwl hlo
  refine Ground.open G ?_
  intro T B D TE TW
  have hmg' : mg ("law" : Str) = some (.ref fa) := hmg
  clear hd hmg hcd ho B D TW G Y
  obtain ⟨C, N, mN, hC, Pl⟩ := TE Mine.c09 (List.mem_of_find?_eq_some (Option.some_get _).symm)
  have hC' : mg ("Namer" : Str) = some (.ref C) := by rw [← show Mine.c09.name = "Namer" by kernel_rfl]; exact hC
  have EX := fun (pg : Program) (w : World) => Mine.exts9 (prog := pg) (w := w) (P := Mine.P09) (Nn := 40) T (by kernel_rfl) (by decide +kernel) Mine.com09 hC' Pl.ofCmp (List.mem_of_find?_eq_some (Option.some_get _).symm) (List.mem_of_find?_eq_some (Option.some_get _).symm) (List.mem_of_find?_eq_some (Option.some_get _).symm) Mine.see09
  clear TE hC hC' Pl
  wrow_args hpre hlay hrd hwl hlo
  all_goals (
    refine wpAny_mono (Mine.law_runs (fns := Mine.fns09) (P := Mine.P09) (N := 40) (i := 18) (n := "law") T (by kernel_rfl) (by decide +kernel) Mine.X9_noerr (EX _ _) hmg' (by kernel_rfl) (by assumption) (by omega) Mine.r_law09) (fun v s' q => Mine.good_true q hg (raisesW_false (by wrow_none_raised)) (by wrow_post)) (fun _ _ x => x))
